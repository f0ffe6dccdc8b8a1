import PyProof.Rows.All
import PyFlatLaws
import Wide.All
import OpenK.AllK
import Wide.FinOn
import Open.SpecLaws
import KE.OsHead
import KE.OsGo
import HandS.ForMost
import HandS.ForSpec
import HandS.Walk
import HandS.Conv
import HandS.RevRange
import HandS.SortOrd
import HandS.SortRule
import PySem.Challenge.RW_fewboxesdesk_s01_answers
set_option Elab.async false
set_option linter.all false
set_option maxRecDepth 100000
set_option maxHeartbeats 4000000
namespace BX
open BdBox

/-! ### thickness, what a box may hold -/
theorem foldl_add (l : List Nat) : ∀ (a : Nat), l.foldl (fun (a b : Nat) => a + b) a = a + l.sum := by
  induction l with
  | nil => intro a; simp
  | cons x l ih => intro a; rw [List.foldl_cons, ih, List.sum_cons]; omega
theorem thickness_nil : thickness [] = 0 := rfl
theorem thickness_cons (f : BFile) (l : List BFile) : thickness (f :: l) = f.thick + thickness l := by
  unfold thickness
  rw [List.map_cons, List.foldl_cons, foldl_add, foldl_add]
  omega
theorem thickness_append (l m : List BFile) : thickness (l ++ m) = thickness l + thickness m := by
  induction l with
  | nil => simp [thickness_nil]
  | cons f l ih => rw [List.cons_append, thickness_cons, thickness_cons, ih]; omega
theorem thickness_sum (l : List BFile) : thickness l = (l.map (fun f => f.thick)).sum := by
  induction l with
  | nil => rfl
  | cons f l ih => rw [thickness_cons, ih, List.map_cons, List.sum_cons]

/-- how many of the first files a box with so much left may hold -/
def fit : Nat → List BFile → Nat
  | _, [] => 0
  | left, f :: fs => if f.thick ≤ left then fit (left - f.thick) fs + 1 else 0
theorem fit_le : ∀ (fs : List BFile) (left : Nat), fit left fs ≤ fs.length
  | [], _ => Nat.le_refl _
  | f :: fs, left => by
    unfold fit
    split
    · have := fit_le fs (left - f.thick); simp only [List.length_cons]; omega
    · simp
theorem fit_iff : ∀ (fs : List BFile) (left k : Nat), k < fs.length → (thickness (fs.take (k + 1)) ≤ left ↔ k < fit left fs)
  | [], _, k, h => by simp at h
  | f :: fs, left, 0, h => by
    rw [List.take_succ_cons, List.take_zero, thickness_cons, thickness_nil]
    unfold fit
    split <;> omega
  | f :: fs, left, k + 1, h => by
    have h' : k < fs.length := by simp only [List.length_cons] at h; omega
    rw [List.take_succ_cons, thickness_cons]
    unfold fit
    split
    · have ih := fit_iff fs (left - f.thick) k h'
      constructor
      · intro a; have := ih.mp (by omega); omega
      · intro a; have := ih.mpr (by omega); omega
    · omega
theorem filter_range (n N : Nat) (h : N ≤ n) : (List.range n).filter (fun k => decide (k < N)) = List.range N := by
  obtain ⟨r, rfl⟩ : ∃ r, n = N + r := ⟨n - N, by omega⟩
  rw [List.range_add, List.filter_append, List.filter_eq_self.mpr (by intro a ha; simpa using List.mem_range.mp ha), List.filter_eq_nil_iff.mpr, List.append_nil]
  intro a ha
  obtain ⟨b, hb, rfl⟩ := List.mem_map.mp ha
  simp
theorem mayHold_eq (room : Nat) (fs : List BFile) : mayHold room fs = (List.range (fit room fs)).map (fun k => k + 1) := by
  unfold mayHold
  rw [List.filter_map]
  congr 1
  rw [← filter_range fs.length (fit room fs) (fit_le fs room)]
  apply List.filter_congr
  intro k hk
  have := fit_iff fs room k (List.mem_range.mp hk)
  simp only [Function.comp]
  exact decide_eq_decide.mpr this
theorem mem_mayHold {room : Nat} {fs : List BFile} {k : Nat} : k ∈ mayHold room fs ↔ 1 ≤ k ∧ k ≤ fit room fs := by
  rw [mayHold_eq, List.mem_map]
  constructor
  · rintro ⟨a, ha, rfl⟩; have := List.mem_range.mp ha; omega
  · rintro ⟨h1, h2⟩; exact ⟨k - 1, List.mem_range.mpr (by omega), by omega⟩
def Fit (room : Nat) (fs : List BFile) : Prop := ∀ f ∈ fs, f.thick ≤ room
theorem Fit.drop {room : Nat} {fs : List BFile} (h : Fit room fs) (k : Nat) : Fit room (fs.drop k) := fun f hf => h f (List.mem_of_mem_drop hf)
theorem Fit.tail {room : Nat} {f : BFile} {fs : List BFile} (h : Fit room (f :: fs)) : Fit room fs := fun g hg => h g (List.mem_cons_of_mem _ hg)
theorem fit_pos {room : Nat} {fs : List BFile} (h : Fit room fs) (hn : fs ≠ []) : 1 ≤ fit room fs := by
  cases fs with
  | nil => exact absurd rfl hn
  | cons f fs =>
    unfold fit
    rw [if_pos (h f (List.mem_cons_self))]
    omega

/-! ### the table's rows -/
section
variable (old : List Box) (room : Nat)
def rowOf (fs : List BFile) : List Cand := ((tableOf old room fs).head?).getD []
def best (fs : List BFile) (j : Nat) : Cand := ((rowOf old room fs)[j]?).getD ⟨0, 0, []⟩
theorem table_get : ∀ (fs : List BFile) (i : Nat), i ≤ fs.length → (tableOf old room fs)[i]? = some (rowOf old room (fs.drop i))
  | [], 0, _ => rfl
  | [], i + 1, h => by simp at h
  | f :: fs, 0, _ => rfl
  | f :: fs, i + 1, h => by
    show (tableOf old room fs)[i]? = some (rowOf old room (fs.drop i))
    exact table_get fs i (by simp only [List.length_cons] at h; omega)
/-- one box more in front -/
def opt (fs : List BFile) (i : Option Nat) (j k : Nat) : Cand :=
  ⟨(best old room (fs.drop k) j).changed + changedTo old i (fs.take k), (best old room (fs.drop k) j).moved + movedInto old i (fs.take k), (i, fs.take k) :: (best old room (fs.drop k) j).way⟩
def skipOf (c : Cand) : Cand := { c with changed := c.changed + 1 }
def opts (fs : List BFile) (j : Nat) : List Cand :=
  if j < old.length then skipOf (best old room fs (j + 1)) :: ((mayHold room fs).map (fun k => opt old room fs (some j) (j + 1) k) ++ (mayHold room fs).map (fun k => opt old room fs none j k))
  else (mayHold room fs).map (fun k => opt old room fs none j k)
end
theorem leastCand_some {l : List Cand} (h : l ≠ []) : ∃ c, leastCand l = some c := by
  cases l with
  | nil => exact absurd rfl h
  | cons c l =>
    unfold leastCand
    cases leastCand l with
    | none => exact ⟨c, rfl⟩
    | some d => by_cases e : d.better c = true
                · exact ⟨d, by simp [e]⟩
                · exact ⟨c, by simp [e]⟩
section
variable {old : List Box} {room : Nat}
structure RowOk (old : List Box) (room : Nat) (fs : List BFile) : Prop where
  len : (rowOf old room fs).length = old.length + 1
  least : fs ≠ [] → ∀ j, j ≤ old.length → leastCand (opts old room fs j) = some (best old room fs j)
theorem RowOk.get {fs : List BFile} (R : RowOk old room fs) {j : Nat} (h : j ≤ old.length) : (rowOf old room fs)[j]? = some (best old room fs j) := by
  unfold best
  rw [List.getElem?_eq_getElem (by rw [R.len]; omega)]
  rfl
theorem filterMap_map {α β : Type} {g : α → Option β} {f : α → β} : ∀ {l : List α}, (∀ a ∈ l, g a = some (f a)) → l.filterMap g = l.map f
  | [], _ => rfl
  | a :: l, h => by
    rw [List.filterMap_cons, h a List.mem_cons_self, List.map_cons, filterMap_map (fun b hb => h b (List.mem_cons_of_mem _ hb))]
theorem row_ok : ∀ (n : Nat) (fs : List BFile), fs.length = n → Fit room fs → RowOk old room fs := by
  intro n
  induction n using Nat.strongRecOn with
  | _ n IH =>
    intro fs hn hF
    cases fs with
    | nil =>
      refine ⟨?_, fun h => absurd rfl h⟩
      unfold rowOf tableOf
      simp
    | cons f fs =>
      have hb : ∀ (i : Option Nat) (j k : Nat), j ≤ old.length → k ∈ mayHold room (f :: fs) → inBox old i (f :: fs) (tableOf old room fs) j k = some (opt old room (f :: fs) i j k) := by
        intro i j k hj hk
        have hk' := mem_mayHold.mp hk
        have hl := fit_le (f :: fs) room
        simp only [List.length_cons] at hl hn
        obtain ⟨k, rfl⟩ : ∃ q, k = q + 1 := ⟨k - 1, by omega⟩
        unfold inBox opt
        rw [show k + 1 - 1 = k from rfl, table_get old room fs k (by omega)]
        have R : RowOk old room (fs.drop k) := IH (fs.drop k).length (by rw [List.length_drop]; omega) _ rfl (hF.tail.drop k)
        show Option.map _ ((rowOf old room (fs.drop k))[j]?) = _
        rw [R.get hj]
        rfl
      have hm : ∀ (i : Option Nat) (j : Nat), j ≤ old.length → (mayHold room (f :: fs)).filterMap (fun k => inBox old i (f :: fs) (tableOf old room fs) j k) = (mayHold room (f :: fs)).map (fun k => opt old room (f :: fs) i j k) :=
        fun i j hj => filterMap_map (fun k hk => hb i j k hj hk)
      have hks : mayHold room (f :: fs) ≠ [] := by
        have := fit_pos hF (by simp)
        intro e
        have h1 : 1 ∈ mayHold room (f :: fs) := mem_mayHold.mpr ⟨Nat.le_refl _, this⟩
        rw [e] at h1
        simp at h1
      -- the rows by parts
      have step : ∀ m, m + 1 ≤ old.length → ∃ c, candsFrom old room (f :: fs) (tableOf old room fs) (m + 1) = c :: candsFrom old room (f :: fs) (tableOf old room fs) m ∧
          leastCand (((candsFrom old room (f :: fs) (tableOf old room fs) m).head?.map skipOf).toList ++ ((mayHold room (f :: fs)).map (fun k => opt old room (f :: fs) (some (old.length - (m + 1))) (old.length - (m + 1) + 1) k) ++ (mayHold room (f :: fs)).map (fun k => opt old room (f :: fs) none (old.length - (m + 1)) k))) = some c := by
        intro m hm'
        have e : candsFrom old room (f :: fs) (tableOf old room fs) (m + 1) = (leastCand (((candsFrom old room (f :: fs) (tableOf old room fs) m).head?.map skipOf).toList ++ ((mayHold room (f :: fs)).filterMap (fun k => inBox old (some (old.length - (m + 1))) (f :: fs) (tableOf old room fs) (old.length - (m + 1) + 1) k) ++ (mayHold room (f :: fs)).filterMap (fun k => inBox old none (f :: fs) (tableOf old room fs) (old.length - (m + 1)) k)))).toList ++ candsFrom old room (f :: fs) (tableOf old room fs) m := rfl
        rw [hm _ _ (by omega), hm _ _ (by omega)] at e
        obtain ⟨c, hc⟩ := leastCand_some (l := ((candsFrom old room (f :: fs) (tableOf old room fs) m).head?.map skipOf).toList ++ ((mayHold room (f :: fs)).map (fun k => opt old room (f :: fs) (some (old.length - (m + 1))) (old.length - (m + 1) + 1) k) ++ (mayHold room (f :: fs)).map (fun k => opt old room (f :: fs) none (old.length - (m + 1)) k))) (by
          intro e
          have h2 := (List.append_eq_nil_iff.mp e).2
          have h3 := (List.append_eq_nil_iff.mp h2).2
          exact hks (List.map_eq_nil_iff.mp h3))
        refine ⟨c, ?_, hc⟩
        rw [e, hc]
        rfl
      have zero : ∃ c, candsFrom old room (f :: fs) (tableOf old room fs) 0 = [c] ∧ leastCand ((mayHold room (f :: fs)).map (fun k => opt old room (f :: fs) none old.length k)) = some c := by
        have e : candsFrom old room (f :: fs) (tableOf old room fs) 0 = (leastCand ((mayHold room (f :: fs)).filterMap (fun k => inBox old none (f :: fs) (tableOf old room fs) old.length k))).toList := rfl
        rw [hm _ _ (by omega)] at e
        obtain ⟨c, hc⟩ := leastCand_some (l := (mayHold room (f :: fs)).map (fun k => opt old room (f :: fs) none old.length k)) (fun e => hks (List.map_eq_nil_iff.mp e))
        exact ⟨c, by rw [e, hc]; rfl, hc⟩
      have lens : ∀ m, m ≤ old.length → (candsFrom old room (f :: fs) (tableOf old room fs) m).length = m + 1 := by
        intro m
        induction m with
        | zero => intro _; obtain ⟨c, hc, _⟩ := zero; rw [hc]; rfl
        | succ m ih => intro h; obtain ⟨c, hc, _⟩ := step m h; rw [hc, List.length_cons, ih (by omega)]
      have er : rowOf old room (f :: fs) = candsFrom old room (f :: fs) (tableOf old room fs) old.length := rfl
      have shift : ∀ d m, m + d ≤ old.length → ∀ i, (candsFrom old room (f :: fs) (tableOf old room fs) (m + d))[d + i]? = (candsFrom old room (f :: fs) (tableOf old room fs) m)[i]? := by
        intro d
        induction d with
        | zero => intro m _ i; rw [Nat.zero_add]; rfl
        | succ d ih =>
          intro m h i
          obtain ⟨c, hc, _⟩ := step (m + d) (by omega)
          rw [show m + (d + 1) = m + d + 1 by omega, hc, show d + 1 + i = d + i + 1 by omega, List.getElem?_cons_succ]
          exact ih m (by omega) i
      have at_ : ∀ m, m ≤ old.length → (candsFrom old room (f :: fs) (tableOf old room fs) m)[0]? = some (best old room (f :: fs) (old.length - m)) := by
        intro m h
        have h1 := shift (old.length - m) m (by omega) 0
        rw [show m + (old.length - m) = old.length by omega, ← er] at h1
        rw [← h1]
        unfold best
        rw [show old.length - m + 0 = old.length - m from rfl, List.getElem?_eq_getElem (by rw [er, lens _ (Nat.le_refl _)]; omega)]
        rfl
      refine ⟨by rw [er, lens _ (Nat.le_refl _)], fun _ j hj => ?_⟩
      by_cases hjm : j < old.length
      · obtain ⟨m, hm', rfl⟩ : ∃ m, m + 1 ≤ old.length ∧ j = old.length - (m + 1) := ⟨old.length - j - 1, by omega, by omega⟩
        obtain ⟨c, hc, hl⟩ := step m hm'
        have h0 := at_ (m + 1) hm'
        rw [hc] at h0
        have h0 : c = best old room (f :: fs) (old.length - (m + 1)) := Option.some.inj h0
        have h1 := at_ m (by omega)
        have hh : (candsFrom old room (f :: fs) (tableOf old room fs) m).head? = some (best old room (f :: fs) (old.length - m)) := by
          rw [List.head?_eq_getElem?]; exact h1
        rw [hh] at hl
        unfold opts
        rw [if_pos hjm, ← h0, ← hl, show old.length - (m + 1) + 1 = old.length - m by omega]
        rfl
      · have hj' : j = old.length := by omega
        subst hj'
        obtain ⟨c, hc, hl⟩ := zero
        have h0 := at_ 0 (Nat.zero_le _)
        rw [hc] at h0
        have h0 : c = best old room (f :: fs) (old.length - 0) := Option.some.inj h0
        unfold opts
        rw [if_neg hjm, hl, h0]
        rfl
theorem best_nil (j : Nat) (h : j ≤ old.length) : best old room [] j = ⟨old.length - j, 0, []⟩ := by
  have e : rowOf old room [] = (List.range (old.length + 1)).map (fun j => (⟨old.length - j, 0, []⟩ : Cand)) := rfl
  unfold best
  rw [e, List.getElem?_map, List.getElem?_range (by omega)]
  rfl
theorem wayTaken_eq {fs : List BFile} (hF : Fit room fs) : wayTaken old room fs = (best old room fs 0).way := by
  have R := row_ok (old := old) fs.length fs rfl hF
  have h1 := table_get old room fs 0 (Nat.zero_le _)
  have h2 := R.get (Nat.zero_le _)
  unfold wayTaken
  rw [List.head?_eq_getElem?, h1]
  show (((rowOf old room fs).head?).map (fun c => c.way)).getD [] = _
  rw [List.head?_eq_getElem?, h2]
  rfl
end
end BX

namespace BX
open BdBox

/-! ### ways that hold the same files -/
def WayOk (room m : Nat) : Nat → List BFile → Way → Prop
  | _, fs, [] => fs = []
  | j, fs, (i, l) :: w => l ≠ [] ∧ thickness l ≤ room ∧ ∃ r, fs = l ++ r ∧ (∀ a, i = some a → j ≤ a ∧ a < m) ∧ WayOk room m (match i with | none => j | some a => a + 1) r w
def nxt (j : Nat) : Option Nat → Nat
  | none => j
  | some a => a + 1
theorem WayOk.cons {room m j : Nat} {fs : List BFile} {i : Option Nat} {l : List BFile} {w : Way} (h : WayOk room m j fs ((i, l) :: w)) :
    l ≠ [] ∧ thickness l ≤ room ∧ ∃ r, fs = l ++ r ∧ (∀ a, i = some a → j ≤ a ∧ a < m) ∧ WayOk room m (nxt j i) r w := by
  obtain ⟨h1, h2, r, h3, h4, h5⟩ := h
  refine ⟨h1, h2, r, h3, h4, ?_⟩
  cases i <;> exact h5
theorem WayOk.mk {room m j : Nat} {fs r : List BFile} {i : Option Nat} {l : List BFile} {w : Way} (h1 : l ≠ []) (h2 : thickness l ≤ room) (h3 : fs = l ++ r) (h4 : ∀ a, i = some a → j ≤ a ∧ a < m) (h5 : WayOk room m (nxt j i) r w) : WayOk room m j fs ((i, l) :: w) := by
  refine ⟨h1, h2, r, h3, h4, ?_⟩
  cases i <;> exact h5
theorem WayOk.mono {room m : Nat} : ∀ {w : Way} {j j' : Nat} {fs : List BFile}, j' ≤ j → WayOk room m j fs w → WayOk room m j' fs w
  | [], _, _, _, _, h => h
  | (i, l) :: w, j, j', fs, hj, h => by
    obtain ⟨h1, h2, r, h3, h4, h5⟩ := h.cons
    refine .mk h1 h2 h3 (fun a e => ⟨Nat.le_trans hj (h4 a e).1, (h4 a e).2⟩) ?_
    cases i with
    | none => exact WayOk.mono hj h5
    | some a => exact h5

/-! ### the order of ways -/
def oLt : Option Nat → Option Nat → Prop
  | some i, some j => i < j
  | some _, none => True
  | _, _ => False
theorem boxFirst_iff (x y : Option Nat × List BFile) : boxFirst x y = true ↔ (y.2.length < x.2.length ∨ (x.2.length = y.2.length ∧ oLt x.1 y.1)) := by
  obtain ⟨x1, x2⟩ := x
  obtain ⟨y1, y2⟩ := y
  cases x1 <;> cases y1 <;> simp [boxFirst, oLt]
theorem boxAlike_iff (x y : Option Nat × List BFile) : boxAlike x y = true ↔ (x.2.length = y.2.length ∧ x.1 = y.1) := by
  obtain ⟨x1, x2⟩ := x
  obtain ⟨y1, y2⟩ := y
  simp [boxAlike]
theorem oLt_irrefl {a : Option Nat} : ¬ oLt a a := by cases a <;> simp [oLt]
theorem oLt_asymm {a b : Option Nat} (h : oLt a b) : ¬ oLt b a := by
  cases a <;> cases b <;> simp [oLt] at h ⊢ <;> omega
theorem oLt_total {a b : Option Nat} (h : ¬ oLt a b) (h' : ¬ oLt b a) : a = b := by
  cases a <;> cases b <;> simp [oLt] at h h' ⊢ <;> omega
theorem oLt_trans {a b c : Option Nat} (h : oLt a b) (h' : oLt b c) : oLt a c := by
  cases a <;> cases b <;> cases c <;> simp [oLt] at h h' ⊢ <;> omega
theorem wf_cons (x y : Option Nat × List BFile) (l m : Way) : wayFirst (x :: l) (y :: m) = true ↔ (boxFirst x y = true ∨ (boxAlike x y = true ∧ wayFirst l m = true)) := by
  simp [wayFirst]
theorem wf_same (x : Option Nat × List BFile) (l m : Way) : wayFirst (x :: l) (x :: m) = wayFirst l m := by
  rw [Bool.eq_iff_iff, wf_cons, boxFirst_iff, boxAlike_iff]
  constructor
  · rintro ((h | ⟨_, h⟩) | ⟨_, h⟩)
    · omega
    · exact absurd h oLt_irrefl
    · exact h
  · intro h; exact .inr ⟨⟨rfl, rfl⟩, h⟩
theorem wf_trans : ∀ {a b c : Way}, wayFirst a b = true → wayFirst b c = true → wayFirst a c = true
  | [], b, c, h, _ => by simp [wayFirst] at h
  | x :: a, [], c, h, _ => by simp [wayFirst] at h
  | x :: a, y :: b, [], _, h => by simp [wayFirst] at h
  | x :: a, y :: b, z :: c, h, h' => by
    rw [wf_cons] at h h' ⊢
    rw [boxFirst_iff, boxAlike_iff] at h h' ⊢
    rcases h with (h | ⟨h, o⟩) | ⟨⟨h, o⟩, t⟩ <;> rcases h' with (h' | ⟨h', o'⟩) | ⟨⟨h', o'⟩, t'⟩
    · left; left; omega
    · left; left; omega
    · left; left; omega
    · left; left; omega
    · left; right; exact ⟨by omega, oLt_trans o o'⟩
    · left; right; exact ⟨by omega, by rw [← o']; exact o⟩
    · left; left; omega
    · left; right; exact ⟨by omega, by rw [o]; exact o'⟩
    · right; exact ⟨⟨by omega, o.trans o'⟩, wf_trans t t'⟩
theorem wf_irrefl : ∀ (a : Way), wayFirst a a = false
  | [] => rfl
  | x :: a => by rw [wf_same]; exact wf_irrefl a
theorem wf_total {room m : Nat} : ∀ {v w : Way} {j j' : Nat} {fs : List BFile}, WayOk room m j fs v → WayOk room m j' fs w → wayFirst v w = false → wayFirst w v = false → v = w
  | [], [], _, _, _, _, _, _, _ => rfl
  | [], (i, l) :: w, j, j', fs, h, h', _, _ => by
    obtain ⟨h1, _, r, h3, _⟩ := h'.cons
    rw [show fs = [] from h] at h3
    exact absurd (List.append_eq_nil_iff.mp h3.symm).1 h1
  | (i, l) :: w, [], j, j', fs, h', h, _, _ => by
    obtain ⟨h1, _, r, h3, _⟩ := h'.cons
    rw [show fs = [] from h] at h3
    exact absurd (List.append_eq_nil_iff.mp h3.symm).1 h1
  | (i, l) :: v, (i', l') :: w, j, j', fs, h, h', n, n' => by
    obtain ⟨h1, _, r, h3, _, h5⟩ := h.cons
    obtain ⟨h1', _, r', h3', _, h5'⟩ := h'.cons
    have a := (Bool.eq_false_iff.mp n : ¬ _)
    have b := (Bool.eq_false_iff.mp n' : ¬ _)
    rw [show ∀ (x y), (wayFirst x y ≠ true) = ¬ wayFirst x y = true from fun _ _ => rfl, wf_cons, boxFirst_iff, boxAlike_iff] at a b
    simp only at a b
    have el : l.length = l'.length := by
      apply Classical.byContradiction
      intro q
      rcases Nat.lt_or_gt_of_ne q with c | c
      · exact b (.inl (.inl c))
      · exact a (.inl (.inl c))
    have ei : i = i' := oLt_total (fun c => a (.inl (.inr ⟨el, c⟩))) (fun c => b (.inl (.inr ⟨el.symm, c⟩)))
    have ell : l = l' := by
      have e : l ++ r = l' ++ r' := h3.symm.trans h3'
      exact (List.append_inj e el).1
    have er : r = r' := by
      have e : l ++ r = l' ++ r' := h3.symm.trans h3'
      exact (List.append_inj e el).2
    subst ei ell er
    have t := wf_total h5 h5' (Bool.eq_false_iff.mpr fun c => a (.inr ⟨⟨rfl, rfl⟩, c⟩)) (Bool.eq_false_iff.mpr fun c => b (.inr ⟨⟨rfl, rfl⟩, c⟩))
    rw [t]
/-- over ways of the same files: not first twice -/
theorem wf_ntrans {room m : Nat} {a b c : Way} {j1 j2 j3 : Nat} {fs : List BFile} (A : WayOk room m j1 fs a) (B : WayOk room m j2 fs b) (C : WayOk room m j3 fs c) (h : wayFirst a b = false) (h' : wayFirst b c = false) : wayFirst a c = false := by
  apply Classical.byContradiction
  intro q
  have q : wayFirst a c = true := by simpa using q
  cases e : wayFirst b a with
  | true => have := wf_trans e q; rw [h'] at this; cases this
  | false =>
    have := wf_total A B h e
    subst this
    rw [q] at h'
    cases h'

/-! ### better, of candidates -/
theorem better_iff (a b : Cand) : a.better b = true ↔ (a.changed < b.changed ∨ (a.changed = b.changed ∧ (a.moved < b.moved ∨ (a.moved = b.moved ∧ wayFirst a.way b.way = true)))) := by
  simp [Cand.better]
theorem nbetter_iff (a b : Cand) : a.better b = false ↔ (b.changed < a.changed ∨ (b.changed = a.changed ∧ (b.moved < a.moved ∨ (b.moved = a.moved ∧ wayFirst a.way b.way = false)))) := by
  rw [← Bool.not_eq_true, better_iff]
  cases wayFirst a.way b.way <;> simp <;> omega
theorem better_asymm {a b : Cand} (h : a.better b = true) : b.better a = false := by
  rw [better_iff] at h
  rw [nbetter_iff]
  rcases h with h | ⟨h1, h | ⟨h2, h⟩⟩
  · exact .inl h
  · exact .inr ⟨h1, .inl h⟩
  · refine .inr ⟨h1, .inr ⟨h2, ?_⟩⟩
    cases e : wayFirst b.way a.way with
    | false => rfl
    | true => have := wf_trans h e; rw [wf_irrefl] at this; cases this
theorem better_ntrans {room m : Nat} {a b c : Cand} {j1 j2 j3 : Nat} {fs : List BFile} (A : WayOk room m j1 fs a.way) (B : WayOk room m j2 fs b.way) (C : WayOk room m j3 fs c.way) (h : a.better b = false) (h' : b.better c = false) : a.better c = false := by
  rw [nbetter_iff] at h h' ⊢
  rcases h with h | ⟨h1, h | ⟨h2, h⟩⟩ <;> rcases h' with h' | ⟨h1', h' | ⟨h2', h'⟩⟩
  · left; omega
  · left; omega
  · left; omega
  · left; omega
  · right; exact ⟨by omega, .inl (by omega)⟩
  · right; exact ⟨by omega, .inl (by omega)⟩
  · left; omega
  · right; exact ⟨by omega, .inl (by omega)⟩
  · right; exact ⟨by omega, .inr ⟨by omega, wf_ntrans A B C h h'⟩⟩
theorem leastCand_min {room m : Nat} {fs : List BFile} : ∀ {l : List Cand} {c : Cand}, (∀ d ∈ l, ∃ j, WayOk room m j fs d.way) → leastCand l = some c → c ∈ l ∧ ∀ d ∈ l, d.better c = false
  | [], c, _, h => by simp [leastCand] at h
  | x :: l, c, H, h => by
    unfold leastCand at h
    cases e : leastCand l with
    | none =>
      rw [e] at h
      have el : l = [] := by
        apply Classical.byContradiction
        intro q
        obtain ⟨d, hd⟩ := leastCand_some q
        rw [e] at hd; cases hd
      have : x = c := Option.some.inj h
      subst this el
      refine ⟨List.mem_cons_self, fun d hd => ?_⟩
      have : d = x := by simpa using hd
      subst this
      rw [nbetter_iff]; exact .inr ⟨rfl, .inr ⟨rfl, wf_irrefl _⟩⟩
    | some d =>
      rw [e] at h
      obtain ⟨m1, m2⟩ := leastCand_min (fun d hd => H d (List.mem_cons_of_mem _ hd)) e
      by_cases q : d.better x = true
      · have : d = c := by simpa [q] using h
        subst this
        refine ⟨List.mem_cons_of_mem _ m1, fun y hy => ?_⟩
        rcases List.mem_cons.mp hy with rfl | hy
        · exact better_asymm q
        · exact m2 y hy
      · have : x = c := by simpa [q] using h
        subst this
        refine ⟨List.mem_cons_self, fun y hy => ?_⟩
        rcases List.mem_cons.mp hy with rfl | hy
        · rw [nbetter_iff]; exact .inr ⟨rfl, .inr ⟨rfl, wf_irrefl _⟩⟩
        · obtain ⟨j1, w1⟩ := H y (List.mem_cons_of_mem _ hy)
          obtain ⟨j2, w2⟩ := H d (List.mem_cons_of_mem _ m1)
          obtain ⟨j3, w3⟩ := H x List.mem_cons_self
          exact better_ntrans w1 w2 w3 (m2 y hy) (by simpa using q)

/-! ### the best are ways, and no option is better -/
section
variable {old : List Box} {room : Nat}
theorem movedInto_le (i : Option Nat) (l : List BFile) : movedInto old i l ≤ l.length := by
  unfold movedInto
  exact List.length_filter_le _ _
theorem changedTo_le (i : Option Nat) (l : List BFile) : changedTo old i l ≤ 1 := by
  unfold changedTo
  cases i <;> simp
  split <;> omega
structure Good (old : List Box) (room : Nat) (fs : List BFile) (j : Nat) (c : Cand) : Prop where
  way : WayOk room old.length j fs c.way
  moved : c.moved ≤ fs.length
theorem take_ok {fs : List BFile} {k : Nat} (hk : k ∈ mayHold room fs) : 1 ≤ k ∧ k ≤ fs.length ∧ fs.take k ≠ [] ∧ thickness (fs.take k) ≤ room ∧ (fs.take k).length = k := by
  have h := mem_mayHold.mp hk
  have h2 := fit_le fs room
  obtain ⟨q, rfl⟩ : ∃ q, k = q + 1 := ⟨k - 1, by omega⟩
  have e : (fs.take (q + 1)).length = q + 1 := by rw [List.length_take]; omega
  refine ⟨h.1, by omega, fun z => ?_, (fit_iff fs room q (by omega)).mpr (by omega), e⟩
  rw [z] at e; simp at e
theorem opt_good {fs : List BFile} {i : Option Nat} {j k : Nat} (hk : k ∈ mayHold room fs) (hi : ∀ a, i = some a → j ≤ a ∧ a < old.length) (G : Good old room (fs.drop k) (nxt j i) (best old room (fs.drop k) (nxt j i))) : Good old room fs j (opt old room fs i (nxt j i) k) := by
  obtain ⟨h1, h2, h3, h4, h5⟩ := take_ok hk
  refine ⟨.mk h3 h4 (List.take_append_drop k fs).symm hi G.way, ?_⟩
  have := G.moved
  have := movedInto_le (old := old) i (fs.take k)
  rw [List.length_drop] at *
  show _ + _ ≤ _
  omega
theorem best_good : ∀ (n : Nat) (fs : List BFile), fs.length = n → Fit room fs → ∀ d j, d = old.length - j → j ≤ old.length → Good old room fs j (best old room fs j) := by
  intro n
  induction n using Nat.strongRecOn with
  | _ n IH =>
    intro fs hn hF d
    cases fs with
    | nil =>
      intro j _ hj
      rw [best_nil j hj]
      exact ⟨rfl, Nat.le_refl _⟩
    | cons f fs =>
      have R := row_ok (old := old) (f :: fs).length (f :: fs) rfl hF
      have og : ∀ (i : Option Nat) (j k : Nat), k ∈ mayHold room (f :: fs) → j ≤ old.length → (∀ a, i = some a → j ≤ a ∧ a < old.length) → Good old room (f :: fs) j (opt old room (f :: fs) i (nxt j i) k) := by
        intro i j k hk hj hi
        have t := take_ok hk
        refine opt_good hk hi (IH _ ?_ _ rfl (hF.drop k) _ _ rfl ?_)
        · rw [List.length_drop]; omega
        · cases i with
          | none => exact hj
          | some a => exact (hi a rfl).2
      induction d with
      | zero =>
        intro j hd hj
        have ej : j = old.length := by omega
        have L := R.least (by simp) j hj
        unfold opts at L
        rw [if_neg (by omega)] at L
        have M := (leastCand_min (room := room) (m := old.length) (fs := f :: fs) (fun c hc => by
          obtain ⟨k, hk, rfl⟩ := List.mem_map.mp hc
          exact ⟨j, (og none j k hk hj (fun _ e => by cases e)).way⟩) L).1
        obtain ⟨k, hk, e⟩ := List.mem_map.mp M
        rw [← e]
        exact og none j k hk hj (fun _ e => by cases e)
      | succ d ih =>
        intro j hd hj
        have hlt : j < old.length := by omega
        have L := R.least (by simp) j hj
        unfold opts at L
        rw [if_pos hlt] at L
        have B := ih (j + 1) (by omega) (by omega)
        have all : ∀ c ∈ skipOf (best old room (f :: fs) (j + 1)) :: ((mayHold room (f :: fs)).map (fun k => opt old room (f :: fs) (some j) (j + 1) k) ++ (mayHold room (f :: fs)).map (fun k => opt old room (f :: fs) none j k)), Good old room (f :: fs) j c := by
          intro c hc
          rcases List.mem_cons.mp hc with rfl | hc
          · exact ⟨B.way.mono (by omega), B.moved⟩
          · rcases List.mem_append.mp hc with hc | hc
            · obtain ⟨k, hk, rfl⟩ := List.mem_map.mp hc
              exact og (some j) j k hk hj (fun a e => by cases e; omega)
            · obtain ⟨k, hk, rfl⟩ := List.mem_map.mp hc
              exact og none j k hk hj (fun a e => by cases e)
        exact all _ (leastCand_min (room := room) (m := old.length) (fs := f :: fs) (fun c hc => ⟨j, (all c hc).way⟩) L).1
theorem Good.best {fs : List BFile} (hF : Fit room fs) {j : Nat} (hj : j ≤ old.length) : Good old room fs j (BX.best old room fs j) := best_good _ _ rfl hF _ _ rfl hj
/-- an option from j on: boxes up to i passed over -/
def optC (old : List Box) (room : Nat) (fs : List BFile) (j : Nat) (i : Option Nat) (k : Nat) : Cand :=
  match i with
  | none => opt old room fs none j k
  | some a => { opt old room fs (some a) (a + 1) k with changed := (opt old room fs (some a) (a + 1) k).changed + (a - j) }
theorem opt_all {fs : List BFile} (hF : Fit room fs) {i : Option Nat} {j k : Nat} (hk : k ∈ mayHold room fs) (hj : j ≤ old.length) (hi : ∀ a, i = some a → j ≤ a ∧ a < old.length) : Good old room fs j (opt old room fs i (nxt j i) k) := by
  refine opt_good hk hi (Good.best (hF.drop k) ?_)
  cases i with
  | none => exact hj
  | some a => exact (hi a rfl).2
theorem optC_good {fs : List BFile} (hF : Fit room fs) {i : Option Nat} {j k : Nat} (hk : k ∈ mayHold room fs) (hj : j ≤ old.length) (hi : ∀ a, i = some a → j ≤ a ∧ a < old.length) : Good old room fs j (optC old room fs j i k) := by
  have := opt_all (old := old) hF hk hj hi
  cases i with
  | none => exact this
  | some a => exact ⟨this.way, this.moved⟩
theorem optC_way {fs : List BFile} {i : Option Nat} {j k : Nat} : (optC old room fs j i k).way = (i, fs.take k) :: (best old room (fs.drop k) (nxt j i)).way := by
  cases i <;> rfl
theorem opts_good {fs : List BFile} (hF : Fit room fs) {j : Nat} (hj : j ≤ old.length) : ∀ c ∈ opts old room fs j, Good old room fs j c := by
  intro c hc
  unfold opts at hc
  split at hc
  · next hlt =>
    rcases List.mem_cons.mp hc with rfl | hc
    · have B := Good.best (old := old) (room := room) hF (show j + 1 ≤ old.length from hlt)
      exact ⟨B.way.mono (by omega), B.moved⟩
    · rcases List.mem_append.mp hc with hc | hc
      · obtain ⟨k, hk, rfl⟩ := List.mem_map.mp hc
        exact opt_all hF (i := some j) hk hj (fun a e => by cases e; omega)
      · obtain ⟨k, hk, rfl⟩ := List.mem_map.mp hc
        exact opt_all hF (i := none) hk hj (fun a e => by cases e)
  · obtain ⟨k, hk, rfl⟩ := List.mem_map.mp hc
    exact opt_all hF (i := none) hk hj (fun a e => by cases e)
theorem best_min {fs : List BFile} (hF : Fit room fs) (hn : fs ≠ []) {j : Nat} (hj : j ≤ old.length) : best old room fs j ∈ opts old room fs j ∧ ∀ d ∈ opts old room fs j, d.better (best old room fs j) = false :=
  leastCand_min (room := room) (m := old.length) (fs := fs) (fun c hc => ⟨j, (opts_good hF hj c hc).way⟩) ((row_ok (old := old) fs.length fs rfl hF).least hn j hj)
theorem skip_better {c d : Cand} : (skipOf c).better (skipOf d) = c.better d := by
  rw [Bool.eq_iff_iff, better_iff, better_iff]
  simp [skipOf]
theorem optC_skip {fs : List BFile} {j a k : Nat} (h : j < a) : optC old room fs j (some a) k = skipOf (optC old room fs (j + 1) (some a) k) := by
  unfold optC skipOf
  simp only
  congr 1
  omega
theorem optC_here {fs : List BFile} {j k : Nat} : optC old room fs j (some j) k = opt old room fs (some j) (j + 1) k := by
  unfold optC
  simp
/-- no option is better -/
theorem none_better {fs : List BFile} (hF : Fit room fs) (hn : fs ≠ []) {i : Option Nat} {k : Nat} (hk : k ∈ mayHold room fs) : ∀ d j, d = old.length - j → j ≤ old.length → (∀ a, i = some a → j ≤ a ∧ a < old.length) → (optC old room fs j i k).better (best old room fs j) = false := by
  intro d
  induction d with
  | zero =>
    intro j hd hj hi
    have M := (best_min (old := old) hF hn hj).2
    cases i with
    | some a => have := hi a rfl; omega
    | none =>
      refine M _ ?_
      unfold opts
      rw [if_neg (by omega)]
      exact List.mem_map.mpr ⟨k, hk, rfl⟩
  | succ d ih =>
    intro j hd hj hi
    have hlt : j < old.length := by omega
    have M := (best_min (old := old) hF hn hj).2
    cases i with
    | none =>
      refine M _ ?_
      unfold opts
      rw [if_pos hlt]
      exact List.mem_cons_of_mem _ (List.mem_append_right _ (List.mem_map.mpr ⟨k, hk, rfl⟩))
    | some a =>
      have ha := hi a rfl
      by_cases e : a = j
      · subst e
        rw [optC_here]
        refine M _ ?_
        unfold opts
        rw [if_pos hlt]
        exact List.mem_cons_of_mem _ (List.mem_append_left _ (List.mem_map.mpr ⟨k, hk, rfl⟩))
      · have I := ih (j + 1) (by omega) (by omega) (fun b eb => by cases eb; omega)
        rw [optC_skip (by omega)]
        have S : (skipOf (best old room fs (j + 1))).better (best old room fs j) = false := by
          refine M _ ?_
          unfold opts
          rw [if_pos hlt]
          exact List.mem_cons_self
        have G1 := optC_good (old := old) hF hk (j := j + 1) (by omega) (i := some a) (fun b eb => by cases eb; omega)
        have G2 := Good.best (old := old) (room := room) hF (j := j + 1) (by omega)
        have G3 := Good.best (old := old) (room := room) hF hj
        exact better_ntrans (a := skipOf (optC old room fs (j + 1) (some a) k)) (b := skipOf (best old room fs (j + 1))) G1.way G2.way G3.way (by rw [skip_better]; exact I) S
theorem eq_of_nbetter {m j1 j2 : Nat} {fs : List BFile} {a b : Cand} (A : WayOk room m j1 fs a.way) (B : WayOk room m j2 fs b.way) (h : a.better b = false) (h' : b.better a = false) : a = b := by
  rw [nbetter_iff] at h h'
  have e1 : a.changed = b.changed := by omega
  have e2 : a.moved = b.moved := by omega
  have w1 : wayFirst a.way b.way = false := by
    rcases h with h | ⟨_, h | ⟨_, h⟩⟩
    · omega
    · omega
    · exact h
  have w2 : wayFirst b.way a.way = false := by
    rcases h' with h | ⟨_, h | ⟨_, h⟩⟩
    · omega
    · omega
    · exact h
  have e3 := wf_total A B w1 w2
  obtain ⟨a1, a2, a3⟩ := a
  obtain ⟨b1, b2, b3⟩ := b
  simp only at e1 e2 e3
  rw [e1, e2, e3]
theorem ext_better {fs : List BFile} {c d : Cand} {x y : Nat} {b : Option Nat × List BFile} : (⟨c.changed + x, c.moved + y, b :: c.way⟩ : Cand).better ⟨d.changed + x, d.moved + y, b :: d.way⟩ = c.better d := by
  rw [Bool.eq_iff_iff, better_iff, better_iff]
  simp [wf_same]
/-- the best is an option -/
theorem best_opt {fs : List BFile} (hF : Fit room fs) (hn : fs ≠ []) : ∀ d j, d = old.length - j → j ≤ old.length → ∃ i k, k ∈ mayHold room fs ∧ (∀ a, i = some a → j ≤ a ∧ a < old.length) ∧ best old room fs j = optC old room fs j i k := by
  intro d
  induction d with
  | zero =>
    intro j hd hj
    have M := (best_min (old := old) hF hn hj).1
    unfold opts at M
    rw [if_neg (by omega)] at M
    obtain ⟨k, hk, e⟩ := List.mem_map.mp M
    exact ⟨none, k, hk, fun a e => (by cases e), e.symm⟩
  | succ d ih =>
    intro j hd hj
    have hlt : j < old.length := by omega
    have M := (best_min (old := old) hF hn hj).1
    unfold opts at M
    rw [if_pos hlt] at M
    rcases List.mem_cons.mp M with M | M
    · obtain ⟨i, k, hk, hi, e⟩ := ih (j + 1) (by omega) (by omega)
      cases i with
      | some a =>
        have ha := hi a rfl
        refine ⟨some a, k, hk, fun b eb => (by cases eb; omega), ?_⟩
        rw [M, e]
        exact (optC_skip (by omega)).symm
      | none =>
        refine ⟨none, k, hk, fun b eb => (by cases eb), ?_⟩
        have t := take_ok hk
        have G1 := Good.best (old := old) (room := room) hF hj
        have G2 := optC_good (old := old) hF hk hj (i := none) (fun b eb => by cases eb)
        refine eq_of_nbetter G1.way G2.way ?_ (none_better hF hn hk _ j rfl hj (fun b eb => by cases eb))
        -- the rest with a box less passed is no worse
        have S : (skipOf (best old room (fs.drop k) (j + 1))).better (best old room (fs.drop k) j) = false := by
          by_cases q : fs.drop k = []
          · rw [q, best_nil _ (by omega), best_nil _ hj, nbetter_iff]
            refine .inr ⟨?_, .inr ⟨rfl, rfl⟩⟩
            show old.length - j = old.length - (j + 1) + 1
            omega
          · refine (best_min (old := old) (hF.drop k) q hj).2 _ ?_
            unfold opts
            rw [if_pos hlt]
            exact List.mem_cons_self
        rw [M, e]
        have X := ext_better (fs := fs) (c := skipOf (best old room (fs.drop k) (j + 1))) (d := best old room (fs.drop k) j) (x := changedTo old none (fs.take k)) (y := movedInto old none (fs.take k)) (b := (none, fs.take k))
        rw [S] at X
        rw [← X]
        congr 1
    · rcases List.mem_append.mp M with M | M
      · obtain ⟨k, hk, e⟩ := List.mem_map.mp M
        refine ⟨some j, k, hk, fun b eb => (by cases eb; omega), ?_⟩
        rw [optC_here, e]
      · obtain ⟨k, hk, e⟩ := List.mem_map.mp M
        exact ⟨none, k, hk, fun b eb => (by cases eb), e.symm⟩

/-! ### in costs -/
def cost (c : Cand) : Nat := 1000 * c.changed + c.moved
def kst (old : List Box) (room : Nat) (fs : List BFile) (j : Nat) : Nat := cost (best old room fs j)
def costNew (old : List Box) (l : List BFile) : Nat := 1000 + movedInto old none l
def costOld (old : List Box) (a : Nat) (l : List BFile) : Nat := 1000 * changedTo old (some a) l + movedInto old (some a) l
/-- what the loop of the first box reckons -/
def optK (old : List Box) (room : Nat) (fs : List BFile) (j : Nat) (i : Option Nat) (k : Nat) : Nat :=
  match i with
  | none => costNew old (fs.take k) + kst old room (fs.drop k) j
  | some a => 1000 * (a - j) + costOld old a (fs.take k) + kst old room (fs.drop k) (a + 1)
theorem optK_eq {fs : List BFile} {j : Nat} {i : Option Nat} {k : Nat} : optK old room fs j i k = cost (optC old room fs j i k) := by
  cases i with
  | none =>
    unfold optK costNew kst cost optC opt
    simp only [changedTo]
    omega
  | some a =>
    unfold optK costOld kst cost optC opt
    simp only
    omega
theorem cost_le {a b : Cand} (ha : a.moved < 1000) (hb : b.moved < 1000) (h : a.better b = false) : cost b ≤ cost a := by
  rw [nbetter_iff] at h
  unfold cost
  omega
/-- the first of the cheapest: by the loop's own order -/
theorem first_box {fs : List BFile} (hF : Fit room fs) (hn : fs ≠ []) (h32 : fs.length < 1000) {j : Nat} (hj : j ≤ old.length) : ∃ i k, 1 ≤ k ∧ k ≤ fit room fs ∧ (∀ a, i = some a → j ≤ a ∧ a < old.length) ∧
    (best old room fs j).way = (i, fs.take k) :: (best old room (fs.drop k) (nxt j i)).way ∧ optK old room fs j i k = kst old room fs j ∧
    ∀ i' k', 1 ≤ k' → k' ≤ fit room fs → (∀ a, i' = some a → j ≤ a ∧ a < old.length) → (k < k' ∨ (k' = k ∧ oLt i' i)) → optK old room fs j i' k' ≠ kst old room fs j := by
  obtain ⟨i, k, hk, hi, e⟩ := best_opt (old := old) hF hn _ j rfl hj
  have hk' := mem_mayHold.mp hk
  refine ⟨i, k, hk'.1, hk'.2, hi, by rw [e, optC_way], by rw [optK_eq, ← e]; rfl, fun i' k' h1 h2 h3 h4 h5 => ?_⟩
  have hm' : k' ∈ mayHold room fs := mem_mayHold.mpr ⟨h1, h2⟩
  have N := none_better (old := old) hF hn hm' _ j rfl hj h3
  have G1 := optC_good (old := old) hF hm' hj h3
  have G2 := Good.best (old := old) (room := room) hF hj
  rw [optK_eq] at h5
  unfold kst cost at h5
  have m1 := G1.moved
  have m2 := G2.moved
  rw [nbetter_iff] at N
  have F : wayFirst (optC old room fs j i' k').way (best old room fs j).way = true := by
    rw [e, optC_way, optC_way, wf_cons, boxFirst_iff]
    have t1 := (take_ok hm').2.2.2.2
    have t2 := (take_ok hk).2.2.2.2
    rcases h4 with h4 | ⟨rfl, h4⟩
    · left; left
      show (fs.take k).length < (fs.take k').length
      omega
    · left; right
      exact ⟨rfl, h4⟩
  rcases N with N | ⟨N1, N | ⟨N2, N⟩⟩
  · omega
  · omega
  · rw [F] at N; cases N
/-- what's left costs: the least of the list -/
theorem kst_mem {fs : List BFile} (hF : Fit room fs) (hn : fs ≠ []) {j : Nat} (hj : j ≤ old.length) :
    (∃ k, 1 ≤ k ∧ k ≤ fit room fs ∧ kst old room fs j = costNew old (fs.take k) + kst old room (fs.drop k) j) ∨
    (j < old.length ∧ kst old room fs j = 1000 + kst old room fs (j + 1)) ∨
    (j < old.length ∧ ∃ k, 1 ≤ k ∧ k ≤ fit room fs ∧ kst old room fs j = costOld old j (fs.take k) + kst old room (fs.drop k) (j + 1)) := by
  have M := (best_min (old := old) hF hn hj).1
  have new : ∀ k, k ∈ mayHold room fs → cost (opt old room fs none j k) = costNew old (fs.take k) + kst old room (fs.drop k) j := fun k _ => (optK_eq (i := none)).symm
  unfold opts at M
  split at M
  · next hlt =>
    rcases List.mem_cons.mp M with M | M
    · refine .inr (.inl ⟨hlt, ?_⟩)
      unfold kst
      rw [M]
      unfold cost skipOf
      simp only
      omega
    · rcases List.mem_append.mp M with M | M
      · obtain ⟨k, hk, e⟩ := List.mem_map.mp M
        refine .inr (.inr ⟨hlt, k, (mem_mayHold.mp hk).1, (mem_mayHold.mp hk).2, ?_⟩)
        have := optK_eq (old := old) (room := room) (fs := fs) (j := j) (i := some j) (k := k)
        rw [optC_here, e] at this
        unfold optK at this
        show cost _ = _
        rw [← this]
        simp
      · obtain ⟨k, hk, e⟩ := List.mem_map.mp M
        refine .inl ⟨k, (mem_mayHold.mp hk).1, (mem_mayHold.mp hk).2, ?_⟩
        show cost _ = _
        rw [← e, new k hk]
  · obtain ⟨k, hk, e⟩ := List.mem_map.mp M
    refine .inl ⟨k, (mem_mayHold.mp hk).1, (mem_mayHold.mp hk).2, ?_⟩
    show cost _ = _
    rw [← e, new k hk]
theorem kst_le {fs : List BFile} (hF : Fit room fs) (hn : fs ≠ []) (h32 : fs.length < 1000) {j : Nat} (hj : j ≤ old.length) :
    (∀ k, 1 ≤ k → k ≤ fit room fs → kst old room fs j ≤ costNew old (fs.take k) + kst old room (fs.drop k) j) ∧
    (j < old.length → kst old room fs j ≤ 1000 + kst old room fs (j + 1)) ∧
    (j < old.length → ∀ k, 1 ≤ k → k ≤ fit room fs → kst old room fs j ≤ costOld old j (fs.take k) + kst old room (fs.drop k) (j + 1)) := by
  have G := Good.best (old := old) (room := room) hF hj
  have any : ∀ i k, k ∈ mayHold room fs → (∀ a, i = some a → j ≤ a ∧ a < old.length) → kst old room fs j ≤ optK old room fs j i k := by
    intro i k hk hi
    have N := none_better (old := old) hF hn hk _ j rfl hj hi
    have G1 := optC_good (old := old) hF hk hj hi
    rw [optK_eq]
    exact cost_le (by have := G1.moved; omega) (by have := G.moved; omega) N
  refine ⟨fun k h1 h2 => any none k (mem_mayHold.mpr ⟨h1, h2⟩) (fun _ e => by cases e), fun hlt => ?_, fun hlt k h1 h2 => ?_⟩
  · have M := (best_min (old := old) hF hn hj).2 (skipOf (best old room fs (j + 1))) (by
      unfold opts
      rw [if_pos hlt]
      exact List.mem_cons_self)
    have G1 := Good.best (old := old) (room := room) hF (show j + 1 ≤ old.length from hlt)
    have := cost_le (show (skipOf (best old room fs (j + 1))).moved < 1000 by have := G1.moved; show (best old room fs (j + 1)).moved < 1000; omega) (by have := G.moved; omega) M
    unfold kst
    unfold cost skipOf at this
    unfold cost
    simp only at this
    omega
  · have := any (some j) k (mem_mayHold.mpr ⟨h1, h2⟩) (fun a e => by cases e; omega)
    unfold optK at this
    simpa using this
theorem kst_nil {j : Nat} (hj : j ≤ old.length) : kst old room [] j = 1000 * (old.length - j) := by
  unfold kst cost
  rw [best_nil j hj]
  rfl
end
end BX

namespace BX
open BdBox

/-! ### a row of boxes as the program holds it: numbers, and the numbers of its files -/
abbrev PB := Nat × List Nat
def pb (b : Box) : PB := (b.number, numbersOf b.files)
def row (old : List Box) : List PB := old.map pb
/-- what a dict that is filled pair by pair holds: the last pair counts -/
def lk {α : Type} : List (Nat × α) → Nat → Option α
  | [], _ => none
  | p :: ps, n => (lk ps n).or (if p.1 = n then some p.2 else none)
theorem lk_append {α : Type} : ∀ (ps qs : List (Nat × α)) (n : Nat), lk (ps ++ qs) n = (lk qs n).or (lk ps n)
  | [], qs, n => by simp [lk]
  | p :: ps, qs, n => by
    show (lk (ps ++ qs) n).or _ = (lk qs n).or ((lk ps n).or _)
    rw [lk_append ps qs n, Option.or_assoc]
theorem lk_snoc {α : Type} (ps : List (Nat × α)) (k : Nat) (v : α) (n : Nat) : lk (ps ++ [(k, v)]) n = if k = n then some v else lk ps n := by
  rw [lk_append]
  show ((none : Option α).or (if k = n then some v else none)).or (lk ps n) = _
  split <;> simp
theorem lk_none {α : Type} : ∀ {ps : List (Nat × α)} {n : Nat}, (∀ p ∈ ps, p.1 ≠ n) → lk ps n = none
  | [], _, _ => rfl
  | p :: ps, n, h => by
    show (lk ps n).or _ = none
    rw [lk_none (fun q hq => h q (List.mem_cons_of_mem _ hq)), if_neg (h p List.mem_cons_self)]
    rfl
theorem lk_const {α : Type} {l : List Nat} {v : α} {n : Nat} : lk (l.map (fun k => (k, v))) n = if n ∈ l then some v else none := by
  induction l with
  | nil => rfl
  | cons k l ih =>
    show (lk (l.map (fun k => (k, v))) n).or (if k = n then some v else none) = _
    rw [ih]
    by_cases h : n ∈ l
    · simp [h]
    · by_cases e : k = n
      · subst e; simp [h]
      · have : ¬ n = k := fun q => e q.symm
        simp [h, e, this]
/-- box_by_file's pairs -/
def numPairs (bs : List PB) : List (Nat × Nat) := bs.flatMap fun b => b.2.map fun n => (n, b.1)
/-- place_by_file's pairs -/
def placePairs : Nat → List PB → List (Nat × Nat)
  | _, [] => []
  | k, b :: bs => b.2.map (fun n => (n, k)) ++ placePairs (k + 1) bs
theorem placePairs_append : ∀ (k : Nat) (bs cs : List PB), placePairs k (bs ++ cs) = placePairs k bs ++ placePairs (k + bs.length) cs
  | k, [], cs => by simp [placePairs]
  | k, b :: bs, cs => by
    show _ ++ placePairs (k + 1) (bs ++ cs) = (_ ++ placePairs (k + 1) bs) ++ _
    rw [placePairs_append, List.append_assoc, List.length_cons, show k + 1 + bs.length = k + (bs.length + 1) by omega]
/-- no file stands twice -/
def Once (old : List Box) : Prop := (old.flatMap (fun b => numbersOf b.files)).Nodup
theorem Once.tail {b : Box} {old : List Box} (h : Once (b :: old)) : Once old := by
  unfold Once at h ⊢
  rw [List.flatMap_cons, List.nodup_append] at h
  exact h.2.1
theorem Once.apart {b : Box} {old : List Box} (h : Once (b :: old)) {n : Nat} (hn : n ∈ numbersOf b.files) : ∀ c ∈ old, n ∉ numbersOf c.files := by
  unfold Once at h
  rw [List.flatMap_cons, List.nodup_append] at h
  intro c hc q
  exact h.2.2 n hn n (List.mem_flatMap.mpr ⟨c, hc, q⟩) rfl
theorem boxOf_cons (b : Box) (old : List Box) (n : Nat) : boxOf (b :: old) n = if n ∈ numbersOf b.files then some 0 else (boxOf old n).map (fun j => j + 1) := by
  unfold boxOf
  rw [List.findIdx?_cons]
  by_cases h : n ∈ numbersOf b.files <;> simp [h]
theorem boxOf_none {old : List Box} {n : Nat} (h : ∀ c ∈ old, n ∉ numbersOf c.files) : boxOf old n = none := by
  unfold boxOf
  rw [List.findIdx?_eq_none_iff]
  intro c hc
  simpa using h c hc
theorem boxOf_lt {old : List Box} {n j : Nat} (h : boxOf old n = some j) : ∃ b, old[j]? = some b ∧ n ∈ numbersOf b.files := by
  unfold boxOf at h
  rw [List.findIdx?_eq_some_iff_getElem] at h
  obtain ⟨h1, h2, _⟩ := h
  exact ⟨old[j], List.getElem?_eq_getElem h1, by simpa using h2⟩
theorem lk_num : ∀ {old : List Box}, Once old → ∀ (n : Nat), lk (numPairs (row old)) n = (boxOf old n).bind (fun j => (old[j]?).map (fun b => b.number))
  | [], _, n => rfl
  | b :: old, h, n => by
    have ih := lk_num h.tail n
    show lk ((numbersOf b.files).map (fun k => (k, b.number)) ++ numPairs (row old)) n = _
    rw [lk_append, lk_const, boxOf_cons, ih]
    by_cases q : n ∈ numbersOf b.files
    · rw [if_pos q, if_pos q, boxOf_none (h.apart q)]
      rfl
    · rw [if_neg q, if_neg q]
      cases boxOf old n <;> simp
theorem lk_place : ∀ {old : List Box} (k : Nat), Once old → ∀ (n : Nat), lk (placePairs k (row old)) n = (boxOf old n).map (fun j => k + j)
  | [], _, _, n => rfl
  | b :: old, k, h, n => by
    have ih := lk_place (k + 1) h.tail n
    show lk ((numbersOf b.files).map (fun f => (f, k)) ++ placePairs (k + 1) (row old)) n = _
    rw [lk_append, lk_const, boxOf_cons, ih]
    by_cases q : n ∈ numbersOf b.files
    · rw [if_pos q, if_pos q, boxOf_none (h.apart q)]
      rfl
    · rw [if_neg q, if_neg q]
      cases boxOf old n with
      | none => rfl
      | some j => simp; omega

/-! ### what told_change reckons -/
def tNew (bs cs : List PB) : Nat := (cs.filter fun b => !(bs.map (·.1)).contains b.1).length
def tStill (bs cs : List PB) : Nat := (cs.filter fun b => (bs.map (·.1)).contains b.1).length
def tKept (bs cs : List PB) : Nat := (cs.filter fun b => decide (lk bs b.1 = some b.2)).length
def tMoved (bs cs : List PB) : Nat := (cs.map fun b => (b.2.filter fun n => decide ((lk (numPairs bs) n).getD b.1 ≠ b.1)).length).sum
structure Old (old : List Box) (next : Nat) : Prop where
  nd : (old.map (·.number)).Nodup
  lt : ∀ b ∈ old, b.number < next
  once : Once old
theorem Old.num_inj {old : List Box} {next : Nat} (O : Old old next) {i j : Nat} {b c : Box} (hi : old[i]? = some b) (hj : old[j]? = some c) (e : b.number = c.number) : i = j := by
  have h1 : (old.map (·.number))[i]? = some b.number := by rw [List.getElem?_map, hi]; rfl
  have h2 : (old.map (·.number))[j]? = some c.number := by rw [List.getElem?_map, hj]; rfl
  have l1 := (List.getElem?_eq_some_iff.mp h1).1
  exact (List.getElem?_inj l1 O.nd).mp (by rw [h1, h2, e])
theorem row_fst (old : List Box) : (row old).map (·.1) = old.map (·.number) := by
  unfold row
  rw [List.map_map]
  rfl
theorem in_row {old : List Box} {j : Nat} {b : Box} (h : old[j]? = some b) : ((row old).map (·.1)).contains b.number = true := by
  rw [row_fst, List.contains_iff_mem]
  exact List.mem_map.mpr ⟨b, List.mem_of_getElem? h, rfl⟩
theorem not_in_row {old : List Box} {next n : Nat} (O : Old old next) (h : next ≤ n) : ((row old).map (·.1)).contains n = false := by
  rw [row_fst, ← Bool.not_eq_true, List.contains_iff_mem]
  intro q
  obtain ⟨b, hb, rfl⟩ := List.mem_map.mp q
  have := O.lt b hb
  omega
theorem lk_row : ∀ {old : List Box} {j : Nat} {b : Box}, (old.map (·.number)).Nodup → old[j]? = some b → lk (row old) b.number = some (numbersOf b.files)
  | [], j, b, _, h => by simp at h
  | c :: old, 0, b, nd, h => by
    have e : c = b := by simpa using h
    subst e
    show (lk (row old) c.number).or (if c.number = c.number then some (numbersOf c.files) else none) = _
    rw [List.map_cons, List.nodup_cons] at nd
    rw [lk_none, if_pos rfl]
    · rfl
    · intro p hp
      obtain ⟨d, hd, rfl⟩ := List.mem_map.mp hp
      intro q
      exact nd.1 (List.mem_map.mpr ⟨d, hd, q⟩)
  | c :: old, j + 1, b, nd, h => by
    rw [List.map_cons, List.nodup_cons] at nd
    show (lk (row old) b.number).or _ = _
    rw [lk_row nd.2 (j := j) (by simpa using h)]
    rfl
theorem lk_row_none {old : List Box} {next n : Nat} (O : Old old next) (h : next ≤ n) : lk (row old) n = none := by
  apply lk_none
  intro p hp q
  obtain ⟨d, hd, rfl⟩ := List.mem_map.mp hp
  have := O.lt d hd
  have : d.number = n := q
  omega
section
variable {old : List Box} {next room : Nat}
theorem row_cons (b : Box) (l : List Box) : row (b :: l) = pb b :: row l := rfl
theorem tNew_in {bs cs : List PB} {b : PB} (h : (bs.map (·.1)).contains b.1 = true) : tNew bs (b :: cs) = tNew bs cs := by
  unfold tNew
  rw [List.filter_cons, if_neg (by rw [h]; decide)]
theorem tNew_out {bs cs : List PB} {b : PB} (h : (bs.map (·.1)).contains b.1 = false) : tNew bs (b :: cs) = tNew bs cs + 1 := by
  unfold tNew
  rw [List.filter_cons, if_pos (by rw [h]; decide)]
  rfl
theorem tStill_in {bs cs : List PB} {b : PB} (h : (bs.map (·.1)).contains b.1 = true) : tStill bs (b :: cs) = tStill bs cs + 1 := by
  unfold tStill
  rw [List.filter_cons, if_pos h]
  rfl
theorem tStill_out {bs cs : List PB} {b : PB} (h : (bs.map (·.1)).contains b.1 = false) : tStill bs (b :: cs) = tStill bs cs := by
  unfold tStill
  rw [List.filter_cons, if_neg (by rw [h]; decide)]
theorem tKept_in {bs cs : List PB} {b : PB} (h : lk bs b.1 = some b.2) : tKept bs (b :: cs) = tKept bs cs + 1 := by
  unfold tKept
  rw [List.filter_cons, if_pos (decide_eq_true h)]
  rfl
theorem tKept_out {bs cs : List PB} {b : PB} (h : ¬ lk bs b.1 = some b.2) : tKept bs (b :: cs) = tKept bs cs := by
  unfold tKept
  rw [List.filter_cons, if_neg (by rw [decide_eq_false h]; decide)]
theorem tMoved_cons (bs cs : List PB) (b : PB) : tMoved bs (b :: cs) = (b.2.filter fun n => decide ((lk (numPairs bs) n).getD b.1 ≠ b.1)).length + tMoved bs cs := by
  unfold tMoved
  rw [List.map_cons, List.sum_cons]
def someIn (w : Way) : Nat := (w.filter fun (x : Option Nat × List BFile) => x.1.isSome).length
theorem told_counts (O : Old old next) : ∀ {w : Way} {j n : Nat} {fs : List BFile}, next ≤ n → WayOk room old.length j fs w →
    tNew (row old) (row (boxesBy old n w)) = newIn w ∧ tStill (row old) (row (boxesBy old n w)) = someIn w ∧
    tKept (row old) (row (boxesBy old n w)) + (w.map fun (x : Option Nat × List BFile) => changedTo old x.1 x.2).sum = w.length ∧ (boxesBy old n w).length = w.length
  | [], j, n, fs, _, _ => ⟨rfl, rfl, rfl, rfl⟩
  | (none, l) :: w, j, n, fs, hn, h => by
    obtain ⟨_, _, r, _, _, h5⟩ := h.cons
    obtain ⟨i1, i2, i3, i4⟩ := told_counts O (n := n + 1) (by omega) h5
    show tNew (row old) (pb ⟨n, l⟩ :: row (boxesBy old (n + 1) w)) = _ ∧ tStill (row old) (pb ⟨n, l⟩ :: row (boxesBy old (n + 1) w)) = _ ∧ tKept (row old) (pb ⟨n, l⟩ :: row (boxesBy old (n + 1) w)) + _ = _ ∧ (⟨n, l⟩ :: boxesBy old (n + 1) w).length = _
    have q := not_in_row O hn
    rw [tNew_out (b := pb ⟨n, l⟩) q, tStill_out (b := pb ⟨n, l⟩) q, tKept_out (b := pb ⟨n, l⟩) (by show ¬ lk (row old) n = _; rw [lk_row_none O hn]; exact fun z => by cases z), i1, i2]
    refine ⟨rfl, rfl, ?_, (by rw [List.length_cons, List.length_cons, i4])⟩
    rw [List.map_cons, List.sum_cons, List.length_cons]
    show _ + (1 + _) = _
    omega
  | (some a, l) :: w, j, n, fs, hn, h => by
    obtain ⟨_, _, r, _, h4, h5⟩ := h.cons
    obtain ⟨i1, i2, i3, i4⟩ := told_counts O hn h5
    obtain ⟨b, hb⟩ : ∃ b, old[a]? = some b := ⟨_, List.getElem?_eq_getElem (h4 a rfl).2⟩
    have eb : boxesBy old n ((some a, l) :: w) = ⟨b.number, l⟩ :: boxesBy old n w := by
      show (⟨((old[a]?).map fun (b : Box) => b.number).getD 0, l⟩ :: boxesBy old n w) = _
      rw [hb]
      rfl
    rw [eb, row_cons]
    have q := in_row hb
    rw [tNew_in (b := pb ⟨b.number, l⟩) q, tStill_in (b := pb ⟨b.number, l⟩) q, i1, i2]
    refine ⟨rfl, rfl, ?_, (by rw [List.length_cons, List.length_cons, i4])⟩
    rw [List.map_cons, List.sum_cons, List.length_cons]
    have e := lk_row O.nd hb
    show tKept (row old) (pb ⟨b.number, l⟩ :: _) + (changedTo old (some a) l + _) = _
    have ec : changedTo old (some a) l = if some (numbersOf b.files) = some (numbersOf l) then 0 else 1 := by
      unfold changedTo
      simp only [hb, Option.map_some]
    rw [ec]
    by_cases z : numbersOf b.files = numbersOf l
    · rw [tKept_in (b := pb ⟨b.number, l⟩) (by show lk (row old) b.number = some (numbersOf l); rw [e, z]), if_pos (by rw [z])]
      omega
    · rw [tKept_out (b := pb ⟨b.number, l⟩) (by show ¬ lk (row old) b.number = some (numbersOf l); rw [e]; exact fun y => z (Option.some.inj y)), if_neg (fun y => z (Option.some.inj y))]
      omega
theorem WayOk.ge {m : Nat} : ∀ {w : Way} {j : Nat} {fs : List BFile}, WayOk room m j fs w → ∀ x ∈ w, ∀ a, x.1 = some a → j ≤ a ∧ a < m
  | [], _, _, _, x, hx, _, _ => by simp at hx
  | (i, l) :: w, j, fs, h, x, hx, a, e => by
    obtain ⟨_, _, r, _, h4, h5⟩ := h.cons
    rcases List.mem_cons.mp hx with rfl | hx
    · exact h4 a e
    · have := WayOk.ge h5 x hx a e
      cases i with
      | none => exact this
      | some b => have t := h4 b rfl; have this : b + 1 ≤ a ∧ a < m := this; omega
theorem length_filter_split {α : Type} (p q : α → Bool) : ∀ (l : List α), (∀ x ∈ l, ¬ (p x = true ∧ q x = true)) → (l.filter fun x => p x || q x).length = (l.filter p).length + (l.filter q).length
  | [], _ => rfl
  | x :: l, h => by
    have ih := length_filter_split p q l (fun y hy => h y (List.mem_cons_of_mem _ hy))
    have hx := h x List.mem_cons_self
    rw [List.filter_cons, List.filter_cons, List.filter_cons]
    cases e1 : p x <;> cases e2 : q x <;> simp [e1, e2] at hx ⊢ <;> omega
theorem length_filter_not {α : Type} (p : α → Bool) : ∀ (l : List α), (l.filter fun x => !p x).length + (l.filter p).length = l.length
  | [] => rfl
  | x :: l => by
    have ih := length_filter_not p l
    rw [List.filter_cons, List.filter_cons]
    cases e : p x <;> simp <;> omega
theorem still_range {m : Nat} : ∀ {w : Way} {j : Nat} {fs : List BFile}, WayOk room m j fs w → ((List.range m).filter fun (i : Nat) => w.any fun (x : Option Nat × List BFile) => x.1 == some i).length = someIn w
  | [], j, fs, h => by simp [someIn]
  | (none, l) :: w, j, fs, h => by
    obtain ⟨_, _, r, _, _, h5⟩ := h.cons
    have ih := still_range h5
    rw [show someIn ((none, l) :: w) = someIn w from rfl, ← ih]
    rfl
  | (some a, l) :: w, j, fs, h => by
    obtain ⟨_, _, r, _, h4, h5⟩ := h.cons
    have ih := still_range h5
    have ha := h4 a rfl
    rw [show someIn ((some a, l) :: w) = someIn w + 1 from rfl, ← ih]
    have e : (fun (i : Nat) => ((some a, l) :: w).any fun (x : Option Nat × List BFile) => x.1 == some i) = fun i => (i == a) || (w.any fun (x : Option Nat × List BFile) => x.1 == some i) := by
      funext i
      rw [List.any_cons]
      congr 1
      rw [Bool.eq_iff_iff]
      simp
      exact ⟨fun h => h.symm, fun h => h.symm⟩
    rw [e, length_filter_split]
    · have c : ((List.range m).filter fun i => i == a).length = 1 := by
        rw [← List.countP_eq_length_filter]
        show List.count a (List.range m) = 1
        rw [List.nodup_range.count, if_pos (List.mem_range.mpr ha.2)]
      rw [c]
      omega
    · rintro i _ ⟨q1, q2⟩
      have e1 : i = a := by simpa using q1
      subst e1
      rw [List.any_eq_true] at q2
      obtain ⟨x, hx, ex⟩ := q2
      have := WayOk.ge h5 x hx i (by simpa using ex)
      unfold nxt at this
      simp at this
      omega
theorem told_changed (O : Old old next) {w : Way} {fs : List BFile} (h : WayOk room old.length 0 fs w) :
    ((((row (boxesBy old next w)).length : Int) - (tKept (row old) (row (boxesBy old next w)) : Int)) + ((row old).length : Int)) - (tStill (row old) (row (boxesBy old next w)) : Int) = (changedBy old w : Int) := by
  obtain ⟨_, i2, i3, i4⟩ := told_counts O (Nat.le_refl _) h
  have s := still_range h
  have n := length_filter_not (fun (i : Nat) => w.any fun (x : Option Nat × List BFile) => x.1 == some i) (List.range old.length)
  rw [List.length_range] at n
  unfold changedBy
  rw [foldl_add, i2]
  have e1 : (row (boxesBy old next w)).length = w.length := by unfold row; rw [List.length_map, i4]
  have e2 : (row old).length = old.length := by unfold row; rw [List.length_map]
  rw [e1, e2]
  omega
theorem told_moved (O : Old old next) : ∀ {w : Way} {j n : Nat} {fs : List BFile}, next ≤ n → WayOk room old.length j fs w → tMoved (row old) (row (boxesBy old n w)) = (w.map fun (x : Option Nat × List BFile) => movedInto old x.1 x.2).sum
  | [], j, n, fs, _, _ => rfl
  | (i, l) :: w, j, n, fs, hn, h => by
    obtain ⟨_, _, r, _, h4, h5⟩ := h.cons
    obtain ⟨nb, n', e, hn', hnb⟩ : ∃ nb n', boxesBy old n ((i, l) :: w) = ⟨nb, l⟩ :: boxesBy old n' w ∧ next ≤ n' ∧ (∀ k b, old[k]? = some b → (b.number ≠ nb ↔ i ≠ some k)) := by
      cases i with
      | none =>
        refine ⟨n, n + 1, rfl, by omega, fun k b hk => ⟨fun _ q => (by cases q), fun _ => ?_⟩⟩
        have := O.lt b (List.mem_of_getElem? hk)
        omega
      | some a =>
        obtain ⟨b, hb⟩ : ∃ b, old[a]? = some b := ⟨_, List.getElem?_eq_getElem (h4 a rfl).2⟩
        refine ⟨b.number, n, ?_, hn, fun k c hk => ⟨fun q z => ?_, fun q z => ?_⟩⟩
        · show (⟨((old[a]?).map fun (b : Box) => b.number).getD 0, l⟩ :: boxesBy old n w) = _
          rw [hb]
          rfl
        · have z : a = k := Option.some.inj z
          subst z
          rw [hb] at hk
          have : b = c := Option.some.inj hk
          subst this
          exact q rfl
        · have := O.num_inj hb hk z.symm
          subst this
          exact q rfl
    rw [e, row_cons, tMoved_cons, told_moved O hn' h5, List.map_cons, List.sum_cons]
    congr 1
    show ((numbersOf l).filter _).length = movedInto old i l
    unfold numbersOf movedInto
    rw [List.filter_map, List.length_map]
    congr 1
    apply List.filter_congr
    intro f _
    simp only [Function.comp, pb]
    rw [lk_num O.once]
    cases q : boxOf old f.number with
    | none => simp
    | some k =>
      obtain ⟨b, hb, _⟩ := boxOf_lt q
      simp only [Option.bind_some, hb, Option.map_some, Option.getD_some]
      rw [Bool.eq_iff_iff, decide_eq_true_iff, hnb k b hb]
      simp
theorem movedBy_sum (w : Way) : movedBy old w = (w.map fun (x : Option Nat × List BFile) => movedInto old x.1 x.2).sum := by
  unfold movedBy
  rw [foldl_add]
  omega
end
end BX

namespace BX
open BdBox

/-! ### boxes filled from the front -/
/-- one turn of the program's loop: how many stand in each box, how much is left -/
def fstep (room : Nat) (c : List Nat × Nat) (t : Nat) : List Nat × Nat :=
  if c.2 < t then (c.1 ++ [1], room - t) else (c.1.dropLast ++ [c.1.getLastD 0 + 1], c.2 - t)
def fillC (room : Nat) (ts : List Nat) : List Nat := (ts.foldl (fstep room) ([], 0)).1
theorem thickness_reverse (l : List BFile) : thickness l.reverse = thickness l := by
  induction l with
  | nil => rfl
  | cons f l ih => rw [List.reverse_cons, thickness_append, ih, thickness_cons, thickness_cons, thickness_nil]; omega
theorem filled_cons (room : Nat) (now : List BFile) (f : BFile) (l : List BFile) : filled room now (f :: l) = if thickness now + f.thick ≤ room then filled room (f :: now) l else now.reverse :: filled room [f] l := rfl
theorem filled_nil (room : Nat) {now : List BFile} (h : now ≠ []) : filled room now [] = [now.reverse] := by
  unfold filled
  rw [if_neg h]
theorem fill_go (room : Nat) : ∀ (l : List BFile) (now : List BFile) (pre : List Nat), now ≠ [] → thickness now ≤ room → Fit room l →
    ((l.map (fun f => f.thick)).foldl (fstep room) (pre ++ [now.length], room - thickness now)).1 = pre ++ (filled room now l).map List.length
  | [], now, pre, hn, _, _ => by
    rw [filled_nil room hn]
    simp
  | f :: l, now, pre, hn, ht, hF => by
    have hf := hF f List.mem_cons_self
    rw [List.map_cons, List.foldl_cons, filled_cons]
    by_cases c : thickness now + f.thick ≤ room
    · rw [if_pos c]
      have e : fstep room (pre ++ [now.length], room - thickness now) f.thick = (pre ++ [(f :: now).length], room - thickness (f :: now)) := by
        unfold fstep
        rw [if_neg (by show ¬ room - thickness now < f.thick; omega)]
        rw [List.dropLast_concat, thickness_cons]
        simp
        omega
      rw [e]
      exact fill_go room l (f :: now) pre (by simp) (by rw [thickness_cons]; omega) hF.tail
    · rw [if_neg c]
      have e : fstep room (pre ++ [now.length], room - thickness now) f.thick = ((pre ++ [now.length]) ++ [[f].length], room - thickness [f]) := by
        unfold fstep
        rw [if_pos (by show room - thickness now < f.thick; omega)]
        rw [thickness_cons, thickness_nil]
        rfl
      rw [e, fill_go room l [f] (pre ++ [now.length]) (by simp) (by rw [thickness_cons, thickness_nil]; omega) hF.tail]
      simp
theorem fillC_eq {room : Nat} {l : List BFile} (hF : Fit room l) (h1 : ∀ f ∈ l, 1 ≤ f.thick) : fillC room (l.map (fun f => f.thick)) = (filled room [] l).map List.length := by
  unfold fillC
  cases l with
  | nil => rfl
  | cons f l =>
    have hf := hF f List.mem_cons_self
    have h1' := h1 f List.mem_cons_self
    rw [List.map_cons, List.foldl_cons, filled_cons, if_pos (by rw [thickness_nil]; omega)]
    have e : fstep room ([], 0) f.thick = ([] ++ [[f].length], room - thickness [f]) := by
      unfold fstep
      rw [if_pos (by show 0 < f.thick; omega), thickness_cons, thickness_nil]
      rfl
    rw [e, fill_go room l [f] [] (by simp) (by rw [thickness_cons, thickness_nil]; omega) hF.tail]
    rfl
theorem filled_ok (room : Nat) : ∀ (l now : List BFile), now ≠ [] → thickness now ≤ room → Fit room l → (∀ b ∈ filled room now l, b ≠ [] ∧ thickness b ≤ room) ∧ (filled room now l).flatten = now.reverse ++ l
  | [], now, hn, ht, _ => by
    rw [filled_nil room hn]
    refine ⟨fun b hb => ?_, by simp⟩
    have : b = now.reverse := by simpa using hb
    subst this
    exact ⟨by simpa using hn, by rw [thickness_reverse]; exact ht⟩
  | f :: l, now, hn, ht, hF => by
    have hf := hF f List.mem_cons_self
    rw [filled_cons]
    by_cases c : thickness now + f.thick ≤ room
    · rw [if_pos c]
      obtain ⟨i1, i2⟩ := filled_ok room l (f :: now) (by simp) (by rw [thickness_cons]; omega) hF.tail
      exact ⟨i1, by rw [i2]; simp⟩
    · rw [if_neg c]
      obtain ⟨i1, i2⟩ := filled_ok room l [f] (by simp) (by rw [thickness_cons, thickness_nil]; omega) hF.tail
      refine ⟨fun b hb => ?_, by rw [List.flatten_cons, i2]; simp⟩
      rcases List.mem_cons.mp hb with rfl | hb
      · exact ⟨by simpa using hn, by rw [thickness_reverse]; exact ht⟩
      · exact i1 b hb
theorem filled_all {room : Nat} {l : List BFile} (hF : Fit room l) : (∀ b ∈ filled room [] l, b ≠ [] ∧ thickness b ≤ room) ∧ (filled room [] l).flatten = l := by
  cases l with
  | nil => exact ⟨fun b hb => absurd hb (by simp [filled]), rfl⟩
  | cons f l =>
    have hf := hF f List.mem_cons_self
    rw [filled_cons, if_pos (by rw [thickness_nil]; omega)]
    obtain ⟨i1, i2⟩ := filled_ok room l [f] (by simp) (by rw [thickness_cons, thickness_nil]; omega) hF.tail
    exact ⟨i1, by rw [i2]; rfl⟩
/-- greedy is ahead of any other filling -/
theorem filled_few (room : Nat) : ∀ (l now r1 : List BFile) (ps : List (List BFile)) (c : Nat), now ≠ [] → thickness now ≤ room → l = r1 ++ ps.flatten → (∀ p ∈ ps, p ≠ [] ∧ thickness p ≤ room) → c + thickness r1 ≤ room →
    (thickness now ≤ c → (filled room now l).length ≤ 1 + ps.length) ∧ (filled room now l).length ≤ 2 + ps.length
  | [], now, r1, ps, c, hn, ht, hl, hp, hc => by
    rw [filled_nil room hn]
    simp
    omega
  | f :: l, now, g :: r1, ps, c, hn, ht, hl, hp, hc => by
    obtain ⟨rfl, hl'⟩ : f = g ∧ l = r1 ++ ps.flatten := by simpa using hl
    rw [thickness_cons] at hc
    rw [filled_cons]
    by_cases q : thickness now + f.thick ≤ room
    · rw [if_pos q]
      have ih := filled_few room l (f :: now) r1 ps (c + f.thick) (by simp) (by rw [thickness_cons]; omega) hl' hp (by omega)
      rw [thickness_cons] at ih
      exact ⟨fun h => ih.1 (by omega), ih.2⟩
    · rw [if_neg q]
      have ih := filled_few room l [f] r1 ps (c + f.thick) (by simp) (by rw [thickness_cons, thickness_nil]; omega) hl' hp (by omega)
      rw [thickness_cons, thickness_nil] at ih
      have := ih.1 (by omega)
      rw [List.length_cons]
      exact ⟨fun h => by omega, by omega⟩
  | f :: l, now, [], ps, c, hn, ht, hl, hp, hc => by
    obtain ⟨p, ps, rfl⟩ : ∃ p ps', ps = p :: ps' := by
      cases ps with
      | nil => simp at hl
      | cons p ps => exact ⟨p, ps, rfl⟩
    obtain ⟨hpn, hpt⟩ := hp p List.mem_cons_self
    obtain ⟨g, r, rfl⟩ : ∃ g r, p = g :: r := by
      cases p with
      | nil => exact absurd rfl hpn
      | cons g r => exact ⟨g, r, rfl⟩
    obtain ⟨rfl, hl'⟩ : f = g ∧ l = r ++ ps.flatten := by simpa using hl
    rw [thickness_cons] at hpt
    have hp' : ∀ p ∈ ps, p ≠ [] ∧ thickness p ≤ room := fun p hq => hp p (List.mem_cons_of_mem _ hq)
    rw [filled_cons, List.length_cons]
    by_cases q : thickness now + f.thick ≤ room
    · rw [if_pos q]
      have ih := filled_few room l (f :: now) r ps f.thick (by simp) (by rw [thickness_cons]; omega) hl' hp' (by omega)
      exact ⟨fun _ => by omega, by omega⟩
    · rw [if_neg q, List.length_cons]
      have ih := filled_few room l [f] r ps f.thick (by simp) (by rw [thickness_cons, thickness_nil]; omega) hl' hp' (by omega)
      rw [thickness_cons, thickness_nil] at ih
      have := ih.1 (by omega)
      exact ⟨fun _ => by omega, by omega⟩
theorem fewest_le {room : Nat} {ps : List (List BFile)} (hp : ∀ p ∈ ps, p ≠ [] ∧ thickness p ≤ room) : (filled room [] ps.flatten).length ≤ ps.length := by
  cases ps with
  | nil => simp [filled]
  | cons p ps =>
    obtain ⟨hpn, hpt⟩ := hp p List.mem_cons_self
    obtain ⟨g, r, rfl⟩ : ∃ g r, p = g :: r := by
      cases p with
      | nil => exact absurd rfl hpn
      | cons g r => exact ⟨g, r, rfl⟩
    rw [thickness_cons] at hpt
    rw [List.flatten_cons, List.cons_append, filled_cons, if_pos (by rw [thickness_nil]; omega)]
    have ih := filled_few room (r ++ ps.flatten) [g] r ps g.thick (by simp) (by rw [thickness_cons, thickness_nil]; omega) rfl (fun p hq => hp p (List.mem_cons_of_mem _ hq)) (by omega)
    rw [thickness_cons, thickness_nil] at ih
    have := ih.1 (by omega)
    rw [List.length_cons]
    omega
/-- a way that takes the boxes from the k-th on one by one -/
theorem pack_ok {room m : Nat} : ∀ (ls : List (List BFile)) (k : Nat), (∀ p ∈ ls, p ≠ [] ∧ thickness p ≤ room) → k + ls.length ≤ m → WayOk room m k ls.flatten ((ls.zipIdx k).map fun (x : List BFile × Nat) => (some x.2, x.1))
  | [], k, _, _ => rfl
  | l :: ls, k, h, hk => by
    rw [List.zipIdx_cons, List.map_cons, List.flatten_cons]
    have := h l List.mem_cons_self
    rw [List.length_cons] at hk
    exact .mk this.1 this.2 rfl (fun a e => by cases e; omega) (pack_ok ls (k + 1) (fun p hp => h p (List.mem_cons_of_mem _ hp)) (by omega))
end BX

namespace BX
open BdBox

structure FilesOk (room : Nat) (fs : List BFile) : Prop where
  each : ∀ f ∈ fs, f.number < 16384 ∧ f.key < 2 ^ 64 ∧ 1 ≤ f.thick ∧ f.thick ≤ room
  srt : fs.Pairwise (fun a b => beforeFile a b = true)
  len : fs.length ≤ 32
  nd : (fs.map (fun f => f.number)).Nodup
theorem FilesOk.fit {room : Nat} {fs : List BFile} (F : FilesOk room fs) : Fit room fs := fun f hf => (F.each f hf).2.2.2
structure SOk (s : Shelf) : Prop where
  room : 1 ≤ s.room ∧ s.room ≤ 10000
  files : FilesOk s.room s.files
  old : Old s.boxes s.next
  boxes : ∀ b ∈ s.boxes, b.files ≠ [] ∧ thickness b.files ≤ s.room
theorem before_iff (a b : BFile) : beforeFile a b = true ↔ (a.key < b.key ∨ (a.key = b.key ∧ a.number < b.number)) := by
  simp [beforeFile]
theorem boxesBy_ok {old : List Box} {next room : Nat} (O : Old old next) : ∀ {w : Way} {j n : Nat} {fs : List BFile}, next ≤ n → WayOk room old.length j fs w →
    (boxesBy old n w).flatMap (fun b => b.files) = fs ∧ (∀ b ∈ boxesBy old n w, b.files ≠ [] ∧ thickness b.files ≤ room) ∧
    (∀ b ∈ boxesBy old n w, (∃ a c, j ≤ a ∧ old[a]? = some c ∧ b.number = c.number) ∨ (n ≤ b.number ∧ b.number < n + newIn w)) ∧ ((boxesBy old n w).map (fun b => b.number)).Nodup
  | [], j, n, fs, _, h => ⟨by rw [show fs = [] from h]; rfl, fun b hb => absurd hb (by simp [boxesBy]), fun b hb => absurd hb (by simp [boxesBy]), by simp [boxesBy]⟩
  | (none, l) :: w, j, n, fs, hn, h => by
    obtain ⟨h1, h2, r, h3, h4, h5⟩ := h.cons
    obtain ⟨i1, i2, i3, i4⟩ := boxesBy_ok O (n := n + 1) (by omega) h5
    have e : boxesBy old n ((none, l) :: w) = ⟨n, l⟩ :: boxesBy old (n + 1) w := rfl
    have en : newIn ((none, l) :: w) = newIn w + 1 := rfl
    rw [e]
    refine ⟨?_, fun b hb => ?_, fun b hb => ?_, ?_⟩
    · rw [List.flatMap_cons, i1, h3]
    · rcases List.mem_cons.mp hb with rfl | hb
      · exact ⟨h1, h2⟩
      · exact i2 b hb
    · rcases List.mem_cons.mp hb with rfl | hb
      · right; show n ≤ n ∧ n < _; omega
      · rcases i3 b hb with ⟨a, c, q1, q2, q3⟩ | q
        · exact .inl ⟨a, c, q1, q2, q3⟩
        · right; omega
    · rw [List.map_cons, List.nodup_cons]
      refine ⟨fun q => ?_, i4⟩
      obtain ⟨b, hb, eb⟩ := List.mem_map.mp q
      have eb : b.number = n := eb
      rcases i3 b hb with ⟨a, c, q1, q2, q3⟩ | q
      · have := O.lt c (List.mem_of_getElem? q2)
        omega
      · omega
  | (some a, l) :: w, j, n, fs, hn, h => by
    obtain ⟨h1, h2, r, h3, h4, h5⟩ := h.cons
    obtain ⟨i1, i2, i3, i4⟩ := boxesBy_ok O hn h5
    obtain ⟨c, hc⟩ : ∃ c, old[a]? = some c := ⟨_, List.getElem?_eq_getElem (h4 a rfl).2⟩
    have e : boxesBy old n ((some a, l) :: w) = ⟨c.number, l⟩ :: boxesBy old n w := by
      show (⟨((old[a]?).map fun (b : Box) => b.number).getD 0, l⟩ :: boxesBy old n w) = _
      rw [hc]
      rfl
    have en : newIn ((some a, l) :: w) = newIn w := rfl
    have ha := (h4 a rfl).1
    rw [e]
    refine ⟨?_, fun b hb => ?_, fun b hb => ?_, ?_⟩
    · rw [List.flatMap_cons, i1, h3]
    · rcases List.mem_cons.mp hb with rfl | hb
      · exact ⟨h1, h2⟩
      · exact i2 b hb
    · rcases List.mem_cons.mp hb with rfl | hb
      · exact .inl ⟨a, c, ha, hc, rfl⟩
      · rcases i3 b hb with ⟨a', c', q1, q2, q3⟩ | q
        · exact .inl ⟨a', c', Nat.le_trans (Nat.le_succ_of_le ha) q1, q2, q3⟩
        · exact .inr q
    · rw [List.map_cons, List.nodup_cons]
      refine ⟨fun q => ?_, i4⟩
      obtain ⟨b, hb, eb⟩ := List.mem_map.mp q
      have eb : b.number = c.number := eb
      rcases i3 b hb with ⟨a', c', q1, q2, q3⟩ | q
      · have := O.num_inj hc q2 (by omega)
        have q1 : a + 1 ≤ a' := q1
        omega
      · have := O.lt c (List.mem_of_getElem? hc)
        omega
theorem once_of {bs : List Box} (h : ((bs.flatMap (fun b => b.files)).map (fun f => f.number)).Nodup) : Once bs := by
  unfold Once numbersOf
  rw [List.map_flatMap] at h
  exact h
/-- a way's shelf -/
theorem way_ok {s : Shelf} (S : SOk s) {fs : List BFile} {w : Way} (F : FilesOk s.room fs) (W : WayOk s.room s.boxes.length 0 fs w) : SOk ⟨s.room, boxesBy s.boxes s.next w, s.next + newIn w⟩ ∧ (Shelf.files ⟨s.room, boxesBy s.boxes s.next w, s.next + newIn w⟩) = fs := by
  obtain ⟨i1, i2, i3, i4⟩ := boxesBy_ok S.old (Nat.le_refl _) W
  have e : (Shelf.files ⟨s.room, boxesBy s.boxes s.next w, s.next + newIn w⟩) = fs := i1
  refine ⟨⟨S.room, by rw [e]; exact F, ⟨i4, fun b hb => ?_, once_of (by rw [i1]; exact F.nd)⟩, i2⟩, e⟩
  rcases i3 b hb with ⟨a, c, _, q2, q3⟩ | q
  · have := S.old.lt c (List.mem_of_getElem? q2)
    show b.number < s.next + newIn w
    omega
  · exact q.2
theorem taken_ok {s : Shelf} {fs : List BFile} (F : FilesOk s.room fs) : WayOk s.room s.boxes.length 0 fs (wayTaken s.boxes s.room fs) := by
  rw [wayTaken_eq F.fit]
  exact (Good.best F.fit (Nat.zero_le _)).way
theorem anew_ok {s : Shelf} (S : SOk s) {fs : List BFile} (F : FilesOk s.room fs) : SOk (s.anew fs) ∧ (s.anew fs).files = fs := way_ok S F (taken_ok F)
theorem files_flat (s : Shelf) : s.files = (s.boxes.map (fun b => b.files)).flatten := by
  unfold Shelf.files
  rw [List.flatMap_def]
theorem fewest_len {s : Shelf} (S : SOk s) : (fewest s).length ≤ s.boxes.length := by
  unfold fewest
  rw [files_flat]
  have := fewest_le (room := s.room) (ps := s.boxes.map (fun b => b.files)) (fun p hp => by
    obtain ⟨b, hb, rfl⟩ := List.mem_map.mp hp
    exact S.boxes b hb)
  rw [List.length_map] at this
  exact this
theorem packWay_ok {s : Shelf} (S : SOk s) : WayOk s.room s.boxes.length 0 s.files (packWay s) := by
  obtain ⟨i1, i2⟩ := filled_all S.files.fit
  have h := pack_ok (m := s.boxes.length) (fewest s) 0 i1 (by have := fewest_len S; omega)
  rw [show (fewest s).flatten = s.files from i2] at h
  exact h
theorem packWay_new (s : Shelf) : newIn (packWay s) = 0 := by
  unfold newIn packWay
  rw [List.length_eq_zero_iff, List.filter_eq_nil_iff]
  intro x hx
  obtain ⟨y, _, rfl⟩ := List.mem_map.mp hx
  simp
theorem packed_ok {s : Shelf} (S : SOk s) : SOk s.packed ∧ s.packed.files = s.files := by
  have h := way_ok S S.files (packWay_ok S)
  rw [packWay_new] at h
  exact h
theorem begun_ok {r : Nat} (h : 1 ≤ r ∧ r ≤ 10000) : SOk ⟨r, [], 0⟩ :=
  ⟨h, ⟨fun f hf => absurd hf (by simp [Shelf.files]), by simp [Shelf.files], by simp [Shelf.files], by simp [Shelf.files]⟩, ⟨by simp, fun b hb => absurd hb (by simp), by simp [Once]⟩, fun b hb => absurd hb (by simp)⟩

/-! ### other files -/
theorem mem_put (f g : BFile) : ∀ (l : List BFile), g ∈ putFile f l ↔ g = f ∨ g ∈ l
  | [] => by simp [putFile]
  | h :: l => by
    unfold putFile
    split
    · simp
    · rw [List.mem_cons, mem_put f g l, List.mem_cons]
      constructor
      · rintro (h | h | h) <;> simp [h]
      · rintro (h | h | h) <;> simp [h]
theorem put_perm (f : BFile) : ∀ (l : List BFile), (putFile f l).Perm (f :: l)
  | [] => List.Perm.refl _
  | h :: l => by
    unfold putFile
    split
    · exact List.Perm.refl _
    · exact ((put_perm f l).cons h).trans (List.Perm.swap f h l)
theorem put_srt (f : BFile) : ∀ (l : List BFile), (∀ g ∈ l, g.number ≠ f.number) → l.Pairwise (fun a b => beforeFile a b = true) → (putFile f l).Pairwise (fun a b => beforeFile a b = true)
  | [], _, _ => List.pairwise_singleton _ _
  | h :: l, hn, hs => by
    rw [List.pairwise_cons] at hs
    unfold putFile
    split
    · next c =>
      rw [List.pairwise_cons, List.pairwise_cons]
      refine ⟨fun g hg => ?_, hs⟩
      rcases List.mem_cons.mp hg with rfl | hg
      · exact c
      · have := hs.1 g hg
        rw [before_iff] at c this ⊢
        omega
    · next c =>
      rw [List.pairwise_cons]
      refine ⟨fun g hg => ?_, put_srt f l (fun g hg => hn g (List.mem_cons_of_mem _ hg)) hs.2⟩
      rcases (mem_put f g l).mp hg with rfl | hg
      · have := hn h List.mem_cons_self
        rw [before_iff] at c ⊢
        omega
      · exact hs.1 g hg
theorem put_ok {room : Nat} {fs : List BFile} (F : FilesOk room fs) {f : BFile} (h : f.number < 16384 ∧ f.key < 2 ^ 64 ∧ 1 ≤ f.thick ∧ f.thick ≤ room) (hn : ∀ g ∈ fs, g.number ≠ f.number) (hl : fs.length < 32) : FilesOk room (putFile f fs) := by
  refine ⟨fun g hg => ?_, put_srt f fs hn F.srt, ?_, ?_⟩
  · rcases (mem_put f g fs).mp hg with rfl | hg
    · exact h
    · exact F.each g hg
  · rw [(put_perm f fs).length_eq, List.length_cons]; omega
  · refine (((put_perm f fs).map (fun f => f.number)).nodup_iff).mpr ?_
    rw [List.map_cons, List.nodup_cons]
    refine ⟨fun q => ?_, F.nd⟩
    obtain ⟨g, hg, e⟩ := List.mem_map.mp q
    exact hn g hg e
theorem without_ok {room : Nat} {fs : List BFile} (F : FilesOk room fs) (n : Nat) : FilesOk room (withoutFile n fs) := by
  unfold withoutFile
  refine ⟨fun g hg => F.each g (List.mem_filter.mp hg).1, F.srt.filter _, Nat.le_trans (List.length_filter_le _ _) F.len, ?_⟩
  exact List.Nodup.sublist (List.Sublist.map _ List.filter_sublist) F.nd
theorem grown_ok {room : Nat} {fs : List BFile} (F : FilesOk room fs) (n t : Nat) (ht : 1 ≤ t ∧ t ≤ room) : FilesOk room (grownFile n t fs) := by
  unfold grownFile
  refine ⟨fun g hg => ?_, ?_, by rw [List.length_map]; exact F.len, ?_⟩
  · obtain ⟨f, hf, rfl⟩ := List.mem_map.mp hg
    have := F.each f hf
    split
    · exact ⟨this.1, this.2.1, ht⟩
    · exact this
  · rw [List.pairwise_map]
    refine F.srt.imp fun {a b} h => ?_
    rw [before_iff] at h ⊢
    split <;> split <;> exact h
  · rw [List.map_map]
    have e : ((fun (f : BFile) => f.number) ∘ fun (f : BFile) => if f.number = n then { f with thick := t } else f) = fun (f : BFile) => f.number := by
      funext f
      simp only [Function.comp]
      split <;> rfl
    rw [e]
    exact F.nd
end BX

namespace BX
open BdBox
/-! ### how many of some files stand somewhere, stand in a box -/
def cntK (old : List Box) (l : List BFile) : Nat := (l.filter fun f => (boxOf old f.number).isSome).length
def cntW (old : List Box) (a : Nat) (l : List BFile) : Nat := (l.filter fun f => decide (boxOf old f.number = some a)).length
theorem cntK_append (old : List Box) (l m : List BFile) : cntK old (l ++ m) = cntK old l + cntK old m := by
  unfold cntK
  rw [List.filter_append, List.length_append]
theorem cntW_append (old : List Box) (a : Nat) (l m : List BFile) : cntW old a (l ++ m) = cntW old a l + cntW old a m := by
  unfold cntW
  rw [List.filter_append, List.length_append]
theorem moved_none (old : List Box) (l : List BFile) : movedInto old none l = cntK old l := by
  unfold movedInto cntK
  congr 1
  apply List.filter_congr
  intro f _
  cases boxOf old f.number <;> simp
theorem moved_some (old : List Box) (a : Nat) : ∀ (l : List BFile), movedInto old (some a) l + cntW old a l = cntK old l
  | [] => rfl
  | f :: l => by
    have ih := moved_some old a l
    unfold movedInto cntW cntK at ih ⊢
    rw [List.filter_cons, List.filter_cons, List.filter_cons]
    cases e : boxOf old f.number with
    | none => simpa using ih
    | some j =>
      by_cases c : a = j
      · subst c
        simp only [bne_self_eq_false, Bool.false_eq_true, if_false, decide_true, if_true, Option.isSome_some, List.length_cons]
        omega
      · have c1 : (some a != some j) = true := by simpa using c
        have c2 : decide ((some j : Option Nat) = some a) = false := decide_eq_false (fun q => c (Option.some.inj q).symm)
        simp only [c1, c2, Bool.false_eq_true, if_false, if_true, Option.isSome_some, List.length_cons]
        omega
def knownB (old : List Box) (fs : List BFile) : List Bool := fs.map fun f => (boxOf old f.number).isSome
def withinB (old : List Box) (fs : List BFile) (a : Nat) : List Bool := fs.map fun f => decide (boxOf old f.number = some a)
theorem count_map (p : BFile → Bool) : ∀ (l : List BFile), (l.map p).count true = (l.filter p).length
  | [] => rfl
  | f :: l => by
    rw [List.map_cons, List.filter_cons, List.count_cons, count_map p l]
    cases p f <;> simp
theorem known_take (old : List Box) (fs : List BFile) (i : Nat) : ((knownB old fs).take i).count true = cntK old (fs.take i) := by
  unfold knownB cntK
  rw [← List.map_take, count_map]
theorem within_take (old : List Box) (fs : List BFile) (a i : Nat) : ((withinB old fs a).take i).count true = cntW old a (fs.take i) := by
  unfold withinB cntW
  rw [← List.map_take, count_map]
theorem take_split {fs : List BFile} {b e : Nat} (h : b ≤ e) : fs.take e = fs.take b ++ (fs.drop b).take (e - b) := by
  rw [← List.take_add, show b + (e - b) = e by omega]
def slice (fs : List BFile) (b e : Nat) : List BFile := (fs.drop b).take (e - b)
theorem new_cost {old : List Box} {fs : List BFile} {b e : Nat} (h : b ≤ e) : ((1000 : Int) + ((((knownB old fs).take e).count true : Nat) : Int)) - ((((knownB old fs).take b).count true : Nat) : Int) = (costNew old (slice fs b e) : Nat) := by
  rw [known_take, known_take, take_split h, cntK_append]
  unfold costNew slice
  rw [moved_none]
  omega
theorem old_cost {old : List Box} {fs : List BFile} {a b e : Nat} (h : b ≤ e) {c : Box} (hc : old[a]? = some c) (ch : Bool) (hch : ch = decide (numbersOf c.files ≠ numbersOf (slice fs b e))) :
    ((((1000 : Int) * (if ch = true then 1 else 0)) + ((((knownB old fs).take e).count true : Nat) : Int)) - ((((knownB old fs).take b).count true : Nat) : Int)) -
      (((((withinB old fs a).take e).count true : Nat) : Int) - ((((withinB old fs a).take b).count true : Nat) : Int)) = (costOld old a (slice fs b e) : Nat) := by
  rw [known_take, known_take, within_take, within_take, take_split h, cntK_append, cntW_append]
  have m := moved_some old a (slice fs b e)
  have ec : changedTo old (some a) (slice fs b e) = if some (numbersOf c.files) = some (numbersOf (slice fs b e)) then 0 else 1 := by
    unfold changedTo
    simp only [hc, Option.map_some]
  unfold costOld
  rw [ec]
  unfold slice at *
  by_cases q : numbersOf c.files = numbersOf ((fs.drop b).take (e - b))
  · have e1 : ch = false := by rw [hch]; exact decide_eq_false (fun z => z q)
    rw [e1, if_neg Bool.false_ne_true, if_pos (congrArg some q)]
    omega
  · have e1 : ch = true := by rw [hch]; exact decide_eq_true q
    rw [e1, if_pos rfl, if_neg (fun z => q (Option.some.inj z))]
    omega
theorem slice_len {fs : List BFile} {b e : Nat} (h : b ≤ e) (he : e ≤ fs.length) : (slice fs b e).length = e - b := by
  unfold slice
  rw [List.length_take, List.length_drop]
  omega
theorem numbers_slice (fs : List BFile) (b e : Nat) : numbersOf (slice fs b e) = ((numbersOf fs).drop b).take (e - b) := by
  unfold numbersOf slice
  rw [List.map_take, List.map_drop]
theorem slice_take (fs : List BFile) (b k : Nat) : slice fs b (b + k) = (fs.drop b).take k := by
  unfold slice
  rw [show b + k - b = k by omega]
/-- how far from a file on a box's files may go: over numbers -/
def fitN : Nat → List Nat → Nat
  | _, [] => 0
  | left, t :: ts => if t ≤ left then fitN (left - t) ts + 1 else 0
theorem fitN_eq : ∀ (fs : List BFile) (left : Nat), fitN left (fs.map fun f => f.thick) = fit left fs
  | [], _ => rfl
  | f :: fs, left => by
    show (if f.thick ≤ left then _ else _) = _
    unfold fit
    split
    · rw [fitN_eq fs]
    · rfl
def endsOf (room : Nat) (fs : List BFile) : List Nat := (List.range fs.length).map fun i => i + fit room (fs.drop i)
/-- a way as the program tells it: where a box's files begin, where they end, which box -/
def trip : Nat → Way → List (Nat × Nat × Option Nat)
  | _, [] => []
  | d, (i, l) :: w => (d, d + l.length, i) :: trip (d + l.length) w
theorem fit_drop_le (room : Nat) (fs : List BFile) (d : Nat) (h : d ≤ fs.length) : d + fit room (fs.drop d) ≤ fs.length := by
  have := fit_le (fs.drop d) room
  rw [List.length_drop] at this
  omega
section
variable {old : List Box} {room : Nat}
/-- the least of what the program writes down -/
theorem kst_is {fs : List BFile} (hF : Fit room fs) (hn : fs ≠ []) (h32 : fs.length < 1000) {j : Nat} (hj : j ≤ old.length) {news olds : List Int} {sk : List Int} {m : Int}
    (hnews : news = (List.range (fit room fs)).map fun t => ((costNew old (fs.take (t + 1)) + kst old room (fs.drop (t + 1)) j : Nat) : Int))
    (hrest : (j < old.length ∧ sk = [((1000 + kst old room fs (j + 1) : Nat) : Int)] ∧ olds = (List.range (fit room fs)).map fun t => ((costOld old j (fs.take (t + 1)) + kst old room (fs.drop (t + 1)) (j + 1) : Nat) : Int)) ∨ (j = old.length ∧ sk = [] ∧ olds = []))
    (hm : m ∈ news ++ sk ++ olds) (hle : ∀ y ∈ news ++ sk ++ olds, m ≤ y) : m = (kst old room fs j : Nat) := by
  obtain ⟨l1, l2, l3⟩ := kst_le (old := old) hF hn h32 hj
  apply Int.le_antisymm
  · rcases kst_mem (old := old) hF hn hj with ⟨k, k1, k2, e⟩ | ⟨hlt, e⟩ | ⟨hlt, k, k1, k2, e⟩
    · rw [e]
      apply hle
      rw [hnews]
      refine List.mem_append_left _ (List.mem_append_left _ (List.mem_map.mpr ⟨k - 1, List.mem_range.mpr (by omega), ?_⟩))
      rw [show k - 1 + 1 = k by omega]
    · rcases hrest with ⟨_, r2, r3⟩ | ⟨r1, _, _⟩
      · rw [e]
        apply hle
        rw [r2]
        exact List.mem_append_left _ (List.mem_append_right _ (List.mem_singleton.mpr rfl))
      · omega
    · rcases hrest with ⟨_, r2, r3⟩ | ⟨r1, _, _⟩
      · rw [e]
        apply hle
        rw [r3]
        refine List.mem_append_right _ (List.mem_map.mpr ⟨k - 1, List.mem_range.mpr (by omega), ?_⟩)
        rw [show k - 1 + 1 = k by omega]
      · omega
  · rcases List.mem_append.mp hm with hm | hm
    · rcases List.mem_append.mp hm with hm | hm
      · rw [hnews] at hm
        obtain ⟨t, ht, rfl⟩ := List.mem_map.mp hm
        have := l1 (t + 1) (by omega) (by have := List.mem_range.mp ht; omega)
        omega
      · rcases hrest with ⟨r1, r2, r3⟩ | ⟨_, r2, _⟩
        · rw [r2] at hm
          have := List.mem_singleton.mp hm
          have := l2 r1
          omega
        · rw [r2] at hm
          exact absurd hm (by simp)
    · rcases hrest with ⟨r1, r2, r3⟩ | ⟨_, _, r3⟩
      · rw [r3] at hm
        obtain ⟨t, ht, rfl⟩ := List.mem_map.mp hm
        have := l3 r1 (t + 1) (by omega) (by have := List.mem_range.mp ht; omega)
        omega
      · rw [r3] at hm
        exact absurd hm (by simp)
end
end BX

namespace BX
open BdBox
/-- how many files stand in the first boxes of a way -/
def lenW (w : Way) : Nat := (w.map fun (x : Option Nat × List BFile) => x.2.length).sum
theorem lenW_snoc {w : Way} {i : Nat} {x : Option Nat × List BFile} (h : w[i]? = some x) : lenW (w.take (i + 1)) = lenW (w.take i) + x.2.length := by
  have e : w.take (i + 1) = w.take i ++ [x] := by
    rw [List.take_succ, h]
    rfl
  rw [e]
  unfold lenW
  rw [List.map_append, List.sum_append]
  simp
theorem way_at {room m : Nat} : ∀ {w : Way} {j : Nat} {fs : List BFile} {i : Nat} {x : Option Nat × List BFile} (d : Nat), WayOk room m j fs w → w[i]? = some x →
    lenW (w.take i) + x.2.length ≤ fs.length ∧ (fs.drop (lenW (w.take i))).take x.2.length = x.2 ∧ x.2 ≠ [] ∧ (∀ a, x.1 = some a → a < m) ∧ (trip d w)[i]? = some (d + lenW (w.take i), d + lenW (w.take i) + x.2.length, x.1)
  | [], j, fs, i, x, d, _, h => by simp at h
  | (k, l) :: w, j, fs, 0, x, d, W, h => by
    obtain ⟨h1, h2, r, h3, h4, h5⟩ := W.cons
    have e : (k, l) = x := by simpa using h
    subst e
    refine ⟨?_, ?_, h1, fun a e => (h4 a e).2, ?_⟩
    · show 0 + l.length ≤ _
      rw [h3, List.length_append]
      omega
    · show (fs.drop 0).take l.length = l
      rw [List.drop_zero, h3, List.take_left']
      rfl
    · rfl
  | (k, l) :: w, j, fs, i + 1, x, d, W, h => by
    obtain ⟨h1, h2, r, h3, h4, h5⟩ := W.cons
    have ih := way_at (d + l.length) h5 (i := i) (x := x) (by simpa using h)
    obtain ⟨i1, i2, i3, i4, i5⟩ := ih
    have e : lenW (((k, l) :: w).take (i + 1)) = l.length + lenW (w.take i) := by
      rw [List.take_succ_cons]
      unfold lenW
      rw [List.map_cons, List.sum_cons]
    rw [e]
    refine ⟨?_, ?_, i3, i4, ?_⟩
    · rw [h3, List.length_append]
      omega
    · rw [h3, ← List.drop_drop, List.drop_left']
      · exact i2
      · rfl
    · show (trip (d + l.length) w)[i]? = _
      rw [i5]
      congr 2
      · omega
      · congr 1
        omega
theorem trip_len : ∀ (w : Way) (d : Nat), (trip d w).length = w.length
  | [], _ => rfl
  | (k, l) :: w, d => by
    show (trip (d + l.length) w).length + 1 = w.length + 1
    rw [trip_len w]
theorem way_len {room m : Nat} : ∀ {w : Way} {j : Nat} {fs : List BFile}, WayOk room m j fs w → w.length ≤ fs.length
  | [], _, _, _ => Nat.zero_le _
  | (k, l) :: w, j, fs, W => by
    obtain ⟨h1, h2, r, h3, h4, h5⟩ := W.cons
    have := way_len h5
    have hp := List.length_pos_iff.mpr h1
    rw [h3, List.length_append, List.length_cons]
    omega
theorem newIn_append (u v : Way) : newIn (u ++ v) = newIn u + newIn v := by
  unfold newIn
  rw [List.filter_append, List.length_append]
theorem boxesBy_append (old : List Box) : ∀ (u v : Way) (n : Nat), boxesBy old n (u ++ v) = boxesBy old n u ++ boxesBy old (n + newIn u) v
  | [], v, n => by
    show boxesBy old n v = boxesBy old (n + newIn []) v
    rfl
  | (none, l) :: u, v, n => by
    have e : newIn ((none, l) :: u) = newIn u + 1 := rfl
    show (⟨n, l⟩ :: boxesBy old (n + 1) (u ++ v)) = (⟨n, l⟩ :: boxesBy old (n + 1) u) ++ _
    rw [boxesBy_append old u v (n + 1), e, List.cons_append, show n + 1 + newIn u = n + (newIn u + 1) by omega]
  | (some a, l) :: u, v, n => by
    have e : newIn ((some a, l) :: u) = newIn u := rfl
    show (⟨((old[a]?).map fun (b : Box) => b.number).getD 0, l⟩ :: boxesBy old n (u ++ v)) = (⟨((old[a]?).map fun (b : Box) => b.number).getD 0, l⟩ :: boxesBy old n u) ++ _
    rw [boxesBy_append old u v n, e, List.cons_append]
theorem boxesBy_snoc (old : List Box) {w : Way} {i : Nat} {x : Option Nat × List BFile} (h : w[i]? = some x) (n : Nat) : boxesBy old n (w.take (i + 1)) = boxesBy old n (w.take i) ++ boxesBy old (n + newIn (w.take i)) [x] := by
  have e : w.take (i + 1) = w.take i ++ [x] := by
    rw [List.take_succ, h]
    rfl
  rw [e, boxesBy_append]
theorem newIn_snoc {w : Way} {i : Nat} {x : Option Nat × List BFile} (h : w[i]? = some x) : newIn (w.take (i + 1)) = newIn (w.take i) + newIn [x] := by
  have e : w.take (i + 1) = w.take i ++ [x] := by
    rw [List.take_succ, h]
    rfl
  rw [e, newIn_append]
theorem row_append (u v : List Box) : row (u ++ v) = row u ++ row v := by unfold row; rw [List.map_append]
end BX

namespace BX
/-- a call's number and its numbers -/
def encN : BoxSpec.Call → Nat × List Nat
  | .begin_ r => (1, [r])
  | .put f k t => (2, [f, k, t])
  | .take f => (3, [f])
  | .grow f t => (4, [f, t])
  | .count => (5, [])
  | .where_ f => (6, [f])
  | .box i => (7, [i])
  | .files i => (8, [i])
  | .seek k => (9, [k])
  | .least => (10, [])
  | .pack => (11, [])
def flat1 (c : BoxSpec.Call) : List Int := ((encN c).1 : Int) :: (encN c).2.map fun (n : Nat) => (n : Int)
def flat (cs : List BoxSpec.Call) : List Int := cs.flatMap flat1
/-- what is answered, from a state -/
def run : BoxSpec.State → List BoxSpec.Call → List Int
  | _, [] => []
  | x, c :: cs => ((Neutral.told c (BoxSpec.step x c).2).length : Int) :: Neutral.told c (BoxSpec.step x c).2 ++ run (BoxSpec.step x c).1 cs
theorem whole_id (c : List (List Int)) : PyWqaibv.whole c = c := by
  unfold PyWqaibv.whole
  split <;> rfl
theorem nat_of {r : Int} (h : 0 ≤ r) : BdRows.nat? r = some r.toNat := by
  unfold BdRows.nat?
  rw [if_pos h]
theorem asked_call {c : List (List Int)} (h : Neutral.asked1 c = true) : ∃ d, c = [flat1 d] ∧ Neutral.callOf c = some d := by
  unfold Neutral.asked1 at h
  split at h
  · next r =>
    have h1 : 0 ≤ r := by simpa using h
    refine ⟨.begin_ r.toNat, ?_, ?_⟩
    · show [[1, r]] = [[((1 : Nat) : Int), ((r.toNat : Nat) : Int)]]
      rw [Int.toNat_of_nonneg h1]
      rfl
    · show (do return BoxSpec.Call.begin_ (← BdRows.nat? r)) = _
      rw [nat_of h1]
      rfl
  · next f k t =>
    simp only [Bool.and_eq_true, decide_eq_true_eq] at h
    obtain ⟨h1, h2, h3⟩ := h
    refine ⟨.put f.toNat k.toNat t.toNat, ?_, ?_⟩
    · show [[2, f, k, t]] = [[((2 : Nat) : Int), ((f.toNat : Nat) : Int), ((k.toNat : Nat) : Int), ((t.toNat : Nat) : Int)]]
      rw [Int.toNat_of_nonneg h1, Int.toNat_of_nonneg h2, Int.toNat_of_nonneg h3]
      rfl
    · show (do return BoxSpec.Call.put (← BdRows.nat? f) (← BdRows.nat? k) (← BdRows.nat? t)) = _
      rw [nat_of h1, nat_of h2, nat_of h3]
      rfl
  · next f =>
    have h1 : 0 ≤ f := by simpa using h
    refine ⟨.take f.toNat, ?_, ?_⟩
    · show [[3, f]] = [[((3 : Nat) : Int), ((f.toNat : Nat) : Int)]]
      rw [Int.toNat_of_nonneg h1]
      rfl
    · show (do return BoxSpec.Call.take (← BdRows.nat? f)) = _
      rw [nat_of h1]
      rfl
  · next f t =>
    simp only [Bool.and_eq_true, decide_eq_true_eq] at h
    obtain ⟨h1, h2⟩ := h
    refine ⟨.grow f.toNat t.toNat, ?_, ?_⟩
    · show [[4, f, t]] = [[((4 : Nat) : Int), ((f.toNat : Nat) : Int), ((t.toNat : Nat) : Int)]]
      rw [Int.toNat_of_nonneg h1, Int.toNat_of_nonneg h2]
      rfl
    · show (do return BoxSpec.Call.grow (← BdRows.nat? f) (← BdRows.nat? t)) = _
      rw [nat_of h1, nat_of h2]
      rfl
  · exact ⟨.count, rfl, rfl⟩
  · next f =>
    have h1 : 0 ≤ f := by simpa using h
    refine ⟨.where_ f.toNat, ?_, ?_⟩
    · show [[6, f]] = [[((6 : Nat) : Int), ((f.toNat : Nat) : Int)]]
      rw [Int.toNat_of_nonneg h1]
      rfl
    · show (do return BoxSpec.Call.where_ (← BdRows.nat? f)) = _
      rw [nat_of h1]
      rfl
  · next f =>
    have h1 : 0 ≤ f := by simpa using h
    refine ⟨.box f.toNat, ?_, ?_⟩
    · show [[7, f]] = [[((7 : Nat) : Int), ((f.toNat : Nat) : Int)]]
      rw [Int.toNat_of_nonneg h1]
      rfl
    · show (do return BoxSpec.Call.box (← BdRows.nat? f)) = _
      rw [nat_of h1]
      rfl
  · next f =>
    have h1 : 0 ≤ f := by simpa using h
    refine ⟨.files f.toNat, ?_, ?_⟩
    · show [[8, f]] = [[((8 : Nat) : Int), ((f.toNat : Nat) : Int)]]
      rw [Int.toNat_of_nonneg h1]
      rfl
    · show (do return BoxSpec.Call.files (← BdRows.nat? f)) = _
      rw [nat_of h1]
      rfl
  · next f =>
    have h1 : 0 ≤ f := by simpa using h
    refine ⟨.seek f.toNat, ?_, ?_⟩
    · show [[9, f]] = [[((9 : Nat) : Int), ((f.toNat : Nat) : Int)]]
      rw [Int.toNat_of_nonneg h1]
      rfl
    · show (do return BoxSpec.Call.seek (← BdRows.nat? f)) = _
      rw [nat_of h1]
      rfl
  · exact ⟨.least, rfl, rfl⟩
  · exact ⟨.pack, rfl, rfl⟩
  · cases h
theorem all_calls : ∀ {raw : List (List (List Int))}, raw.all Neutral.asked1 = true → ∃ cs : List BoxSpec.Call, PyFlat.put raw = flat cs ∧ ∀ x, PyFlat.told (PyFlat.played Neutral.step x raw) = run x cs
  | [], _ => ⟨[], rfl, fun _ => rfl⟩
  | c :: raw, h => by
    rw [List.all_cons, Bool.and_eq_true] at h
    obtain ⟨d, e1, e2⟩ := asked_call h.1
    obtain ⟨cs, i1, i2⟩ := all_calls h.2
    refine ⟨d :: cs, ?_, fun x => ?_⟩
    · show PyFlat.put1 c ++ PyFlat.put raw = flat1 d ++ flat cs
      rw [i1, e1]
      show (flat1 d ++ []) ++ flat cs = _
      rw [List.append_nil]
    · have es : Neutral.step x c = ((BoxSpec.step x d).1, Neutral.told d (BoxSpec.step x d).2) := by
        unfold Neutral.step
        rw [e2]
      show PyFlat.told ((Neutral.step x c).2 :: PyFlat.played Neutral.step (Neutral.step x c).1 raw) = _
      rw [es]
      show (((Neutral.told d (BoxSpec.step x d).2).length : Int) :: Neutral.told d (BoxSpec.step x d).2) ++ PyFlat.told (PyFlat.played Neutral.step (BoxSpec.step x d).1 raw) = _
      rw [i2]
      rfl
theorem asked_flat {l : List Int} (h : PyWqaibv.answers_asked l = true) : ∃ cs : List BoxSpec.Call, l = flat cs ∧ PyWqaibv.answers l = run none cs ∧ (run none cs).length ≤ 10000000 := by
  unfold PyWqaibv.answers_asked at h
  cases e : PyFlat.calls PyWqaibv.shape l.length l with
  | none => rw [e] at h; cases h
  | some raw =>
    rw [e] at h
    simp only [Bool.and_eq_true] at h
    obtain ⟨⟨⟨_, _⟩, h3⟩, h4⟩ := h
    have ew : raw.map PyWqaibv.whole = raw := by
      have : PyWqaibv.whole = id := funext whole_id
      rw [this, List.map_id]
    rw [ew] at h3
    obtain ⟨cs, c1, c2⟩ := all_calls h3
    have e1 := (PyFlat.put_calls _ _ _ e).1
    have e2 : PyWqaibv.answers l = run none cs := by
      unfold PyWqaibv.answers PyWqaibv.calls
      rw [e]
      show PyFlat.told (PyFlat.played Neutral.step Neutral.start (raw.map PyWqaibv.whole)) = _
      rw [ew]
      exact c2 _
    refine ⟨cs, e1.trans c1, e2, ?_⟩
    rw [← e2]
    unfold PyFlat.short at h4
    exact of_decide_eq_true h4
end BX

namespace BW
open PySem PySem.Spec PyProof.Rows L2 BX

/-! ### the text by places -/
def topS (i : Nat) : Stmt := PySem.Challenge.pw_fewboxesdesk_s01_answers.main.body.getD i (.Pass ⟨0, 0, 0, 0⟩)

/-! ### numbers as values, frames of heaps -/
abbrev nI (n : Nat) : V := .int (n : Int)
abbrev nK (n : Nat) : Key := Sum.inl (n : Int)
/-- all that was tracked is as it was, but at a -/
def But (a : Addr) (H H' : Hp) : Prop := ∀ b o, H b = some o → b ≠ a → H' b = some o
theorem _root_.L2.Same.new {H : Hp} {p : Addr} {o : HO} (h : H p = none) : Same H (upd H p o) := fun b u e => by
  rw [upd_ne (ne_of_none e h)]; exact e
theorem _root_.L2.Same.but {a : Addr} {H H' : Hp} (s : Same H H') : But a H H' := fun b o e _ => s b o e
theorem But.trans {a : Addr} {H H1 H2 : Hp} (s : But a H H1) (t : But a H1 H2) : But a H H2 := fun b o e h => t b o (s b o e h) h
theorem But.refl (a : Addr) (H : Hp) : But a H H := fun b o e _ => e
theorem But.upd {a : Addr} {H : Hp} {o : HO} : But a H (upd H a o) := fun b u e h => by rw [upd_ne h]; exact e
/-- a change at an address that was free ahead of it all -/
theorem _root_.L2.Same.upd_free {H H1 : Hp} {p : Addr} {o : HO} (s : Same H H1) (h : H p = none) : Same H (upd H1 p o) := fun b u e => by
  rw [upd_ne (ne_of_none e h)]; exact s b u e
theorem _root_.L2.Same.but_free {H H1 H2 : Hp} {p : Addr} (s : Same H H1) (h : H p = none) (t : But p H1 H2) : Same H H2 := fun b u e => t b u (s b u e) (ne_of_none e h)
theorem get_nI {ns : List Nat} {i : Nat} {x : V} (h : (ns.map nI)[i]? = some x) : ∃ n, ns[i]? = some n ∧ x = nI n := by
  rw [List.getElem?_map] at h
  cases e : ns[i]? with
  | none => rw [e] at h; cases h
  | some n => rw [e] at h; exact ⟨n, rfl, (Option.some.inj h).symm⟩
theorem get_ref {as : List Addr} {i : Nat} {x : V} (h : (as.map V.ref)[i]? = some x) : ∃ a, as[i]? = some a ∧ x = .ref a := by
  rw [List.getElem?_map] at h
  cases e : as[i]? with
  | none => rw [e] at h; cases h
  | some n => rw [e] at h; exact ⟨n, rfl, (Option.some.inj h).symm⟩
theorem get_bl {bs : List Bool} {i : Nat} {x : V} (h : (bs.map V.bl)[i]? = some x) : ∃ b, bs[i]? = some b ∧ x = .bl b := by
  rw [List.getElem?_map] at h
  cases e : bs[i]? with
  | none => rw [e] at h; cases h
  | some n => rw [e] at h; exact ⟨n, rfl, (Option.some.inj h).symm⟩
theorem take_snoc {α : Type} : ∀ {l : List α} {i : Nat} {x : α}, l[i]? = some x → l.take (i + 1) = l.take i ++ [x]
  | [], i, x, h => by simp at h
  | a :: l, 0, x, h => by
    have e : a = x := Option.some.inj h
    subst e
    rfl
  | a :: l, i + 1, x, h => by
    have ih := take_snoc (l := l) (i := i) (x := x) h
    show a :: l.take (i + 1) = a :: l.take i ++ [x]
    rw [ih]
    rfl
theorem lt_of_get {α : Type} {l : List α} {i : Nat} {x : α} (h : l[i]? = some x) : i < l.length := (List.getElem?_eq_some_iff.mp h).1
theorem get_of_lt {α : Type} {l : List α} {i : Nat} (h : i < l.length) : ∃ x, l[i]? = some x := ⟨l[i], by simp [h]⟩
theorem small {n : Nat} (h : n ≤ 100000) : n < sizeLine := Nat.lt_of_le_of_lt h (by decide)
theorem smallE {n : Nat} (h : n ≤ 100000) : n ≤ sizeLine := Nat.le_of_lt (small h)

/-! ### fields -/
theorem lk_here {k : Str} {v : V} {r : List (Str × V)} : List.lookup k ((k, v) :: r) = some v := by
  have e : (k == k) = true := beq_self_eq_true k
  simp only [List.lookup, e]
theorem lk_past {k g : Str} {v : V} {r : List (Str × V)} (h : (k == g) = false) : List.lookup k ((g, v) :: r) = List.lookup k r := by
  simp only [List.lookup, h]
theorem put_here {f : Str} {v x : V} {r : List (Str × V)} : putF f v ((f, x) :: r) = (f, v) :: r := if_pos rfl
theorem put_past {f g : Str} {v x : V} {r : List (Str × V)} (h : ¬ g = f) : putF f v ((g, x) :: r) = (g, x) :: putF f v r := if_neg h
theorem put_nil {f : Str} {v : V} : putF f v [] = [(f, v)] := rfl

/-! ### objects -/
section
variable (CF CB CW CS : Addr)
def fF (n k t : Int) : List (Str × V) := [("number", .int n), ("key", .int k), ("thick", .int t)]
def fB (n : Int) (l : Addr) : List (Str × V) := [("number", .int n), ("files", .ref l)]
def fS (room : Int) (d l : Addr) (next : Int) : List (Str × V) := [("room", .int room), ("files", .ref d), ("boxes", .ref l), ("coming", .int next)]
def FileAt (H : Hp) (a : Addr) (f : BdBox.BFile) : Prop := ∃ dx, H a = some (.ins CF dx (fF f.number f.key f.thick))
def BoxAt (H : Hp) (a : Addr) (b : PB) : Prop := ∃ dx l, H a = some (.ins CB dx (fB b.1 l)) ∧ H l = some (.lst (b.2.map nI))
/-- place by place -/
def All2 {α β : Type} (R : α → β → Prop) (as : List α) (bs : List β) : Prop := as.length = bs.length ∧ ∀ (i : Nat) (a : α) (b : β), as[i]? = some a → bs[i]? = some b → R a b
def RowAt (H : Hp) (l : Addr) (bs : List PB) : Prop := ∃ as : List Addr, H l = some (.lst (as.map V.ref)) ∧ All2 (BoxAt CB H) as bs
def DictAt (H : Hp) (d : Addr) (fs : List BdBox.BFile) : Prop := ∃ ps : List (BdBox.BFile × Addr), H d = some (.dK (ps.map fun p => (nK p.1.number, V.ref p.2))) ∧ (ps.map (·.1)).Perm fs ∧ ∀ p ∈ ps, FileAt CF H p.2 p.1
def ShelfRaw (H : Hp) (a : Addr) (room : Nat) (d l : Addr) (next : Nat) : Prop := ∃ dx, H a = some (.ins CS dx (fS room d l next))
end
theorem All2.get {α β : Type} {R : α → β → Prop} {as : List α} {bs : List β} (h : All2 R as bs) {i : Nat} {a : α} (e : as[i]? = some a) : ∃ b, bs[i]? = some b ∧ R a b := by
  obtain ⟨b, hb⟩ := get_of_lt (l := bs) (i := i) (by rw [← h.1]; exact lt_of_get e)
  exact ⟨b, hb, h.2 i a b e hb⟩
theorem All2.get' {α β : Type} {R : α → β → Prop} {as : List α} {bs : List β} (h : All2 R as bs) {i : Nat} {b : β} (e : bs[i]? = some b) : ∃ a, as[i]? = some a ∧ R a b := by
  obtain ⟨a, ha⟩ := get_of_lt (l := as) (i := i) (by rw [h.1]; exact lt_of_get e)
  exact ⟨a, ha, h.2 i a b ha e⟩
theorem All2.imp {α β : Type} {R S : α → β → Prop} {as : List α} {bs : List β} (h : All2 R as bs) (f : ∀ a b, a ∈ as → b ∈ bs → R a b → S a b) : All2 S as bs :=
  ⟨h.1, fun i a b ha hb => f a b (List.mem_of_getElem? ha) (List.mem_of_getElem? hb) (h.2 i a b ha hb)⟩
theorem All2.nil {α β : Type} {R : α → β → Prop} : All2 R ([] : List α) ([] : List β) := ⟨rfl, fun i a b h => by simp at h⟩
theorem All2.snoc {α β : Type} {R : α → β → Prop} {as : List α} {bs : List β} {a : α} {b : β} (h : All2 R as bs) (r : R a b) : All2 R (as ++ [a]) (bs ++ [b]) := by
  refine ⟨by simp [h.1], fun i x y hx hy => ?_⟩
  by_cases c : i < as.length
  · rw [List.getElem?_append_left c] at hx
    rw [List.getElem?_append_left (by rw [← h.1]; exact c)] at hy
    exact h.2 i x y hx hy
  · have hi := lt_of_get hx
    rw [List.length_append, List.length_singleton] at hi
    have e : i = as.length := by omega
    subst e
    rw [List.getElem?_append_right (Nat.le_refl _), Nat.sub_self] at hx
    rw [h.1, List.getElem?_append_right (Nat.le_refl _), Nat.sub_self] at hy
    have e1 : a = x := Option.some.inj hx
    have e2 : b = y := Option.some.inj hy
    subst e1 e2
    exact r
section
variable {CF CB CW CS : Addr} {H H' : Hp} {a : Addr}
theorem FileAt.same {f : BdBox.BFile} (s : Same H H') (h : FileAt CF H a f) : FileAt CF H' a f := by
  obtain ⟨dx, e⟩ := h
  exact ⟨dx, s _ _ e⟩
theorem BoxAt.same {b : PB} (s : Same H H') (h : BoxAt CB H a b) : BoxAt CB H' a b := by
  obtain ⟨dx, l, e, e2⟩ := h
  exact ⟨dx, l, s _ _ e, s _ _ e2⟩
theorem RowAt.same {l : Addr} {bs : List PB} (s : Same H H') (h : RowAt CB H l bs) : RowAt CB H' l bs := by
  obtain ⟨as, e, e2⟩ := h
  exact ⟨as, s _ _ e, e2.imp fun _ _ _ _ r => r.same s⟩
theorem DictAt.same {d : Addr} {fs : List BdBox.BFile} (s : Same H H') (h : DictAt CF H d fs) : DictAt CF H' d fs := by
  obtain ⟨ps, e, e2, e3⟩ := h
  exact ⟨ps, s _ _ e, e2, fun p hp => (e3 p hp).same s⟩
theorem ShelfRaw.same {room next : Nat} {d l : Addr} (s : Same H H') (h : ShelfRaw CS H a room d l next) : ShelfRaw CS H' a room d l next := by
  obtain ⟨dx, e⟩ := h
  exact ⟨dx, s _ _ e⟩
theorem fS_ne_fF {r n n' k t : Int} {d l : Addr} {C C' dx dx' : Addr} : HO.ins C dx (fF n' k t) ≠ HO.ins C' dx' (fS r d l n) := fun h => by
  have := (HO.ins.inj h).2.2
  have := congrArg List.length this
  simp [fF, fS] at this
theorem fS_ne_fB {r n n' : Int} {d l l' : Addr} {C C' dx dx' : Addr} : HO.ins C dx (fB n' l') ≠ HO.ins C' dx' (fS r d l n) := fun h => by
  have := (HO.ins.inj h).2.2
  have := congrArg List.length this
  simp [fB, fS] at this
theorem FileAt.but {c d l : Addr} {r n : Nat} {f : BdBox.BFile} (s : But a H H') (R : ShelfRaw CS H a r d l n) (h : FileAt CF H c f) : FileAt CF H' c f := by
  obtain ⟨dx, e⟩ := h
  obtain ⟨dy, e'⟩ := R
  exact ⟨dx, s _ _ e (ne_of e e' fS_ne_fF)⟩
theorem BoxAt.but {c d l : Addr} {r n : Nat} {b : PB} (s : But a H H') (R : ShelfRaw CS H a r d l n) (h : BoxAt CB H c b) : BoxAt CB H' c b := by
  obtain ⟨dx, k, e, e2⟩ := h
  obtain ⟨dy, e'⟩ := R
  exact ⟨dx, k, s _ _ e (ne_of e e' fS_ne_fB), s _ _ e2 (ne_of e2 e' (by intro z; cases z))⟩
theorem RowAt.but {d l k : Addr} {r n : Nat} {bs : List PB} (s : But a H H') (R : ShelfRaw CS H a r d l n) (h : RowAt CB H k bs) : RowAt CB H' k bs := by
  obtain ⟨as, e, e2⟩ := h
  refine ⟨as, ?_, e2.imp fun _ _ _ _ q => q.but s R⟩
  obtain ⟨dy, e'⟩ := R
  exact s _ _ e (ne_of e e' (by intro z; cases z))
theorem DictAt.but {c d l : Addr} {r n : Nat} {fs : List BdBox.BFile} (s : But a H H') (R : ShelfRaw CS H a r d l n) (h : DictAt CF H c fs) : DictAt CF H' c fs := by
  obtain ⟨ps, e, e2, e3⟩ := h
  refine ⟨ps, ?_, e2, fun p hp => (e3 p hp).but s R⟩
  obtain ⟨dy, e'⟩ := R
  exact s _ _ e (ne_of e e' (by intro z; cases z))
end
theorem fF_number {n k t : Int} : (fF n k t).lookup ("number" : Str) = some (.int n) := lk_here
theorem fF_key {n k t : Int} : (fF n k t).lookup ("key" : Str) = some (.int k) := (lk_past (by decide +kernel)).trans lk_here
theorem fF_thick {n k t : Int} : (fF n k t).lookup ("thick" : Str) = some (.int t) := (lk_past (by decide +kernel)).trans ((lk_past (by decide +kernel)).trans lk_here)
theorem fF_rank {n k t : Int} : (fF n k t).lookup ("rank" : Str) = none := (lk_past (by decide +kernel)).trans ((lk_past (by decide +kernel)).trans ((lk_past (by decide +kernel)).trans rfl))
theorem fB_number {n : Int} {l : Addr} : (fB n l).lookup ("number" : Str) = some (.int n) := lk_here
theorem fB_files {n : Int} {l : Addr} : (fB n l).lookup ("files" : Str) = some (.ref l) := (lk_past (by decide +kernel)).trans lk_here

/-! ### what the top has written -/
structure Txt (K : PySem.W.Frag) (mg : Str → Option Value) (CF CB CW CS aN : Addr) : Prop where
  clF : Cls K CF
  clB : Cls K CB
  clW : Cls K CW
  clS : Cls K CS
  nF1 : NoAttr K CF "number"
  nF2 : NoAttr K CF "key"
  nF3 : NoAttr K CF "thick"
  nB1 : NoAttr K CB "number"
  nB2 : NoAttr K CB "files"
  nW1 : NoAttr K CW "numbers"
  nW2 : NoAttr K CW "boxes"
  nW3 : NoAttr K CW "ends"
  nW4 : NoAttr K CW "known"
  nW5 : NoAttr K CW "within"
  nW6 : NoAttr K CW "costs"
  nS1 : NoAttr K CS "room"
  nS2 : NoAttr K CS "files"
  nS3 : NoAttr K CS "boxes"
  nS4 : NoAttr K CS "coming"
  mF : mg "File" = some (.ref CF)
  mB : mg "Box" = some (.ref CB)
  mW : mg "Ways" = some (.ref CW)
  mS : mg "Shelf" = some (.ref CS)
  len : mg "len" = none
  range : mg "range" = none
  reversed : mg "reversed" = none
  list : mg "list" = none
  sorted : mg "sorted" = none
  sum : mg "sum" = none
  min : mg "min" = none
  int : mg "int" = none
  dict : mg "dict" = none
  enumerate : mg "enumerate" = none
  zip : mg "zip" = none
  cBOX : ∃ u, mg "BOX_ways" = some u ∧ RelV (.int 1000) u
  cWRONG : ∃ u, mg "WRONG" = some u ∧ RelV (.int (-1)) u
  cNONE : ∃ u, mg "NONE_SUCH" = some u ∧ RelV (.int (-4)) u
  cFULL : ∃ u, mg "FULL" = some u ∧ RelV (.int (-6)) u
  cTHERE : ∃ u, mg "THERE" = some u ∧ RelV (.int (-8)) u
  cNOSHELF : ∃ u, mg "NO_SHELF" = some u ∧ RelV (.int (-9)) u
  cROOM : ∃ u, mg "MOST_ROOM" = some u ∧ RelV (.int 10000) u
  cLAST : ∃ u, mg "LAST_FILE" = some u ∧ RelV (.int 16383) u
  cKEYS : ∃ u, mg "KEYS" = some u ∧ RelV (.int 18446744073709551616) u
  cMOST : ∃ u, mg "MOST_FILES" = some u ∧ RelV (.int 32) u
  cBEGIN : ∃ u, mg "BEGIN" = some u ∧ RelV (.int 1) u
  cPUT : ∃ u, mg "PUT" = some u ∧ RelV (.int 2) u
  cTAKE : ∃ u, mg "TAKE" = some u ∧ RelV (.int 3) u
  cGROW : ∃ u, mg "GROW" = some u ∧ RelV (.int 4) u
  cCOUNT : ∃ u, mg "COUNT" = some u ∧ RelV (.int 5) u
  cWHERE : ∃ u, mg "WHERE" = some u ∧ RelV (.int 6) u
  cBOXS : ∃ u, mg "BOX_shelf" = some u ∧ RelV (.int 7) u
  cFILES : ∃ u, mg "FILES" = some u ∧ RelV (.int 8) u
  cSEEK : ∃ u, mg "SEEK" = some u ∧ RelV (.int 9) u
  cLEAST : ∃ u, mg "LEAST" = some u ∧ RelV (.int 10) u
  cNUM : mg "NUMBERS" = some (.ref aN)
  tNUM : ∀ H : Hp, SqT K H aN ([0, 1, 3, 1, 2, 0, 1, 1, 1, 1, 0, 0].map V.int)

/-! ### defs and their callers -/
section
variable (P : Program) (w : World) (K : PySem.W.Frag) (mg : Str → Option Value) (base : Heap)
/-- a def stands in the text -/
def DefF (name : Str) (st : Stmt) (ps : List Str) : Prop := ∃ f fd, Fun K name name st f fd ∧ mg name = some (.ref f) ∧ Binds K fd ps []
def DefM (C : Addr) (m qual : Str) (st : Stmt) (ps : List Str) : Prop := ∃ f fd, Fun K m qual st f fd ∧ Meth K C m f ∧ Binds K fd ps []
def DefI (C : Addr) (cname qual : Str) (st : Stmt) (ps : List Str) : Prop := ∃ f fd, Fun K "__init__" qual st f fd ∧ Mk K C f ∧ mg cname = some (.ref C) ∧ Binds K fd ps []
/-- it keeps its promise -/
def CalF (k : Nat) (name : Str) (ps : List Str) (sp : Sp) : Prop := ∃ f fd, FnOk P w K mg base CX0 k f fd ps sp ∧ mg name = some (.ref f) ∧ PySem.W.keepIn K (.ref f) = true ∧ Binds K fd ps []
def CalM (k : Nat) (C : Addr) (m : Str) (ps : List Str) (sp : Sp) : Prop := ∃ f fd, FnOk P w K mg base CX0 k f fd ps sp ∧ Meth K C m f ∧ Binds K fd ps []
def CalI (k : Nat) (C : Addr) (cname : Str) (ps : List Str) (sp : Sp) : Prop := ∃ f fd, FnOk P w K mg base CX0 k f fd ps sp ∧ Mk K C f ∧ mg cname = some (.ref C) ∧ Binds K fd ps []
end
section
variable {P : Program} {w : World} {K : PySem.W.Frag} {mg : Str → Option Value} {base : Heap} {CF CB CW CS aN : Addr}
theorem DefF.cal {name : Str} {st : Stmt} {ps : List Str} {k : Nat} {sp : Sp} (D : DefF K mg name st ps) (h : ∀ f fd, Fun K name name st f fd → FnOk P w K mg base CX0 k f fd ps sp) : CalF P w K mg base k name ps sp := by
  obtain ⟨f, fd, F, m, b⟩ := D
  exact ⟨f, fd, h f fd F, m, F.kp, b⟩
theorem DefM.cal {C : Addr} {m qual : Str} {st : Stmt} {ps : List Str} {k : Nat} {sp : Sp} (D : DefM K C m qual st ps) (h : ∀ f fd, Fun K m qual st f fd → FnOk P w K mg base CX0 k f fd ps sp) : CalM P w K mg base k C m ps sp := by
  obtain ⟨f, fd, F, m, b⟩ := D
  exact ⟨f, fd, h f fd F, m, b⟩
theorem DefI.cal {C : Addr} {cname qual : Str} {st : Stmt} {ps : List Str} {k : Nat} {sp : Sp} (D : DefI K mg C cname qual st ps) (h : ∀ f fd, Fun K "__init__" qual st f fd → FnOk P w K mg base CX0 k f fd ps sp) : CalI P w K mg base k C cname ps sp := by
  obtain ⟨f, fd, F, m, m2, b⟩ := D
  exact ⟨f, fd, h f fd F, m, m2, b⟩
end
/-- a field of a name -/
theorem pe_fn {X : Cx} {x f : Str} {p pos : Pos} {ta : TE} (he : PE X (.Name x p) ta) : PE X (.Attribute (.Name x p) f pos) (tFld X.K ta f) := pe_fld he rfl
/-- a field of a field of a name -/
theorem pe_fn2 {X : Cx} {x f g : Str} {p pos pos2 : Pos} {ta : TE} (he : PE X (.Name x p) ta) : PE X (.Attribute (.Attribute (.Name x p) f pos) g pos2) (tFld X.K (tFld X.K ta f) g) := pe_fld (pe_fn he) rfl
/-- the same, K by its name: within a comprehension's block -/
theorem pe_fk {X : Cx} (K : PySem.W.Frag) {x f : Str} {p pos : Pos} {ta : TE} (he : PE X (.Name x p) ta) (hK : X.K = K := by rfl) : PE X (.Attribute (.Name x p) f pos) (tFld K ta f) := by
  subst hK
  exact pe_fld he rfl
theorem pe_fk2 {X : Cx} (K : PySem.W.Frag) {x f g : Str} {p pos pos2 : Pos} {ta : TE} (he : PE X (.Name x p) ta) (hK : X.K = K := by rfl) : PE X (.Attribute (.Attribute (.Name x p) f pos) g pos2) (tFld K (tFld K ta f) g) := by
  subst hK
  exact pe_fld (pe_fld he rfl) rfl
/-- a comprehension without an if -/
theorem yes_if {σ : L2.St} {H : Hp} {A B : Hp → Prop} (h : A H) : tYes σ H (fun b H3 => if b = true then A H3 else B H3) := by
  show if true = true then A H else B H
  rw [if_pos rfl]
  exact h
/-- tests whose outcome is known -/
theorem if_t {c : Bool} {A B : Prop} (hc : c = true) (h : A) : if c = true then A else B := by rw [if_pos hc]; exact h
theorem if_f {c : Bool} {A B : Prop} (hc : c = false) (h : B) : if c = true then A else B := by rw [hc, if_neg Bool.false_ne_true]; exact h
end BW

namespace BW
open PySem PySem.Spec PyProof.Rows L2 BX
abbrev sFInit : Stmt := inClass (topS 1) 0
abbrev sRank : Stmt := inClass (topS 1) 1
abbrev sBInit : Stmt := inClass (topS 2) 0
abbrev sPlace : Stmt := topS 3
abbrev sBbf : Stmt := topS 5
/-! ### promises -/
def spFInit (CF : Addr) : Sp := fun vs H Q _ => ∃ (p dx : Addr) (n k t : Int), vs = [.ref p, .int n, .int k, .int t] ∧ H p = some (.ins CF dx []) ∧ ∀ H' : Hp, (∃ dx, H' p = some (.ins CF dx (fF n k t))) → But p H H' → Q .non H'
def spRank (CF : Addr) : Sp := fun vs H Q _ => ∃ (a : Addr) (f : BdBox.BFile), vs = [.ref a] ∧ FileAt CF H a f ∧ ∀ p, H p = none → Q (.ref p) (upd H p (.tup [nI f.key, nI f.number]))
def spBInit (CB : Addr) : Sp := fun vs H Q _ => ∃ (p dx l : Addr) (n : Int), vs = [.ref p, .int n, .ref l] ∧ H p = some (.ins CB dx []) ∧ ∀ H' : Hp, (∃ dx, H' p = some (.ins CB dx (fB n l))) → But p H H' → Q .non H'
/-- a dict of numbers by numbers -/
def DictIs (kvs : List (Key × V)) (F : Nat → Option Nat) : Prop := ∀ n : Nat, valV kvs (nK n) = (F n).map nI
def sumLen (bs : List PB) : Nat := (bs.map fun b => b.2.length).sum
def spPlace (CB : Addr) : Sp := fun vs H Q _ => ∃ (l : Addr) (bs : List PB), vs = [.ref l] ∧ RowAt CB H l bs ∧ sumLen bs ≤ 1000 ∧
  ∀ (H' : Hp) (d : Addr) (kvs : List (Key × V)), Same H H' → H d = none → H' d = some (.dK kvs) → DictIs kvs (lk (placePairs 0 bs)) → Q (.ref d) H'
def spBbf (CB : Addr) : Sp := fun vs H Q _ => ∃ (l : Addr) (bs : List PB), vs = [.ref l] ∧ RowAt CB H l bs ∧ sumLen bs ≤ 1000 ∧
  ∀ (H' : Hp) (d : Addr) (kvs : List (Key × V)), Same H H' → H d = none → H' d = some (.dK kvs) → DictIs kvs (lk (numPairs bs)) → Q (.ref d) H'
theorem nK_inj {a b : Nat} : nK a = nK b ↔ a = b := by
  constructor
  · intro h
    have := Sum.inl.inj h
    exact Int.ofNat.inj this
  · intro h; rw [h]
theorem DictIs.put {kvs : List (Key × V)} {ps : List (Nat × Nat)} (h : DictIs kvs (lk ps)) (k v : Nat) : DictIs (putK kvs (nK k) (nI v)) (lk (ps ++ [(k, v)])) := by
  intro n
  rw [valV_put, lk_snoc]
  by_cases e : k = n
  · subst e
    rw [if_pos rfl, if_pos rfl]
    rfl
  · rw [if_neg (fun q => e (nK_inj.mp q).symm), if_neg e]
    exact h n
theorem DictIs.nil : DictIs [] (lk []) := fun _ => rfl
theorem sumLen_take {bs : List PB} {i : Nat} {b : PB} (h : bs[i]? = some b) : sumLen (bs.take i) + b.2.length ≤ sumLen bs ∧ sumLen (bs.take (i + 1)) = sumLen (bs.take i) + b.2.length := by
  have e : bs = bs.take (i + 1) ++ bs.drop (i + 1) := (List.take_append_drop _ _).symm
  have e1 : sumLen (bs.take (i + 1)) = sumLen (bs.take i) + b.2.length := by
    rw [take_snoc h]
    unfold sumLen
    rw [List.map_append, List.sum_append]
    simp
  refine ⟨?_, e1⟩
  have e2 : sumLen bs = sumLen (bs.take (i + 1)) + sumLen (bs.drop (i + 1)) := by
    unfold sumLen
    rw [← List.sum_append, ← List.map_append, List.take_append_drop]
  omega
section
variable {P : Program} {w : World} {K : PySem.W.Frag} {mg : Str → Option Value} {base : Heap} {CF CB CW CS aN : Addr}
/-! ### File, Box -/
theorem scFInit : FnScope ["self", "number", "key", "thick"] ["self", "number", "key", "thick"] (defScope sFInit) := ⟨rfl, rfl, rfl, by decide +kernel, rfl, by decide +kernel, by decide +kernel⟩
theorem ok_FInit (D : DefI K mg CF "File" "File.__init__" sFInit ["self", "number", "key", "thick"]) (T : Txt K mg CF CB CW CS aN) : CalI P w K mg base 1 CF "File" ["self", "number", "key", "thick"] (spFInit CF) := by
  refine D.cal fun f fd F => F.ok scFInit (fun vs H Q E h => ?_) (fun cdv A outer s H vs Q E hr h => ?_)
  · obtain ⟨p, dx, n, k, t, rfl, _⟩ := h
    rfl
  · obtain ⟨p, dx, n, k, t, rfl, hp, q⟩ := h
    refine ⟨_, pss_cons (ps_fld (pv 0) (pv 1) rfl) (pss_cons (ps_fld (pv 0) (pv 2) rfl) (pss_one (ps_fld (pv 0) (pv 3) rfl))), ?_⟩
    refine ⟨_, rfl, _, rfl, p, CF, dx, [], rfl, hp, T.clF, T.nF1, (by show 0 < 1000; decide), ?_⟩
    refine ⟨_, rfl, _, rfl, p, CF, dx, _, rfl, upd_same, T.clF, T.nF2, (by show 1 < 1000; decide), ?_⟩
    refine ⟨_, rfl, _, rfl, p, CF, dx, _, rfl, upd_same, T.clF, T.nF3, (by show 2 < 1000; decide), ?_⟩
    exact q _ ⟨dx, upd_same⟩ fun b o e hb => by rw [upd_ne hb, upd_ne hb, upd_ne hb]; exact e
theorem scRank : FnScope ["self"] ["self"] (defScope sRank) := ⟨rfl, rfl, rfl, by decide +kernel, rfl, by decide +kernel, by decide +kernel⟩
theorem ok_Rank (D : DefM K CF "rank" "File.rank" sRank ["self"]) (T : Txt K mg CF CB CW CS aN) : CalM P w K mg base 1 CF "rank" ["self"] (spRank CF) := by
  refine D.cal fun f fd F => F.ok scRank (fun vs H Q E h => ?_) (fun cdv A outer s H vs Q E hr h => ?_)
  · obtain ⟨a, f, rfl, _⟩ := h
    rfl
  · obtain ⟨a, f, rfl, ⟨dx, hp⟩, q⟩ := h
    refine ⟨_, pss_one (ps_ret (pe_tup (pa_cons (pe_fld (pv 0) rfl) (pa_cons (pe_fld (pv 0) rfl) pa_nil)))), ?_⟩
    refine ⟨_, rfl, a, CF, dx, _, _, rfl, hp, T.clF, T.nF2, fF_key, _, rfl, a, CF, dx, _, _, rfl, hp, T.clF, T.nF1, fF_number, (by show 2 ≤ sizeLine; decide), fun t ht => ?_⟩
    exact q t ht
theorem scBInit : FnScope ["self", "number", "files"] ["self", "number", "files"] (defScope sBInit) := ⟨rfl, rfl, rfl, by decide +kernel, rfl, by decide +kernel, by decide +kernel⟩
theorem ok_BInit (D : DefI K mg CB "Box" "Box.__init__" sBInit ["self", "number", "files"]) (T : Txt K mg CF CB CW CS aN) : CalI P w K mg base 1 CB "Box" ["self", "number", "files"] (spBInit CB) := by
  refine D.cal fun f fd F => F.ok scBInit (fun vs H Q E h => ?_) (fun cdv A outer s H vs Q E hr h => ?_)
  · obtain ⟨p, dx, n, l, rfl, _⟩ := h
    rfl
  · obtain ⟨p, dx, l, n, rfl, hp, q⟩ := h
    refine ⟨_, pss_cons (ps_fld (pv 0) (pv 1) rfl) (pss_one (ps_fld (pv 0) (pv 2) rfl)), ?_⟩
    refine ⟨_, rfl, _, rfl, p, CB, dx, [], rfl, hp, T.clB, T.nB1, (by show 0 < 1000; decide), ?_⟩
    refine ⟨_, rfl, _, rfl, p, CB, dx, _, rfl, upd_same, T.clB, T.nB2, (by show 1 < 1000; decide), ?_⟩
    exact q _ ⟨dx, upd_same⟩ fun b o e hb => by rw [upd_ne hb, upd_ne hb]; exact e
/-! ### place_by_file, box_by_file -/
theorem scPlace : FnScope ["boxes", "found", "at", "box", "number"] ["boxes"] (defScope sPlace) := ⟨rfl, rfl, rfl, by decide +kernel, rfl, by decide +kernel, by decide +kernel⟩
theorem ok_Place (D : DefF K mg "place_by_file" sPlace ["boxes"]) (T : Txt K mg CF CB CW CS aN) : CalF P w K mg base 1 "place_by_file" ["boxes"] (spPlace CB) := by
  refine D.cal fun f fd F => F.ok scPlace (fun vs H Q E h => ?_) (fun cdv A outer s H vs Q E hr h => ?_)
  · obtain ⟨l, bs, rfl, _⟩ := h
    rfl
  · obtain ⟨l, bs, rfl, ⟨as, hl, hb⟩, hsm, q⟩ := h
    have hu := hu_of hr
    refine ⟨_, pss_cons (ps_set (i := 1) scPlace.nd rfl (Or.inl rfl) pe_dnewK)
      (pss_cons (ps_for PassesOwn.never rfl (pi_enum (by rfl) T.enumerate (pa_cons (pv 0) pa_nil)) (pg_tup rfl (pgs_cons (pg_name (i := 2) scPlace.nd rfl (Or.inl rfl)) (pgs_cons (pg_name (i := 3) scPlace.nd rfl (Or.inl rfl)) pgs_nil)))
        (pss_one (ps_for PassesOwn.never rfl (pi_list (pe_fld (pv 3) rfl)) (pg_name (i := 4) scPlace.nd rfl (Or.inl rfl))
          (pss_one (ps_dput hu (pv 1) (pv 4) (pv 2) rfl)))))
      (pss_one (ps_ret (pv 1)))), ?_⟩
    intro d hd
    have s0 : Same H (upd H d (.dK [])) := Same.new hd
    refine ⟨_, rfl, l, _, rfl, SqL.of (s0 _ _ hl), for_it (walk_enum (xs := as.map V.ref)) (fun i σ H1 => ∃ (va vb vn : Option V) (kvs : List (Key × V)), σ = [some (.ref l), some (.ref d), va, vb, vn] ∧ Same H H1 ∧ H1 d = some (.dK kvs) ∧ kvs.length ≤ sumLen (bs.take i) ∧ DictIs kvs (lk (placePairs 0 (bs.take i))))
      ⟨none, none, none, [], rfl, s0, upd_same, Nat.zero_le _, DictIs.nil⟩ (fun i σ H1 _ ⟨_, _, _, _, _, s1, _⟩ => SqL.of (s1 _ _ hl)) ?_ ?_⟩
    · rintro i x σ H1 H2 hi ⟨va, vb, vn, kvs, rfl, s1, hd1, hk1, hD1⟩ ⟨t, y1, y2, rfl, ht, rfl, e1, e2⟩
      cases e1
      obtain ⟨a, ha, rfl⟩ := get_ref e2
      obtain ⟨b, hbi, dx, fl, hb1, hb2⟩ := hb.get ha
      have s2 : Same H (upd H1 t (.tup [V.int (i : Nat), V.ref a])) := s1.trans (Same.new ht)
      have hd2 : upd H1 t (.tup [V.int (i : Nat), V.ref a]) d = some (.dK kvs) := (Same.new ht) _ _ hd1
      refine ⟨t, _, rfl, SqT.of upd_same, rfl, _, _, rfl, _, _, rfl, rfl, ?_⟩
      have tk := sumLen_take hbi
      refine ⟨_, rfl, a, CB, dx, _, _, rfl, s2 _ _ hb1, T.clB, T.nB2, fB_files, fl, rfl, ⟨_, SqL.of (s2 _ _ hb2)⟩, for_it (walk_list (xs := b.2.map nI)) (fun j σ H3 => ∃ (vn : Option V) (kvs : List (Key × V)), σ = [some (.ref l), some (.ref d), some (nI i), some (.ref a), vn] ∧ Same H H3 ∧ H3 d = some (.dK kvs) ∧ kvs.length ≤ sumLen (bs.take i) + j ∧ DictIs kvs (lk (placePairs 0 (bs.take i) ++ (b.2.take j).map fun n => (n, i))))
        ⟨vn, kvs, rfl, s2, hd2, hk1, by rw [List.take_zero, List.map_nil, List.append_nil]; exact hD1⟩ (fun j σ H3 _ ⟨_, _, _, s3, _⟩ => SqL.of (s3 _ _ hb2)) ?_ ?_⟩
      · rintro j y σ H3 H4 hj ⟨vn', kvs', rfl, s3, hd3, hk3, hD3⟩ ⟨rfl, hy⟩
        obtain ⟨n, hn, rfl⟩ := get_nI hy
        have hjl := lt_of_get hn
        refine ⟨_, rfl, _, rfl, _, rfl, d, _, rfl, DPut.k (k := nK n) hd3 (small (by omega)), ?_⟩
        refine ⟨_, _, rfl, s3.upd_free hd, upd_same, ?_, ?_⟩
        · exact Nat.le_trans (length_putK _ _ _) (by omega)
        · rw [take_snoc hn, List.map_append, ← List.append_assoc]
          exact hD3.put n i
      · rintro σ H3 ⟨vn', kvs', rfl, s3, hd3, hk3, hD3⟩
        refine ⟨_, _, _, _, rfl, s3, hd3, ?_, ?_⟩
        · rw [List.length_map] at hk3
          omega
        · rw [List.length_map, List.take_length] at hD3
          rw [take_snoc hbi, placePairs_append, Nat.zero_add, List.length_take, Nat.min_eq_left (Nat.le_of_lt (lt_of_get hbi))]
          show DictIs kvs' (lk (placePairs 0 (bs.take i) ++ (b.2.map (fun n => (n, i)) ++ [])))
          rw [List.append_nil]
          exact hD3
    · rintro σ H1 ⟨va, vb, vn, kvs, rfl, s1, hd1, hk1, hD1⟩
      refine ⟨_, rfl, ?_⟩
      refine q H1 d kvs s1 hd hd1 ?_
      rw [List.length_map, hb.1, List.take_length] at hD1
      exact hD1
theorem scBbf : FnScope ["boxes", "found", "box", "number"] ["boxes"] (defScope sBbf) := ⟨rfl, rfl, rfl, by decide +kernel, rfl, by decide +kernel, by decide +kernel⟩
theorem ok_Bbf (D : DefF K mg "box_by_file" sBbf ["boxes"]) (T : Txt K mg CF CB CW CS aN) : CalF P w K mg base 1 "box_by_file" ["boxes"] (spBbf CB) := by
  refine D.cal fun f fd F => F.ok scBbf (fun vs H Q E h => ?_) (fun cdv A outer s H vs Q E hr h => ?_)
  · obtain ⟨l, bs, rfl, _⟩ := h
    rfl
  · obtain ⟨l, bs, rfl, ⟨as, hl, hb⟩, hsm, q⟩ := h
    have hu := hu_of hr
    refine ⟨_, pss_cons (ps_set (i := 1) scBbf.nd rfl (Or.inl rfl) pe_dnewK)
      (pss_cons (ps_for PassesOwn.never rfl (pi_list (pv 0)) (pg_name (i := 2) scBbf.nd rfl (Or.inl rfl))
        (pss_one (ps_for PassesOwn.never rfl (pi_list (pe_fld (pv 2) rfl)) (pg_name (i := 3) scBbf.nd rfl (Or.inl rfl))
          (pss_one (ps_dput hu (pv 1) (pv 3) (pe_fld (pv 2) rfl) rfl)))))
      (pss_one (ps_ret (pv 1)))), ?_⟩
    intro d hd
    have s0 : Same H (upd H d (.dK [])) := Same.new hd
    refine ⟨_, rfl, l, rfl, ⟨_, SqL.of (s0 _ _ hl)⟩, for_it (walk_list (xs := as.map V.ref)) (fun i σ H1 => ∃ (vb vn : Option V) (kvs : List (Key × V)), σ = [some (.ref l), some (.ref d), vb, vn] ∧ Same H H1 ∧ H1 d = some (.dK kvs) ∧ kvs.length ≤ sumLen (bs.take i) ∧ DictIs kvs (lk (numPairs (bs.take i))))
      ⟨none, none, [], rfl, s0, upd_same, Nat.zero_le _, DictIs.nil⟩ (fun i σ H1 _ ⟨_, _, _, _, s1, _⟩ => SqL.of (s1 _ _ hl)) ?_ ?_⟩
    · rintro i x σ H1 H2 hi ⟨vb, vn, kvs, rfl, s1, hd1, hk1, hD1⟩ ⟨rfl, e2⟩
      obtain ⟨a, ha, rfl⟩ := get_ref e2
      obtain ⟨b, hbi, dx, fl, hb1, hb2⟩ := hb.get ha
      have tk := sumLen_take hbi
      refine ⟨_, rfl, a, CB, dx, _, _, rfl, s1 _ _ hb1, T.clB, T.nB2, fB_files, fl, rfl, ⟨_, SqL.of (s1 _ _ hb2)⟩, for_it (walk_list (xs := b.2.map nI)) (fun j σ H3 => ∃ (vn : Option V) (kvs : List (Key × V)), σ = [some (.ref l), some (.ref d), some (.ref a), vn] ∧ Same H H3 ∧ H3 d = some (.dK kvs) ∧ kvs.length ≤ sumLen (bs.take i) + j ∧ DictIs kvs (lk (numPairs (bs.take i) ++ (b.2.take j).map fun n => (n, b.1))))
        ⟨vn, kvs, rfl, s1, hd1, hk1, by rw [List.take_zero, List.map_nil, List.append_nil]; exact hD1⟩ (fun j σ H3 _ ⟨_, _, _, s3, _⟩ => SqL.of (s3 _ _ hb2)) ?_ ?_⟩
      · rintro j y σ H3 H4 hj ⟨vn', kvs', rfl, s3, hd3, hk3, hD3⟩ ⟨rfl, hy⟩
        obtain ⟨n, hn, rfl⟩ := get_nI hy
        have hjl := lt_of_get hn
        refine ⟨_, rfl, a, CB, dx, _, _, rfl, s3 _ _ hb1, T.clB, T.nB1, fB_number, _, rfl, _, rfl, d, _, rfl, DPut.k (k := nK n) hd3 (small (by omega)), ?_⟩
        refine ⟨_, _, rfl, s3.upd_free hd, upd_same, ?_, ?_⟩
        · exact Nat.le_trans (length_putK _ _ _) (by omega)
        · rw [take_snoc hn, List.map_append, ← List.append_assoc]
          exact hD3.put n b.1
      · rintro σ H3 ⟨vn', kvs', rfl, s3, hd3, hk3, hD3⟩
        refine ⟨_, _, _, rfl, s3, hd3, ?_, ?_⟩
        · rw [List.length_map] at hk3
          omega
        · rw [List.length_map, List.take_length] at hD3
          rw [take_snoc hbi]
          unfold numPairs at hD3 ⊢
          rw [List.flatMap_append, List.flatMap_cons, List.flatMap_nil, List.append_nil]
          exact hD3
    · rintro σ H1 ⟨vb, vn, kvs, rfl, s1, hd1, hk1, hD1⟩
      refine ⟨_, rfl, ?_⟩
      refine q H1 d kvs s1 hd hd1 ?_
      rw [List.length_map, hb.1, List.take_length] at hD1
      exact hD1
end
end BW

namespace BW
open PySem PySem.Spec PyProof.Rows L2 BX
abbrev sMoved : Stmt := topS 4
abbrev sChanged : Stmt := topS 6
abbrev sFilled : Stmt := topS 7
abbrev sSums : Stmt := topS 10
/-! ### lists' data -/
abbrev dataN (ns : List Nat) : PyData := .list (ns.map fun (n : Nat) => PyData.int (n : Int))
theorem eqvAll_N : ∀ (ns ms : List Nat), PyData.eqvAll (ns.map fun (n : Nat) => PyData.int (n : Int)) (ms.map fun (n : Nat) => PyData.int (n : Int)) = decide (ns = ms)
  | [], [] => by simp [PyData.eqvAll]
  | [], _ :: _ => by simp [PyData.eqvAll]
  | _ :: _, [] => by simp [PyData.eqvAll]
  | n :: ns, m :: ms => by
    have ih := eqvAll_N ns ms
    show (PyData.eqv (.int (n : Int)) (.int (m : Int)) && PyData.eqvAll _ _) = _
    rw [ih]
    rw [Bool.eq_iff_iff]
    simp only [PyData.eqv, Bool.and_eq_true, beq_iff_eq, decide_eq_true_eq, List.cons.injEq]
    constructor
    · rintro ⟨a, b⟩; exact ⟨by omega, b⟩
    · rintro ⟨a, b⟩; exact ⟨by omega, b⟩
theorem eqv_N (ns ms : List Nat) : PyData.eqv (dataN ns) (dataN ms) = decide (ns = ms) := by
  show PyData.eqvAll _ _ = _
  exact eqvAll_N ns ms
theorem canLay_N : ∀ (ns : List Nat), PyData.canLayAll0 (ns.map fun (n : Nat) => PyData.int (n : Int)) = true
  | [] => rfl
  | n :: ns => by
    have ih := canLay_N ns
    show (PyData.canLay0 (.int (n : Int)) && PyData.canLayAll0 _) = true
    rw [ih]
    rfl
theorem depth_N : ∀ (ns : List Nat), PyData.depthAll (ns.map fun (n : Nat) => PyData.int (n : Int)) ≤ 1
  | [] => by simp [PyData.depthAll]
  | n :: ns => by
    have ih := depth_N ns
    simp only [List.map_cons, PyData.depthAll, PyData.depth]
    omega
theorem shaped_N (ns : List Nat) : SeqAt.shaped (dataN ns) = true := by
  have h1 := depth_N ns
  show (PyData.canLay0 (dataN ns) && decide (PyData.depth (dataN ns) ≤ 64)) = true
  rw [Bool.and_eq_true]
  refine ⟨by simp only [PyData.canLay0]; exact canLay_N ns, decide_eq_true ?_⟩
  simp only [PyData.depth]
  omega
theorem shaped_none : SeqAt.shaped PyData.none = true := rfl
theorem dp_N {K : PySem.W.Frag} {H : Hp} {a : Addr} {ns : List Nat} (h : H a = some (.lst (ns.map nI))) : Dp K H (.ref a) (dataN ns) := by
  refine .lst (SqL.of h) ?_
  clear h
  induction ns with
  | nil => exact .nil
  | cons n ns ih => exact .cons (.int _) ih
theorem filter_step {α : Type} {l : List α} {i : Nat} {x : α} (p : α → Bool) (h : l[i]? = some x) : ((l.take (i + 1)).filter p).length = ((l.take i).filter p).length + (if p x = true then 1 else 0) := by
  rw [take_snoc h, List.filter_append, List.length_append, List.filter_cons]
  cases p x <;> rfl
theorem filter_le {α : Type} (l : List α) (i : Nat) (p : α → Bool) : ((l.take i).filter p).length ≤ i := Nat.le_trans (List.length_filter_le _ _) (by rw [List.length_take]; omega)
theorem atI_neg1 {α : Type} {xs : List α} {v : α} (h : xs[xs.length - 1]? = some v) : atI xs (-1) = some v := by
  have hl : xs.length - 1 < xs.length := lt_of_get h
  have e : xs = xs.take (xs.length - 1) ++ [v] := by
    rw [← take_snoc h, show xs.length - 1 + 1 = xs.length by omega, List.take_length]
  rw [e]
  exact atI_last _ _
/-! ### promises -/
def spMoved (CB : Addr) : Sp := fun vs H Q _ => ∃ (d l : Addr) (kvs : List (Key × V)) (F : Nat → Option Nat) (bs : List PB), vs = [.ref d, .ref l] ∧ H d = some (.dK kvs) ∧ DictIs kvs F ∧ RowAt CB H l bs ∧ sumLen bs ≤ 1000 ∧
  ∀ H' : Hp, Same H H' → Q (nI ((bs.map fun b => (b.2.filter fun n => decide ((F n).getD b.1 ≠ b.1)).length).sum)) H'
def spChanged (CB : Addr) : Sp := fun vs H Q _ => ∃ (l l' : Addr) (bs cs : List PB), vs = [.ref l, .ref l'] ∧ RowAt CB H l bs ∧ RowAt CB H l' cs ∧ bs.length ≤ 1000 ∧ cs.length ≤ 1000 ∧
  ∀ H' : Hp, Same H H' → Q (.int ((((cs.length : Int) - (tKept bs cs : Int)) + (bs.length : Int)) - (tStill bs cs : Int))) H'
def spFilled : Sp := fun vs H Q _ => ∃ (l : Addr) (room : Nat) (ts : List Nat), vs = [.ref l, nI room] ∧ H l = some (.lst (ts.map nI)) ∧ (∀ t ∈ ts, 1 ≤ t ∧ t ≤ room) ∧ ts.length ≤ 1000 ∧
  ∀ (H' : Hp) (p : Addr), Same H H' → H p = none → H' p = some (.lst ((fillC room ts).map nI)) → Q (.ref p) H'
/-- sums ahead of each place and in all -/
def pre (bs : List Bool) : List Nat := (List.range (bs.length + 1)).map fun i => (bs.take i).count true
def spSums : Sp := fun vs H Q _ => ∃ (l : Addr) (bs : List Bool), vs = [.ref l] ∧ H l = some (.lst (bs.map V.bl)) ∧ bs.length ≤ 1000 ∧
  ∀ (H' : Hp) (p : Addr), Same H H' → H p = none → H' p = some (.lst ((pre bs).map nI)) → Q (.ref p) H'
theorem pre_snoc (l : List Bool) (b : Bool) : pre (l ++ [b]) = pre l ++ [l.count true + (if b then 1 else 0)] := by
  unfold pre
  rw [List.length_append, List.length_singleton, List.range_succ, List.map_append, List.map_singleton]
  congr 1
  · apply List.map_congr_left
    intro i hi
    have := List.mem_range.mp hi
    rw [List.take_append_of_le_length (by omega)]
  · rw [List.take_of_length_le (by simp), List.count_append]
    cases b <;> simp
theorem pre_get (l : List Bool) {i : Nat} (h : i ≤ l.length) : (pre l)[i]? = some ((l.take i).count true) := by
  unfold pre
  rw [List.getElem?_map, List.getElem?_range (by omega)]
  rfl
theorem pre_len (l : List Bool) : (pre l).length = l.length + 1 := by unfold pre; simp
section
variable {P : Program} {w : World} {K : PySem.W.Frag} {mg : Str → Option Value} {base : Heap} {CF CB CW CS aN : Addr}
/-! ### sums_of -/
theorem scSums : FnScope ["truths", "found", "truth"] ["truths"] (defScope sSums) := ⟨rfl, rfl, rfl, by decide +kernel, rfl, by decide +kernel, by decide +kernel⟩
theorem ok_Sums (D : DefF K mg "sums_of" sSums ["truths"]) (T : Txt K mg CF CB CW CS aN) : CalF P w K mg base 1 "sums_of" ["truths"] spSums := by
  refine D.cal fun f fd F => F.ok scSums (fun vs H Q E h => ?_) (fun cdv A outer s H vs Q E hr h => ?_)
  · obtain ⟨l, bs, rfl, _⟩ := h
    rfl
  · obtain ⟨l, bs, rfl, hl, hn, q⟩ := h
    refine ⟨_, pss_cons (ps_set (i := 1) scSums.nd rfl (Or.inl rfl) (pe_lst (pa_cons pe_int pa_nil)))
      (pss_cons (ps_for PassesOwn.never rfl (pi_list (pv 0)) (pg_name (i := 2) scSums.nd rfl (Or.inl rfl))
        (pss_one (ps_expr (pe_bm PySem.F.plainAttrs_list PySem.F.slot_list_append PySem.F.type_list_append mt_append (pv 1)
          (pa_cons (pe_op op_add (pe_ix ix_list (pv 1) (pe_un un_neg pe_int) (fun _ _ => rfl)) (pe_callTy call_int1 (by rfl) T.int (by decide +kernel) (pa_cons (pv 2) pa_nil))) pa_nil)))))
      (pss_one (ps_ret (pv 1)))), ?_⟩
    refine ⟨(by show 1 ≤ sizeLine; decide), fun p hp => ?_⟩
    have s0 : Same H (upd H p (.lst [.int 0])) := Same.new hp
    refine ⟨_, rfl, l, rfl, ⟨_, SqL.of (s0 _ _ hl)⟩, for_it (walk_list (xs := bs.map V.bl)) (fun i σ H1 => ∃ (v : Option V), σ = [some (.ref l), some (.ref p), v] ∧ Same H H1 ∧ H1 p = some (.lst ((pre (bs.take i)).map nI)))
      ⟨none, rfl, s0, upd_same⟩ (fun i σ H1 _ ⟨_, _, s1, _⟩ => SqL.of (s1 _ _ hl)) ?_ ?_⟩
    · rintro i x σ H1 H2 hi ⟨v, rfl, s1, hp1⟩ ⟨rfl, hx⟩
      obtain ⟨b, hb, rfl⟩ := get_bl hx
      have hil := lt_of_get hb
      have len : (bs.take i).length = i := by rw [List.length_take]; omega
      have hlast : ((pre (bs.take i)).map nI)[((pre (bs.take i)).map nI).length - 1]? = some (nI ((bs.take i).count true)) := by
        rw [List.length_map, pre_len, Nat.add_sub_cancel, List.getElem?_map, pre_get _ (Nat.le_refl _), List.take_length]
        rfl
      refine ⟨_, rfl, .inl ⟨rfl, _, SqL.of hp1⟩, _, rfl, _, rfl, p, _, _, _, rfl, rfl, SqL.of hp1, atI_neg1 hlast, _, rfl, .inr ⟨_, rfl, _, _, rfl, rfl, p, _, _, rfl, rfl, hp1, ?_, ?_⟩⟩
      · rw [List.length_map, pre_len, len]
        exact small (by omega)
      · refine ⟨_, rfl, s1.upd_free hp, ?_⟩
        rw [upd_same, take_snoc hb, pre_snoc, List.map_append]
        have e : (V.int (((bs.take i).count true : Nat) + (if b = true then 1 else 0) : Int)) = nI ((bs.take i).count true + (if b = true then 1 else 0)) := by
          cases b <;> rfl
        show some (HO.lst (_ ++ [V.int (((bs.take i).count true : Nat) + (if b = true then 1 else 0) : Int)])) = _
        rw [e]
        rfl
    · rintro σ H1 ⟨v, rfl, s1, hp1⟩
      rw [List.length_map, List.take_length] at hp1
      exact ⟨_, rfl, q H1 p s1 hp hp1⟩
/-! ### filled -/
theorem scFilled : FnScope ["thicks", "room", "found", "left", "thick"] ["thicks", "room"] (defScope sFilled) := ⟨rfl, rfl, rfl, by decide +kernel, rfl, by decide +kernel, by decide +kernel⟩
theorem fill_len (room : Nat) : ∀ (ts : List Nat) (c : List Nat × Nat), c.1 ≠ [] → (ts.foldl (fstep room) c).1.length ≤ c.1.length + ts.length
  | [], c, _ => Nat.le_refl _
  | t :: ts, c, h => by
    rw [List.foldl_cons]
    have e : (fstep room c t).1.length ≤ c.1.length + 1 ∧ (fstep room c t).1 ≠ [] := by
      have hl : 0 < c.1.length := List.length_pos_iff.mpr h
      unfold fstep
      split
      · simp
      · refine ⟨?_, by simp⟩
        rw [List.length_append, List.length_dropLast, List.length_singleton]
        omega
    have := fill_len room ts (fstep room c t) e.2
    rw [List.length_cons]
    omega
theorem ok_Filled (D : DefF K mg "filled" sFilled ["thicks", "room"]) (T : Txt K mg CF CB CW CS aN) : CalF P w K mg base 1 "filled" ["thicks", "room"] spFilled := by
  refine D.cal fun f fd F => F.ok scFilled (fun vs H Q E h => ?_) (fun cdv A outer s H vs Q E hr h => ?_)
  · obtain ⟨l, room, ts, rfl, _⟩ := h
    rfl
  · obtain ⟨l, room, ts, rfl, hl, ht, hn, q⟩ := h
    refine ⟨_, pss_cons (ps_set (i := 2) scFilled.nd rfl (Or.inl rfl) (pe_lst pa_nil))
      (pss_cons (ps_set (i := 3) scFilled.nd rfl (Or.inl rfl) pe_int)
      (pss_cons (ps_for PassesOwn.never rfl (pi_list (pv 0)) (pg_name (i := 4) scFilled.nd rfl (Or.inl rfl))
        (pss_cons (ps_if (pt_cmpR op_gt (pv 4) (pv 3) (nomark _))
          (pss_cons (ps_expr (pe_bm PySem.F.plainAttrs_list PySem.F.slot_list_append PySem.F.type_list_append mt_append (pv 2) (pa_cons pe_int pa_nil)))
            (pss_one (ps_set (i := 3) scFilled.nd rfl (Or.inl rfl) (pv 1)))) pss_nil)
        (pss_cons (ps_asg (pe_op op_add (pe_ix ix_list (pv 2) (pe_un un_neg pe_int) (fun _ _ => rfl)) pe_int) (pg_sub (pv 2) (pe_un un_neg pe_int) set_list))
        (pss_one (ps_set (i := 3) scFilled.nd rfl (Or.inl rfl) (pe_op op_sub (pv 3) (pv 4)))))))
      (pss_one (ps_ret (pv 2))))), ?_⟩
    refine ⟨Nat.zero_le _, fun p hp => ?_⟩
    have s0 : Same H (upd H p (.lst [])) := Same.new hp
    refine ⟨_, rfl, l, rfl, ⟨_, SqL.of (s0 _ _ hl)⟩, for_it (walk_list (xs := ts.map nI)) (fun i σ H1 => ∃ (v : Option V) (cs : List Nat) (left : Nat), σ = [some (.ref l), some (nI room), some (.ref p), some (nI left), v] ∧ Same H H1 ∧ H1 p = some (.lst (cs.map nI)) ∧ (ts.take i).foldl (fstep room) ([], 0) = (cs, left) ∧ (cs = [] → left = 0) ∧ cs.length ≤ i)
      ⟨none, [], 0, rfl, s0, upd_same, rfl, fun _ => rfl, Nat.le_refl _⟩ (fun i σ H1 _ ⟨_, _, _, _, s1, _⟩ => SqL.of (s1 _ _ hl)) ?_ ?_⟩
    · rintro i x σ H1 H2 hi ⟨v, cs, left, rfl, s1, hp1, hf, h0, hlen⟩ ⟨rfl, hx⟩
      obtain ⟨t, htt, rfl⟩ := get_nI hx
      have hil := lt_of_get htt
      have bt := ht t (List.mem_of_getElem? htt)
      have hstep : (ts.take (i + 1)).foldl (fstep room) ([], 0) = fstep room (cs, left) t := by
        rw [take_snoc htt, List.foldl_append, hf]
        rfl
      refine ⟨_, rfl, _, rfl, _, _, rfl, rfl, _, rfl, ?_⟩
      by_cases c : left < t
      · refine if_t (decide_eq_true (by omega)) ?_
        refine ⟨_, rfl, .inl ⟨rfl, _, SqL.of hp1⟩, p, _, _, rfl, rfl, hp1, (by rw [List.length_map]; exact small (by omega)), ?_⟩
        refine ⟨_, rfl, ?_⟩
        have hp2 : upd H2 p (.lst (cs.map nI ++ [V.int 0])) p = some (.lst ((cs ++ [0]).map nI)) := by
          rw [upd_same, List.map_append]
          rfl
        have hlast : ((cs ++ [0]).map nI)[((cs ++ [0]).map nI).length - 1]? = some (nI 0) := by
          rw [List.length_map, List.length_append, List.length_singleton, Nat.add_sub_cancel, List.getElem?_map, List.getElem?_append_right (Nat.le_refl _), Nat.sub_self]
          rfl
        refine ⟨_, rfl, _, rfl, p, _, _, _, rfl, rfl, SqL.of hp2, atI_neg1 hlast, _, _, rfl, rfl, ?_⟩
        refine ⟨_, rfl, _, rfl, p, _, _, cs.length, rfl, rfl, hp2, ?_, ?_⟩
        · unfold ixN
          rw [List.length_map, List.length_append, List.length_singleton, if_neg (by decide), if_pos (by omega)]
          congr 1
          omega
        · refine ⟨_, rfl, _, rfl, _, _, rfl, rfl, some (nI t), cs ++ [1], room - t, ?_, (s1.upd_free hp).upd_free hp, ?_, ?_, ?_, ?_⟩
          · have e : ((room : Int) - (t : Int)) = ((room - t : Nat) : Int) := by omega
            show ([some (V.ref l), some (nI room), some (V.ref p), some (V.int ((room : Int) - (t : Int))), some (nI t)] : List (Option V)) = _
            rw [e]
          · rw [upd_same, List.map_append, List.set_append_right _ _ (by rw [List.length_map]; exact Nat.le_refl _), List.length_map, Nat.sub_self, List.map_append]
            rfl
          · rw [hstep]
            unfold fstep
            rw [if_pos c]
          · intro z
            simp at z
          · rw [List.length_append, List.length_singleton]
            omega
      · refine if_f (decide_eq_false (by omega)) ?_
        have hne : cs ≠ [] := fun z => by
          have := h0 z
          omega
        have hpos : 0 < cs.length := List.length_pos_iff.mpr hne
        obtain ⟨c0, hc0⟩ := get_of_lt (l := cs) (i := cs.length - 1) (by omega)
        have ecs : cs = cs.dropLast ++ [c0] := by
          have := take_snoc hc0
          rw [show cs.length - 1 + 1 = cs.length by omega, List.take_length] at this
          rw [List.dropLast_eq_take]
          exact this
        have hlast : (cs.map nI)[(cs.map nI).length - 1]? = some (nI c0) := by
          rw [List.length_map, List.getElem?_map, hc0]
          rfl
        refine ⟨_, rfl, _, rfl, p, _, _, _, rfl, rfl, SqL.of hp1, atI_neg1 hlast, _, _, rfl, rfl, ?_⟩
        refine ⟨_, rfl, _, rfl, p, _, _, cs.length - 1, rfl, rfl, hp1, ?_, ?_⟩
        · unfold ixN
          rw [List.length_map, if_neg (by decide), if_pos (by omega)]
          congr 1
          omega
        · refine ⟨_, rfl, _, rfl, _, _, rfl, rfl, some (nI t), cs.dropLast ++ [c0 + 1], left - t, ?_, s1.upd_free hp, ?_, ?_, ?_, ?_⟩
          · have e : ((left : Int) - (t : Int)) = ((left - t : Nat) : Int) := by omega
            show ([some (V.ref l), some (nI room), some (V.ref p), some (V.int ((left : Int) - (t : Int))), some (nI t)] : List (Option V)) = _
            rw [e]
          · rw [upd_same]
            have e2 : cs.map nI = cs.dropLast.map nI ++ [nI c0] := by
              conv => lhs; rw [ecs]
              rw [List.map_append]
              rfl
            rw [e2, List.set_append_right _ _ (by rw [List.length_map, List.length_dropLast]; exact Nat.le_refl _), List.length_map, List.length_dropLast, Nat.sub_self, List.map_append]
            rfl
          · rw [hstep]
            unfold fstep
            rw [if_neg c]
            have e3 : cs.getLastD 0 = c0 := by
              rw [List.getLastD_eq_getLast?, List.getLast?_eq_getElem?, hc0]
              rfl
            rw [e3]
          · intro z
            simp at z
          · rw [List.length_append, List.length_singleton, List.length_dropLast]
            omega
    · rintro σ H1 ⟨v, cs, left, rfl, s1, hp1, hf, h0, hlen⟩
      rw [List.length_map, List.take_length] at hf
      refine ⟨_, rfl, q H1 p s1 hp ?_⟩
      unfold fillC
      rw [hf]
      exact hp1
/-! ### moved_files -/
theorem scMoved : FnScope ["before", "boxes", "many", "box", "number"] ["before", "boxes"] (defScope sMoved) := ⟨rfl, rfl, rfl, by decide +kernel, rfl, by decide +kernel, by decide +kernel⟩
theorem ok_Moved (D : DefF K mg "moved_files" sMoved ["before", "boxes"]) (T : Txt K mg CF CB CW CS aN) : CalF P w K mg base 1 "moved_files" ["before", "boxes"] (spMoved CB) := by
  refine D.cal fun f fd F => F.ok scMoved (fun vs H Q E h => ?_) (fun cdv A outer s H vs Q E hr h => ?_)
  · obtain ⟨d, l, kvs, F, bs, rfl, _⟩ := h
    rfl
  · obtain ⟨d, l, kvs, F, bs, rfl, hd, hD, ⟨as, hl, hb⟩, hsm, q⟩ := h
    have hu := hu_of hr
    refine ⟨_, pss_cons (ps_set (i := 2) scMoved.nd rfl (Or.inl rfl) pe_int)
      (pss_cons (ps_for PassesOwn.never rfl (pi_list (pv 1)) (pg_name (i := 3) scMoved.nd rfl (Or.inr rfl))
        (pss_one (ps_set (i := 2) scMoved.nd rfl (Or.inl rfl) (pe_op op_add (pv 2) (pe_callB call_len_seq (by rfl) T.len PySem.boot_len (pa_cons
          (pe_lc (own := [("number", 4)]) (g := gName 4) (by rfl) scMoved.nd (pi_list (pe_fld (pv 3) rfl)) (blkOk_by (own := [("number", 4)]) (N := ["before", "boxes", "many", "box", "number"]) (sc := defScope sMoved) (by decide +kernel))
            (fun _ _ _ _ _ => pg_name (i := 4) scMoved.nd rfl (Or.inl rfl))
            (fun _ _ _ _ _ => by exact pts_one (pt_cmpR op_ne (pe_dget2 hu (pv 0) (pv 4) (pe_fk K (pv 3)) ⟨rfl, rfl, rfl, rfl⟩) (pe_fk K (pv 3)) (nomark _)))
            (fun _ _ _ _ _ => pv 4)) pa_nil))))))
      (pss_one (ps_ret (pv 2)))), ?_⟩
    refine ⟨_, rfl, l, rfl, ⟨_, SqL.of hl⟩, for_it (walk_list (xs := as.map V.ref)) (fun i σ H1 => ∃ (v vn : Option V), σ = [some (.ref d), some (.ref l), some (nI ((bs.take i).map fun b => (b.2.filter fun n => decide ((F n).getD b.1 ≠ b.1)).length).sum), v, vn] ∧ Same H H1)
      ⟨none, none, rfl, Same.refl _⟩ (fun i σ H1 _ ⟨_, _, _, s1⟩ => SqL.of (s1 _ _ hl)) ?_ ?_⟩
    · rintro i x σ H1 H2 hi ⟨v, vn, rfl, s1⟩ ⟨rfl, hx⟩
      obtain ⟨a, ha, rfl⟩ := get_ref hx
      obtain ⟨b, hbi, dx, fl, hb1, hb2⟩ := hb.get ha
      have tk := sumLen_take hbi
      have g1 := s1 _ _ hb1
      have g2 := s1 _ _ hb2
      have gd := s1 _ _ hd
      refine ⟨_, rfl, _, rfl, a, CB, dx, _, _, rfl, g1, T.clB, T.nB2, fB_files, fl, rfl, ⟨_, SqL.of g2⟩, ?_⟩
      intro D hD0
      have s2 : Same H2 (upd H2 D (.lst [])) := Same.new hD0
      refine lc_it (walk_list (xs := b.2.map nI)) (fun j H3 => ∃ acc, H3 D = some (.lst acc) ∧ acc.length = ((b.2.take j).filter fun n => decide ((F n).getD b.1 ≠ b.1)).length ∧ Same H2 H3) ⟨_, upd_same, rfl, s2⟩ (fun j H3 _ ⟨_, _, _, s3⟩ => SqL.of (s3 _ _ g2)) ?_ ?_
      · rintro j y H3 H4 hj ⟨acc, hA, hlen, s3⟩ ⟨rfl, hy⟩
        obtain ⟨n, hn, rfl⟩ := get_nI hy
        have hjl := lt_of_get hn
        refine ⟨rfl, _, rfl, d, rfl, .inl ⟨_, .inl (s3 _ _ gd)⟩, _, rfl, _, rfl, a, CB, dx, _, _, rfl, s3 _ _ g1, T.clB, T.nB1, fB_number, _, DGet.k (k := nK n) (s3 _ _ gd), ?_⟩
        refine ⟨_, rfl, a, CB, dx, _, _, rfl, s3 _ _ g1, T.clB, T.nB1, fB_number, ?_⟩
        have e1 : (valV kvs (nK n)).getD (V.int (b.1 : Int)) = nI ((F n).getD b.1) := by
          rw [hD n]
          cases F n <;> rfl
        have e2 : (!decide (nI ((F n).getD b.1) = V.int (b.1 : Int))) = decide ((F n).getD b.1 ≠ b.1) := by
          rw [Bool.eq_iff_iff]
          simp
          omega
        show rNe _ _ _ _
        rw [e1]
        refine ⟨rfl, _, rfl, ?_⟩
        rw [e2]
        by_cases c : (F n).getD b.1 ≠ b.1
        · refine if_t (decide_eq_true c) ⟨_, rfl, acc, hA, small (by rw [hlen]; have := filter_le b.2 j (fun n => decide ((F n).getD b.1 ≠ b.1)); omega), _, upd_same, ?_, s3.upd_free hD0⟩
          rw [List.length_append, hlen, filter_step _ hn, if_pos (decide_eq_true c)]
          rfl
        · refine if_f (decide_eq_false c) ⟨acc, hA, ?_, s3⟩
          rw [hlen, filter_step _ hn, if_neg (by rw [decide_eq_false c]; decide)]
          rfl
      · rintro H3 ⟨acc, hA, hlen, s3⟩
        rw [List.length_map, List.take_length] at hlen
        refine ⟨D, _, rfl, .inl (SqL.of hA), _, _, rfl, rfl, some (.ref a), vn, ?_, s1.trans s3⟩
        have e : ((bs.take (i + 1)).map fun b => (b.2.filter fun n => decide ((F n).getD b.1 ≠ b.1)).length).sum = ((bs.take i).map fun b => (b.2.filter fun n => decide ((F n).getD b.1 ≠ b.1)).length).sum + acc.length := by
          rw [take_snoc hbi, List.map_append, List.sum_append, hlen]
          simp
        rw [e]
        rfl
    · rintro σ H1 ⟨v, vn, rfl, s1⟩
      refine ⟨_, rfl, ?_⟩
      have := q H1 s1
      rw [List.length_map, hb.1, List.take_length]
      exact this
end
end BW

namespace BW
open PySem PySem.Spec PyProof.Rows L2 BX
/-! ### changed_boxes -/
/-- a dict of lists of numbers by numbers -/
def DictL (H : Hp) (kvs : List (Key × V)) (F : Nat → Option (List Nat)) : Prop := ∀ n : Nat, (F n = none ∧ valV kvs (nK n) = none) ∨ ∃ fs fl, F n = some fs ∧ valV kvs (nK n) = some (.ref fl) ∧ H fl = some (.lst (fs.map nI))
def KvOk (H : Hp) (kv : Key × V) (b : PB) : Prop := kv.1 = nK b.1 ∧ ∃ fl, kv.2 = .ref fl ∧ H fl = some (.lst (b.2.map nI))
theorem mergeK_snoc (kvs : List (Key × V)) (kv : Key × V) : mergeK [] (kvs ++ [kv]) = putK (mergeK [] kvs) kv.1 kv.2 := by
  unfold mergeK
  rw [List.foldl_append]
  rfl
theorem dictL_merge {H : Hp} {kvs : List (Key × V)} {bs : List PB} (h : All2 (KvOk H) kvs bs) : ∀ i, i ≤ kvs.length → DictL H (mergeK [] (kvs.take i)) (lk (bs.take i)) := by
  intro i
  induction i with
  | zero => intro _ n; exact .inl ⟨rfl, rfl⟩
  | succ i ih =>
    intro hi n
    obtain ⟨kv, hkv⟩ := get_of_lt (l := kvs) (i := i) (by omega)
    obtain ⟨b, hb, e1, fl, e2, e3⟩ := h.get hkv
    rw [take_snoc hkv, take_snoc hb, mergeK_snoc, valV_put, e1, e2]
    have el := lk_snoc (bs.take i) b.1 b.2 n
    rw [show [(b.1, b.2)] = [b] from rfl] at el
    rw [el]
    by_cases c : b.1 = n
    · subst c
      rw [if_pos rfl, if_pos rfl]
      exact .inr ⟨_, fl, rfl, rfl, e3⟩
    · rw [if_neg c, if_neg (fun q => c (nK_inj.mp q).symm)]
      exact ih (by omega) n
theorem DictL.same {H H' : Hp} {kvs : List (Key × V)} {F : Nat → Option (List Nat)} (s : Same H H') (h : DictL H kvs F) : DictL H' kvs F := fun n => by
  rcases h n with q | ⟨fs, fl, q1, q2, q3⟩
  · exact .inl q
  · exact .inr ⟨fs, fl, q1, q2, s _ _ q3⟩
theorem lk_isSome {α : Type} : ∀ (bs : List (Nat × α)) (n : Nat), (lk bs n).isSome = (bs.map (·.1)).contains n
  | [], n => rfl
  | b :: bs, n => by
    have ih := lk_isSome bs n
    show ((lk bs n).or (if b.1 = n then some b.2 else none)).isSome = _
    rw [List.map_cons, List.contains_cons, Option.isSome_or, ih, Bool.or_comm]
    congr 1
    by_cases c : b.1 = n
    · subst c; simp
    · have : ¬ n = b.1 := fun q => c q.symm
      simp [c, this]
section
variable {P : Program} {w : World} {K : PySem.W.Frag} {mg : Str → Option Value} {base : Heap} {CF CB CW CS aN : Addr}
theorem scChanged : FnScope ["old", "boxes", "before", "kept", "still", "box"] ["old", "boxes"] (defScope sChanged) := ⟨rfl, rfl, rfl, by decide +kernel, rfl, by decide +kernel, by decide +kernel⟩
theorem ok_Changed (D : DefF K mg "changed_boxes" sChanged ["old", "boxes"]) (T : Txt K mg CF CB CW CS aN) : CalF P w K mg base 1 "changed_boxes" ["old", "boxes"] (spChanged CB) := by
  refine D.cal fun f fd F => F.ok scChanged (fun vs H Q E h => ?_) (fun cdv A outer s H vs Q E hr h => ?_)
  · obtain ⟨l, l', bs, cs, rfl, _⟩ := h
    rfl
  · obtain ⟨l, l', bs, cs, rfl, ⟨as, hl, hb⟩, ⟨as', hl', hb'⟩, hn, hn', q⟩ := h
    have hu := hu_of hr
    have hu64 := hr.units
    refine ⟨_, pss_cons (ps_set (i := 2) scChanged.nd rfl (Or.inr rfl) (pe_callTy (call_dictP rfl) (by rfl) T.dict (by decide +kernel) (pa_cons
          (pe_lc (own := [("box", 5)]) (g := gName 5) (by rfl) scChanged.nd (pi_list (pv 0)) (blkOk_by (own := [("box", 5)]) (N := ["old", "boxes", "before", "kept", "still", "box"]) (sc := defScope sChanged) (by decide +kernel))
            (fun _ _ _ _ _ => pg_name (i := 5) scChanged.nd rfl (Or.inl rfl)) (fun _ _ _ _ _ => pts_nil)
            (fun _ _ _ _ _ => by exact pe_tup (pa_cons (pe_fk K (pv 5)) (pa_cons (pe_fk K (pv 5)) pa_nil)))) pa_nil)))
      (pss_cons (ps_setLc (i := 3) (own := [("box", 5)]) (g := gName 5) (by rfl) scChanged.nd rfl rfl (sw_true rfl rfl rfl (by decide +kernel)) (pi_list (pv 1)) (blkOk_by (own := [("box", 5)]) (N := ["old", "boxes", "before", "kept", "still", "box"]) (sc := defScope sChanged) (by decide +kernel))
            (fun _ _ _ _ _ => pg_name (i := 5) scChanged.nd rfl (Or.inl rfl))
            (fun _ _ _ _ _ => by exact pts_one (pt_cmpR (show OpR _ _ (rEqD K) from op_eqD hu64) (pe_dget1 hu (pv 2) (pe_fk K (pv 5)) ⟨rfl, rfl, rfl, rfl⟩) (pe_fk K (pv 5)) (nomark _)))
            (fun _ _ _ _ _ => pv 5))
      (pss_cons (ps_setLc (i := 4) (own := [("box", 5)]) (g := gName 5) (by rfl) scChanged.nd rfl rfl (sw_true rfl rfl rfl (by decide +kernel)) (pi_list (pv 1)) (blkOk_by (own := [("box", 5)]) (N := ["old", "boxes", "before", "kept", "still", "box"]) (sc := defScope sChanged) (by decide +kernel))
            (fun _ _ _ _ _ => pg_name (i := 5) scChanged.nd rfl (Or.inl rfl))
            (fun _ _ _ _ _ => by exact pts_one (pt_cmp (pc_din hu (pe_fk K (pv 5)) (pv 2))))
            (fun _ _ _ _ _ => pv 5))
      (pss_one (ps_ret (pe_op op_sub (pe_op op_add (pe_op op_sub (pe_callB call_len_seq (by rfl) T.len PySem.boot_len (pa_cons (pv 1) pa_nil)) (pe_callB call_len_seq (by rfl) T.len PySem.boot_len (pa_cons (pv 3) pa_nil)))
        (pe_callB call_len_seq (by rfl) T.len PySem.boot_len (pa_cons (pv 0) pa_nil))) (pe_callB call_len_seq (by rfl) T.len PySem.boot_len (pa_cons (pv 4) pa_nil))))))), ?_⟩
    -- before = dict([..])
    refine ⟨_, rfl, l, rfl, ⟨_, SqL.of hl⟩, fun D1 hD1 => ?_⟩
    have s1 : Same H (upd H D1 (.lst [])) := Same.new hD1
    refine lc_it (walk_list (xs := as.map V.ref)) (fun i H1 => ∃ (ts : List Addr) (kvs : List (Key × V)), Same H H1 ∧ H1 D1 = some (.lst (ts.map V.ref)) ∧ ts.length = i ∧ Paired (fun p kv => SqT K H1 p [kV kv.1, kv.2]) ts kvs ∧ All2 (KvOk H) kvs (bs.take i)) ⟨[], [], s1, upd_same, rfl, .nil, All2.nil⟩ (fun i H1 _ ⟨_, _, s2, _⟩ => SqL.of (s2 _ _ hl)) ?_ ?_
    · rintro i x H1 H2 hi ⟨ts, kvs, s2, hD, hlen, hP, hA⟩ ⟨rfl, hx⟩
      obtain ⟨a, ha, rfl⟩ := get_ref hx
      obtain ⟨b, hbi, dx, fl, hb1, hb2⟩ := hb.get ha
      have hil := lt_of_get hbi
      refine ⟨rfl, yes_if ?_⟩
      refine ⟨_, rfl, a, CB, dx, _, _, rfl, s2 _ _ hb1, T.clB, T.nB1, fB_number, _, rfl, a, CB, dx, _, _, rfl, s2 _ _ hb1, T.clB, T.nB2, fB_files, (by show 2 ≤ sizeLine; decide), fun t ht => ?_⟩
      have s3 : Same H2 (upd H2 t (.tup [V.int (b.1 : Int), V.ref fl])) := Same.new ht
      refine ⟨_, s3 _ _ hD, (by rw [List.length_map]; exact small (by omega)), ts ++ [t], kvs ++ [(nK b.1, .ref fl)], (s2.trans s3).upd_free hD1, ?_, ?_, ?_, ?_⟩
      · rw [upd_same, List.map_append]
        rfl
      · rw [List.length_append, hlen]
        rfl
      · have keep : ∀ p xs, SqT K H2 p xs → SqT K (upd (upd H2 t (.tup [V.int (b.1 : Int), V.ref fl])) D1 (.lst (ts.map V.ref ++ [V.ref t]))) p xs := by
          intro p xs hq
          have go : ∀ u : HO, (∀ ys, u ≠ .lst ys) → H2 p = some u → upd (upd H2 t (.tup [V.int (b.1 : Int), V.ref fl])) D1 (.lst (ts.map V.ref ++ [V.ref t])) p = some u := fun u hu e => by
            rw [upd_ne (ne_of e hD (hu _)), s3 _ _ e]
          rcases hq with (hq | ⟨o, hq⟩) | hq
          · exact .inl (.inl (go _ (by intro ys z; cases z) hq))
          · exact .inl (.inr ⟨o, go _ (by intro ys z; cases z) hq⟩)
          · exact .inr hq
        have app : ∀ {ps : List Addr} {ks : List (Key × V)} {p : Addr} {kv : Key × V} {R : Addr → Key × V → Prop}, Paired R ps ks → R p kv → Paired R (ps ++ [p]) (ks ++ [kv]) := by
          intro ps ks p kv R h r
          induction h with
          | nil => exact .cons r .nil
          | cons r' _ ih => exact .cons r' ih
        have imp : ∀ {ps : List Addr} {ks : List (Key × V)} {R S : Addr → Key × V → Prop}, (∀ p kv, R p kv → S p kv) → Paired R ps ks → Paired S ps ks := by
          intro ps ks R S hRS h
          induction h with
          | nil => exact .nil
          | cons r' _ ih => exact .cons (hRS _ _ r') ih
        refine app (imp (fun p kv h => keep p _ h) hP) (.inl (.inl ?_))
        rw [upd_ne (ne_of (upd_same (H := H2) (a := t) (o := .tup [V.int (b.1 : Int), V.ref fl])) (s3 _ _ hD) (by intro z; cases z)), upd_same]
        rfl
      · rw [take_snoc hbi]
        exact hA.snoc ⟨rfl, fl, rfl, hb2⟩
    · rintro H1 ⟨ts, kvs, s2, hD, hlen, hP, hA⟩
      rw [List.length_map, hb.1, List.take_length] at hA
      refine ⟨D1, ts, kvs, rfl, SqL.of hD, hP, fun d hd => ?_⟩
      have dl := dictL_merge hA kvs.length (Nat.le_refl _)
      rw [List.take_length, hA.1, List.take_length] at dl
      have s3 : Same H1 (upd H1 d (.dK (mergeK [] kvs))) := Same.new hd
      have s4 : Same H (upd H1 d (.dK (mergeK [] kvs))) := s2.trans s3
      generalize eH : upd H1 d (.dK (mergeK [] kvs)) = H2 at s4
      have hd2 : H2 d = some (.dK (mergeK [] kvs)) := by rw [← eH]; exact upd_same
      generalize mergeK [] kvs = m at dl hd2
      clear eH s3 hP hA hD
      -- kept
      refine ⟨_, rfl, l', rfl, ⟨_, SqL.of (s4 _ _ hl')⟩, fun D2 hD2 => ?_⟩
      refine lc_it (walk_list (xs := as'.map V.ref)) (fun i H3 => ∃ acc, H3 D2 = some (.lst acc) ∧ acc.length = tKept bs (cs.take i) ∧ Same H2 H3) ⟨_, upd_same, rfl, Same.new hD2⟩ (fun i H3 _ ⟨_, _, _, s5⟩ => SqL.of (s5 _ _ (s4 _ _ hl'))) ?_ ?_
      · rintro i x H3 H4 hi ⟨acc, hA, hlen2, s5⟩ ⟨rfl, hx⟩
        obtain ⟨a, ha, rfl⟩ := get_ref hx
        obtain ⟨b, hbi, dx, fl, hb1, hb2⟩ := hb'.get ha
        have hil := lt_of_get hbi
        have s6 := s4.trans s5
        have kst : ∀ (c : Bool), decide (lk bs b.1 = some b.2) = c → (if c = true then tC (V.ref a) [] H4 fun y H6 => ∃ acc, H6 D2 = some (.lst acc) ∧ acc.length < sizeLine ∧ (∃ acc', upd H6 D2 (.lst (acc ++ [y])) D2 = some (.lst acc') ∧ acc'.length = tKept bs (cs.take (i + 1)) ∧ Same H2 (upd H6 D2 (.lst (acc ++ [y])))) else ∃ acc', H4 D2 = some (.lst acc') ∧ acc'.length = tKept bs (cs.take (i + 1)) ∧ Same H2 H4) := by
          intro c hc
          have e := filter_step (fun b : PB => decide (lk bs b.1 = some b.2)) hbi
          have le := filter_le cs i (fun b : PB => decide (lk bs b.1 = some b.2))
          have ek : ∀ j, tKept bs (cs.take j) = ((cs.take j).filter (fun b : PB => decide (lk bs b.1 = some b.2))).length := fun _ => rfl
          cases c with
          | true =>
            refine iteT ⟨acc, hA, small (by rw [hlen2, ek]; omega), _, upd_same, ?_, s5.upd_free hD2⟩
            rw [List.length_append, hlen2, ek, ek, e, hc]
            rfl
          | false =>
            refine iteF ⟨acc, hA, ?_, s5⟩
            rw [hlen2, ek, ek, e, hc]
            rfl
        refine ⟨rfl, _, rfl, d, rfl, .inl ⟨_, .inl (s5 _ _ hd2)⟩, _, rfl, a, CB, dx, _, _, rfl, s6 _ _ hb1, T.clB, T.nB1, fB_number, _, DGet.k (k := nK b.1) (s5 _ _ hd2), ?_⟩
        refine ⟨_, rfl, a, CB, dx, _, _, rfl, s6 _ _ hb1, T.clB, T.nB2, fB_files, ?_⟩
        rcases dl b.1 with ⟨q1, q2⟩ | ⟨fs, fl2, q1, q2, q3⟩
        · rw [q2]
          refine ⟨.none, dataN b.2, .non, dp_N (s6 _ _ hb2), shaped_none, shaped_N _, _, rfl, ?_⟩
          have e0 : PyData.eqv .none (dataN b.2) = false := rfl
          rw [e0]
          have := kst false (by rw [q1]; exact decide_eq_false (by intro z; cases z))
          exact this
        · rw [q2]
          refine ⟨dataN fs, dataN b.2, dp_N (s6 _ _ q3), dp_N (s6 _ _ hb2), shaped_N _, shaped_N _, _, rfl, ?_⟩
          rw [eqv_N]
          have := kst (decide (fs = b.2)) (by rw [q1, Bool.eq_iff_iff]; simp)
          by_cases c : fs = b.2
          · rw [decide_eq_true c] at this ⊢
            rw [if_pos rfl] at this
            exact iteT ⟨_, rfl, this⟩
          · rw [decide_eq_false c] at this ⊢
            exact this
      · rintro H3 ⟨acc3, hA3, hlen3, s5⟩
        rw [List.length_map, hb'.1, List.take_length] at hlen3
        have s6 := s4.trans s5
        have hd3 := s5 _ _ hd2
        -- still
        refine ⟨_, rfl, l', rfl, ⟨_, SqL.of (s6 _ _ hl')⟩, fun D3 hD3 => ?_⟩
        refine lc_it (walk_list (xs := as'.map V.ref)) (fun i H4 => ∃ acc, H4 D3 = some (.lst acc) ∧ acc.length = tStill bs (cs.take i) ∧ Same H3 H4) ⟨_, upd_same, rfl, Same.new hD3⟩ (fun i H4 _ ⟨_, _, _, s7⟩ => SqL.of (s7 _ _ (s6 _ _ hl'))) ?_ ?_
        · rintro i x H4 H5 hi ⟨acc, hA, hlen2, s7⟩ ⟨rfl, hx⟩
          obtain ⟨a, ha, rfl⟩ := get_ref hx
          obtain ⟨b, hbi, dx, fl, hb1, hb2⟩ := hb'.get ha
          have hil := lt_of_get hbi
          have s8 := s6.trans s7
          refine ⟨rfl, _, rfl, a, CB, dx, _, _, rfl, s8 _ _ hb1, T.clB, T.nB1, fB_number, _, rfl, d, _, rfl, DGet.k (k := nK b.1) (s7 _ _ hd3), _, rfl, ?_⟩
          have e := filter_step (fun b : PB => (bs.map (·.1)).contains b.1) hbi
          have le := filter_le cs i (fun b : PB => (bs.map (·.1)).contains b.1)
          have ek : ∀ j, tStill bs (cs.take j) = ((cs.take j).filter (fun b : PB => (bs.map (·.1)).contains b.1)).length := fun _ => rfl
          have ei : (valV m (nK b.1)).isSome = (bs.map (·.1)).contains b.1 := by
            rw [← lk_isSome]
            rcases dl b.1 with ⟨q1, q2⟩ | ⟨fs, fl2, q1, q2, q3⟩ <;> rw [q1, q2] <;> rfl
          cases c : (bs.map (·.1)).contains b.1 with
          | true =>
            refine if_t (by rw [ei, c]) ⟨_, rfl, acc, hA, small (by rw [hlen2, ek]; omega), _, upd_same, ?_, s7.upd_free hD3⟩
            rw [List.length_append, hlen2, ek, ek, e, c]
            rfl
          | false =>
            refine if_f (by rw [ei, c]) ⟨acc, hA, ?_, s7⟩
            rw [hlen2, ek, ek, e, c]
            rfl
        · rintro H4 ⟨acc4, hA4, hlen4, s7⟩
          rw [List.length_map, hb'.1, List.take_length] at hlen4
          have s8 := s6.trans s7
          refine ⟨_, rfl, l', _, rfl, .inl (SqL.of (s8 _ _ hl')), _, rfl, D2, _, rfl, .inl (SqL.of (s7 _ _ hA3)), _, _, rfl, rfl, _, rfl, l, _, rfl, .inl (SqL.of (s8 _ _ hl)), _, _, rfl, rfl, _, rfl, D3, _, rfl, .inl (SqL.of hA4), _, _, rfl, rfl, ?_⟩
          have := q H4 s8
          rw [List.length_map, List.length_map, hb'.1, hb.1, hlen3, hlen4]
          exact this
end
end BW

namespace BW
open PySem PySem.Spec PyProof.Rows L2 BX
abbrev sWInit : Stmt := inClass (topS 11) 0
abbrev sLast : Stmt := inClass (topS 11) 1
abbrev sOldC : Stmt := inClass (topS 11) 2
abbrev sNewC : Stmt := inClass (topS 11) 3
abbrev sLeast : Stmt := inClass (topS 11) 4
abbrev sFbox : Stmt := inClass (topS 11) 5
abbrev sFirst : Stmt := inClass (topS 11) 6
/-! ### a Ways object -/
def fW (nl bl el kl wl cd : Addr) : List (Str × V) := [("numbers", .ref nl), ("boxes", .ref bl), ("ends", .ref el), ("known", .ref kl), ("within", .ref wl), ("costs", .ref cd)]
theorem fW_numbers {nl bl el kl wl cd : Addr} : (fW nl bl el kl wl cd).lookup ("numbers" : Str) = some (.ref nl) := lk_here
theorem fW_boxes {nl bl el kl wl cd : Addr} : (fW nl bl el kl wl cd).lookup ("boxes" : Str) = some (.ref bl) := (lk_past (by decide +kernel)).trans lk_here
theorem fW_ends {nl bl el kl wl cd : Addr} : (fW nl bl el kl wl cd).lookup ("ends" : Str) = some (.ref el) := (lk_past (by decide +kernel)).trans ((lk_past (by decide +kernel)).trans lk_here)
theorem fW_known {nl bl el kl wl cd : Addr} : (fW nl bl el kl wl cd).lookup ("known" : Str) = some (.ref kl) := (lk_past (by decide +kernel)).trans ((lk_past (by decide +kernel)).trans ((lk_past (by decide +kernel)).trans lk_here))
theorem fW_within {nl bl el kl wl cd : Addr} : (fW nl bl el kl wl cd).lookup ("within" : Str) = some (.ref wl) := (lk_past (by decide +kernel)).trans ((lk_past (by decide +kernel)).trans ((lk_past (by decide +kernel)).trans ((lk_past (by decide +kernel)).trans lk_here)))
theorem fW_costs {nl bl el kl wl cd : Addr} : (fW nl bl el kl wl cd).lookup ("costs" : Str) = some (.ref cd) := (lk_past (by decide +kernel)).trans ((lk_past (by decide +kernel)).trans ((lk_past (by decide +kernel)).trans ((lk_past (by decide +kernel)).trans ((lk_past (by decide +kernel)).trans lk_here))))
theorem fW_not {nl bl el kl wl cd : Addr} {m : Str} (h1 : (m == ("numbers" : Str)) = false) (h2 : (m == ("boxes" : Str)) = false) (h3 : (m == ("ends" : Str)) = false) (h4 : (m == ("known" : Str)) = false) (h5 : (m == ("within" : Str)) = false) (h6 : (m == ("costs" : Str)) = false) : (fW nl bl el kl wl cd).lookup m = none :=
  (lk_past h1).trans ((lk_past h2).trans ((lk_past h3).trans ((lk_past h4).trans ((lk_past h5).trans ((lk_past h6).trans rfl)))))
structure WObj (CW CB : Addr) (H : Hp) (a : Addr) (old : List BdBox.Box) (room : Nat) (fs : List BdBox.BFile) (nl bl el kl wl cd dx : Addr) (as ws : List Addr) : Prop where
  ob : H a = some (.ins CW dx (fW nl bl el kl wl cd))
  nl : H nl = some (.lst ((BdBox.numbersOf fs).map nI))
  bl : H bl = some (.lst (as.map V.ref))
  rows : All2 (BoxAt CB H) as (row old)
  el : H el = some (.lst ((endsOf room fs).map nI))
  kl : H kl = some (.lst ((pre (knownB old fs)).map nI))
  wl : H wl = some (.lst (ws.map V.ref))
  win : All2 (fun a i => H a = some (.lst ((pre (withinB old fs i)).map nI))) ws (List.range old.length)
theorem WObj.same {CW CB : Addr} {H H' : Hp} {a : Addr} {old : List BdBox.Box} {room : Nat} {fs : List BdBox.BFile} {nl bl el kl wl cd dx : Addr} {as ws : List Addr} (s : Same H H') (W : WObj CW CB H a old room fs nl bl el kl wl cd dx as ws) : WObj CW CB H' a old room fs nl bl el kl wl cd dx as ws :=
  ⟨s _ _ W.ob, s _ _ W.nl, s _ _ W.bl, W.rows.imp fun _ _ _ _ r => r.same s, s _ _ W.el, s _ _ W.kl, s _ _ W.wl, W.win.imp fun _ _ _ _ r => s _ _ r⟩
/-- it stands at a, its dict of costs at cd -/
def WaysAt (CW CB : Addr) (H : Hp) (a cd : Addr) (old : List BdBox.Box) (room : Nat) (fs : List BdBox.BFile) : Prop := ∃ nl bl el kl wl dx as ws, WObj CW CB H a old room fs nl bl el kl wl cd dx as ws
theorem WaysAt.same {CW CB : Addr} {H H' : Hp} {a cd : Addr} {old : List BdBox.Box} {room : Nat} {fs : List BdBox.BFile} (s : Same H H') (W : WaysAt CW CB H a cd old room fs) : WaysAt CW CB H' a cd old room fs := by
  obtain ⟨nl, bl, el, kl, wl, dx, as, ws, W⟩ := W
  exact ⟨nl, bl, el, kl, wl, dx, as, ws, W.same s⟩
/-! ### promises -/
def spLast : Sp := fun vs H Q _ => ∃ (x : V) (b room : Nat) (l : Addr) (ts : List Nat), vs = [x, nI b, .ref l, nI room] ∧ H l = some (.lst (ts.map nI)) ∧ b ≤ ts.length ∧ Q (nI (b + fitN room (ts.drop b))) H
def spOldC (CW CB : Addr) : Sp := fun vs H Q _ => ∃ (a cd : Addr) (at_ b e room : Nat) (old : List BdBox.Box) (fs : List BdBox.BFile), vs = [.ref a, nI at_, nI b, nI e] ∧ WaysAt CW CB H a cd old room fs ∧ at_ < old.length ∧ b ≤ e ∧ e ≤ fs.length ∧
  ∀ H', Same H H' → Q (nI (costOld old at_ (slice fs b e))) H'
def spNewC (CW CB : Addr) : Sp := fun vs H Q _ => ∃ (a cd : Addr) (b e room : Nat) (old : List BdBox.Box) (fs : List BdBox.BFile), vs = [.ref a, nI b, nI e] ∧ WaysAt CW CB H a cd old room fs ∧ b ≤ e ∧ e ≤ fs.length ∧ Q (nI (costNew old (slice fs b e))) H
theorem cutV_nat (xs : List V) {b e : Nat} (he : e ≤ xs.length) (hb : b ≤ e) : cutV xs (some (b : Int)) (some (e : Int)) = (xs.drop b).take (e - b) := by
  unfold cutV
  rw [HT.sIx_nat, HT.sIx_nat, Nat.min_eq_left he, Nat.min_eq_left (by omega)]
theorem pre_at {bs : List Bool} {i : Nat} (h : i ≤ bs.length) : atI ((pre bs).map nI) (i : Int) = some (nI ((bs.take i).count true)) := by
  refine atI_nat ?_
  rw [List.getElem?_map, pre_get _ h]
  rfl
theorem knownB_len (old : List BdBox.Box) (fs : List BdBox.BFile) : (knownB old fs).length = fs.length := by unfold knownB; rw [List.length_map]
theorem withinB_len (old : List BdBox.Box) (fs : List BdBox.BFile) (a : Nat) : (withinB old fs a).length = fs.length := by unfold withinB; rw [List.length_map]
section
variable {P : Program} {w : World} {K : PySem.W.Frag} {mg : Str → Option Value} {base : Heap} {CF CB CW CS aN : Addr}
theorem scLast : FnScope ["self", "begin", "thicks", "room", "end", "left"] ["self", "begin", "thicks", "room"] (defScope sLast) := ⟨rfl, rfl, rfl, by decide +kernel, rfl, by decide +kernel, by decide +kernel⟩
theorem ok_Last (D : DefM K CW "last_end" "Ways.last_end" sLast ["self", "begin", "thicks", "room"]) (T : Txt K mg CF CB CW CS aN) : CalM P w K mg base 1 CW "last_end" ["self", "begin", "thicks", "room"] spLast := by
  refine D.cal fun f fd F => F.ok scLast (fun vs H Q E h => ?_) (fun cdv A outer s H vs Q E hr h => ?_)
  · obtain ⟨x, b, room, l, ts, rfl, _⟩ := h
    rfl
  · obtain ⟨x, b, room, l, ts, rfl, hl, hb, q⟩ := h
    refine ⟨_, pss_cons (ps_set (i := 4) scLast.nd rfl (Or.inl rfl) (pv 1))
      (pss_cons (ps_set (i := 5) scLast.nd rfl (Or.inl rfl) (pv 3))
      (pss_cons (ps_while PassesOwn.never (PW.pt (pw_and (pt_cmpR op_lt (pv 4) (pe_callB call_len_seq (by rfl) T.len PySem.boot_len (pa_cons (pv 2) pa_nil)) (nomark _))
          (pw_and1 (pt_cmpR op_le (pe_ix ix_list (pv 2) (pv 4) (fun _ _ => rfl)) (pv 5) (nomark _)))))
        (pss_cons (ps_set (i := 5) scLast.nd rfl (Or.inl rfl) (pe_op op_sub (pv 5) (pe_ix ix_list (pv 2) (pv 4) (fun _ _ => rfl))))
        (pss_one (ps_set (i := 4) scLast.nd rfl (Or.inl rfl) (pe_op op_add (pv 4) pe_int)))))
      (pss_one (ps_ret (pv 4))))), ?_⟩
    refine ⟨_, rfl, _, rfl, ?_⟩
    refine ⟨fun m σ H1 => ∃ e left : Nat, σ = [some x, some (nI b), some (.ref l), some (nI room), some (nI e), some (nI left)] ∧ H1 = H ∧ m = ts.length - e ∧ e ≤ ts.length ∧ e + fitN left (ts.drop e) = b + fitN room (ts.drop b),
      ⟨_, b, room, rfl, rfl, rfl, hb, rfl⟩, ?_⟩
    rintro m σ H1 ⟨e, left, rfl, rfl, rfl, he, heq⟩
    refine ⟨_, rfl, _, rfl, l, _, rfl, .inl (SqL.of hl), _, _, rfl, rfl, _, rfl, ?_⟩
    rw [List.length_map]
    by_cases c : e < ts.length
    · refine if_t (decide_eq_true (by omega)) ?_
      obtain ⟨t, ht⟩ := get_of_lt c
      have hat : atI (ts.map nI) (e : Int) = some (nI t) := atI_nat (by rw [List.getElem?_map, ht]; rfl)
      have hdrop : ts.drop e = t :: ts.drop (e + 1) := by
        obtain ⟨h1, h2⟩ := List.getElem?_eq_some_iff.mp ht
        rw [List.drop_eq_getElem_cons h1, h2]
      refine ⟨_, rfl, _, rfl, l, _, _, _, rfl, rfl, SqL.of hl, hat, _, rfl, _, _, rfl, rfl, _, rfl, ?_⟩
      rw [hdrop] at heq
      by_cases c2 : t ≤ left
      · refine if_t (decide_eq_true (by omega)) ?_
        refine ⟨_, fun σ' H' z => z, ?_⟩
        refine ⟨_, rfl, _, rfl, _, rfl, l, _, _, _, rfl, rfl, SqL.of hl, hat, _, _, rfl, rfl, ?_⟩
        refine ⟨_, rfl, _, _, rfl, rfl, ?_⟩
        refine ⟨ts.length - (e + 1), by omega, e + 1, left - t, ?_, rfl, rfl, by omega, ?_⟩
        · have e1 : ((left : Int) - (t : Int)) = ((left - t : Nat) : Int) := by omega
          show ([some x, some (nI b), some (.ref l), some (nI room), some (V.int ((e : Int) + 1)), some (V.int ((left : Int) - (t : Int)))] : List (Option V)) = _
          rw [e1]
          rfl
        · rw [← heq]
          show _ = e + (if t ≤ left then fitN (left - t) (ts.drop (e + 1)) + 1 else 0)
          rw [if_pos c2]
          omega
      · refine if_f (decide_eq_false (by omega)) ?_
        refine ⟨_, rfl, ?_⟩
        have e2 : e + 0 = b + fitN room (ts.drop b) := by
          rw [← heq]
          show _ = e + (if t ≤ left then fitN (left - t) (ts.drop (e + 1)) + 1 else 0)
          rw [if_neg c2]
        rw [Nat.add_zero] at e2
        rw [← e2] at q
        exact q
    · refine if_f (decide_eq_false (by omega)) ?_
      refine if_f rfl ?_
      refine ⟨_, rfl, ?_⟩
      have e2 : e + 0 = b + fitN room (ts.drop b) := by
        rw [← heq, List.drop_eq_nil_of_le (by omega)]
        rfl
      rw [Nat.add_zero] at e2
      rw [← e2] at q
      exact q
theorem scNewC : FnScope ["self", "begin", "end"] ["self", "begin", "end"] (defScope sNewC) := ⟨rfl, rfl, rfl, by decide +kernel, rfl, by decide +kernel, by decide +kernel⟩
theorem ok_NewC (D : DefM K CW "cost_of_new" "Ways.cost_of_new" sNewC ["self", "begin", "end"]) (T : Txt K mg CF CB CW CS aN) : CalM P w K mg base 1 CW "cost_of_new" ["self", "begin", "end"] (spNewC CW CB) := by
  refine D.cal fun f fd F => F.ok scNewC (fun vs H Q E h => ?_) (fun cdv A outer s H vs Q E hr h => ?_)
  · obtain ⟨a, cd, b, e, room, old, fs, rfl, _⟩ := h
    rfl
  · obtain ⟨a, cd, b, e, room, old, fs, rfl, ⟨nl, bl, el, kl, wl, dx, as, ws, W⟩, hbe, he, q⟩ := h
    obtain ⟨uB, mB, rB⟩ := T.cBOX
    refine ⟨_, pss_one (ps_ret (pe_op op_sub (pe_op op_add (pe_glob rfl mB rB) (pe_ix ix_list (pe_fn (pv 0)) (pv 2) (fun _ _ => rfl))) (pe_ix ix_list (pe_fn (pv 0)) (pv 1) (fun _ _ => rfl)))), ?_⟩
    refine ⟨_, rfl, a, CW, dx, _, _, rfl, W.ob, T.clW, T.nW4, fW_known, _, rfl, kl, _, _, _, rfl, rfl, SqL.of W.kl, pre_at (by rw [knownB_len]; exact he), _, _, rfl, rfl, ?_⟩
    refine ⟨_, rfl, a, CW, dx, _, _, rfl, W.ob, T.clW, T.nW4, fW_known, _, rfl, kl, _, _, _, rfl, rfl, SqL.of W.kl, pre_at (by rw [knownB_len]; omega), _, _, rfl, rfl, ?_⟩
    have q1 : Q (V.int ((costNew old (slice fs b e) : Nat) : Int)) H := q
    rw [← new_cost hbe] at q1
    exact q1
theorem scOldC : FnScope ["self", "at", "begin", "end", "files", "is_changed", "stay"] ["self", "at", "begin", "end"] (defScope sOldC) := ⟨rfl, rfl, rfl, by decide +kernel, rfl, by decide +kernel, by decide +kernel⟩
theorem ok_OldC (D : DefM K CW "cost_of_old" "Ways.cost_of_old" sOldC ["self", "at", "begin", "end"]) (T : Txt K mg CF CB CW CS aN) : CalM P w K mg base 1 CW "cost_of_old" ["self", "at", "begin", "end"] (spOldC CW CB) := by
  refine D.cal fun f fd F => F.ok scOldC (fun vs H Q E h => ?_) (fun cdv A outer s H vs Q E hr h => ?_)
  · obtain ⟨a, cd, at_, b, e, room, old, fs, rfl, _⟩ := h
    rfl
  · obtain ⟨a, cd, at_, b, e, room, old, fs, rfl, ⟨nl, bl, el, kl, wl, dx, as, ws, W⟩, hat, hbe, he, q⟩ := h
    obtain ⟨uB, mB, rB⟩ := T.cBOX
    have hu64 := hr.units
    obtain ⟨bx, hbx⟩ := get_of_lt hat
    have hrow : (row old)[at_]? = some (pb bx) := by unfold row; rw [List.getElem?_map, hbx]; rfl
    obtain ⟨ba, hba, bdx, fl, hb1, hb2⟩ := W.rows.get' hrow
    obtain ⟨wa, hwa, hw1⟩ := W.win.get' (i := at_) (b := at_) (by rw [List.getElem?_range hat])
    refine ⟨_, pss_cons (ps_set (i := 4) scOldC.nd rfl (Or.inl rfl) (pe_fld (pe_ix ix_list (pe_fn (pv 0)) (pv 1) (fun _ _ => rfl)) rfl))
      (pss_cons (ps_set (i := 5) scOldC.nd rfl (Or.inl rfl) (pe_or (pe_cmpR op_ne (pe_callB call_len_seq (by rfl) T.len PySem.boot_len (pa_cons (pv 4) pa_nil)) (pe_op op_sub (pv 3) (pv 2)) (nomark _))
        (pe_one (pe_cmpR (op_neD hu64) (pv 4) (pe_slice sl_list (pe_fn (pv 0)) (po_some (pv 2)) (po_some (pv 3))) (nomark _)))))
      (pss_cons (ps_set (i := 6) scOldC.nd rfl (Or.inl rfl) (pe_op op_sub (pe_ix ix_list (pe_ix ix_list (pe_fn (pv 0)) (pv 1) (fun _ _ => rfl)) (pv 3) (fun _ _ => rfl)) (pe_ix ix_list (pe_ix ix_list (pe_fn (pv 0)) (pv 1) (fun _ _ => rfl)) (pv 2) (fun _ _ => rfl))))
      (pss_one (ps_ret (pe_op op_sub (pe_op op_sub (pe_op op_add (pe_op op_mul (pe_glob rfl mB rB) (pe_callTy call_int1 (by rfl) T.int (by decide +kernel) (pa_cons (pv 5) pa_nil))) (pe_ix ix_list (pe_fn (pv 0)) (pv 3) (fun _ _ => rfl)))
        (pe_ix ix_list (pe_fn (pv 0)) (pv 2) (fun _ _ => rfl))) (pv 6)))))), ?_⟩
    have aba : atI (as.map V.ref) (at_ : Int) = some (.ref ba) := atI_nat (by rw [List.getElem?_map, hba]; rfl)
    have awa : atI (ws.map V.ref) (at_ : Int) = some (.ref wa) := atI_nat (by rw [List.getElem?_map, hwa]; rfl)
    -- files = self.boxes[at].files
    refine ⟨_, rfl, a, CW, dx, _, _, rfl, W.ob, T.clW, T.nW2, fW_boxes, _, rfl, bl, _, _, _, rfl, rfl, SqL.of W.bl, aba, ba, CB, bdx, _, _, rfl, hb1, T.clB, T.nB2, fB_files, ?_⟩
    -- the rest, whatever is_changed is
    have rest : ∀ (H1 : Hp) (ch : Bool), Same H H1 → ch = decide (BdBox.numbersOf bx.files ≠ BdBox.numbersOf (slice fs b e)) →
        (tSeq (tAsg (tOp (rI0 fun i j => .int (i - j)) (tOp (rIxL K) (tOp (rIxL K) (tFld K (tVar 0) "within") (tVar 1)) (tVar 3)) (tOp (rIxL K) (tOp (rIxL K) (tFld K (tVar 0) "within") (tVar 1)) (tVar 2))) (gName 6))
          (tRet (tOp (rI0 fun i j => .int (i - j)) (tOp (rI0 fun i j => .int (i - j)) (tOp (rI0 fun i j => .int (i + j)) (tOp (rI CMul fun i j => .int (i * j)) (tC (.int 1000)) (tCB (fun xs H Q => (∃ i, xs = [.int i] ∧ Q (.int i) H) ∨ ∃ k, xs = [.bl k] ∧ Q (.int (if k then 1 else 0)) H) (tCons (tVar 5) tNil))) (tOp (rIxL K) (tFld K (tVar 0) "known") (tVar 3)))
            (tOp (rIxL K) (tFld K (tVar 0) "known") (tVar 2))) (tVar 6)))) { nx := fun _ H' => Q .non H', rt := Q } [some (.ref a), some (nI at_), some (nI b), some (nI e), some (.ref fl), some (.bl ch), none] H1 := by
      intro H1 ch s1 hch
      have W1 := W.same s1
      have hw2 := s1 _ _ hw1
      refine ⟨_, rfl, a, CW, dx, _, _, rfl, W1.ob, T.clW, T.nW5, fW_within, _, rfl, wl, _, _, _, rfl, rfl, SqL.of W1.wl, awa, _, rfl, wa, _, _, _, rfl, rfl, SqL.of hw2, pre_at (by rw [withinB_len]; exact he), ?_⟩
      refine ⟨_, rfl, a, CW, dx, _, _, rfl, W1.ob, T.clW, T.nW5, fW_within, _, rfl, wl, _, _, _, rfl, rfl, SqL.of W1.wl, awa, _, rfl, wa, _, _, _, rfl, rfl, SqL.of hw2, pre_at (by rw [withinB_len]; omega), _, _, rfl, rfl, ?_⟩
      refine ⟨_, rfl, .inr ⟨ch, rfl, ?_⟩⟩
      refine ⟨_, _, rfl, rfl, .inl ⟨by decide, by decide⟩, ?_⟩
      refine ⟨_, rfl, a, CW, dx, _, _, rfl, W1.ob, T.clW, T.nW4, fW_known, _, rfl, kl, _, _, _, rfl, rfl, SqL.of W1.kl, pre_at (by rw [knownB_len]; exact he), _, _, rfl, rfl, ?_⟩
      refine ⟨_, rfl, a, CW, dx, _, _, rfl, W1.ob, T.clW, T.nW4, fW_known, _, rfl, kl, _, _, _, rfl, rfl, SqL.of W1.kl, pre_at (by rw [knownB_len]; omega), _, _, rfl, rfl, ?_⟩
      refine ⟨_, rfl, _, _, rfl, rfl, ?_⟩
      have q1 : Q (V.int ((costOld old at_ (slice fs b e) : Nat) : Int)) H1 := q H1 s1
      rw [← old_cost hbe hbx ch hch] at q1
      exact q1
    -- is_changed
    have slen := slice_len hbe he
    have nlen : (BdBox.numbersOf fs).length = fs.length := by unfold BdBox.numbersOf; rw [List.length_map]
    refine ⟨_, rfl, fl, _, rfl, .inl (SqL.of hb2), _, rfl, _, rfl, _, _, rfl, rfl, rfl, _, rfl, ?_⟩
    have el : (((pb bx).2.map nI).length : Int) = ((BdBox.numbersOf bx.files).length : Int) := by rw [List.length_map]; rfl
    by_cases c : (BdBox.numbersOf bx.files).length = e - b
    · refine if_f ?_ ?_
      · rw [Bool.not_eq_false', decide_eq_true_eq]
        rw [el, c]
        congr 1
        omega
      · refine ⟨_, rfl, _, rfl, a, CW, dx, _, _, rfl, W.ob, T.clW, T.nW1, fW_numbers, _, rfl, _, rfl, _, rfl, _, rfl, nl, _, rfl, SqL.of W.nl, fun p hp => ?_⟩
        have s1 : Same H (upd H p (.lst (cutV ((BdBox.numbersOf fs).map nI) (some (b : Int)) (some (e : Int))))) := Same.new hp
        have hcut : cutV ((BdBox.numbersOf fs).map nI) (some (b : Int)) (some (e : Int)) = (BdBox.numbersOf (slice fs b e)).map nI := by
          rw [cutV_nat _ (by rw [List.length_map, nlen]; exact he) hbe, numbers_slice, List.map_take, List.map_drop]
        rw [hcut] at s1 ⊢
        refine ⟨dataN (BdBox.numbersOf bx.files), dataN (BdBox.numbersOf (slice fs b e)), dp_N (s1 _ _ hb2), dp_N upd_same, shaped_N _, shaped_N _, ?_⟩
        rw [eqv_N]
        refine rest _ _ s1 ?_
        rw [Bool.eq_iff_iff]
        simp
    · refine if_t ?_ ?_
      · rw [Bool.not_eq_true', decide_eq_false_iff_not]
        intro z
        have z := V.int.inj z
        rw [el] at z
        omega
      · refine rest _ _ (Same.refl _) ?_
        refine (decide_eq_true ?_).symm
        intro z
        apply c
        rw [z]
        unfold BdBox.numbersOf
        rw [List.length_map]
        exact slen
end
end BW

namespace BW
open PySem PySem.Spec PyProof.Rows L2 BX
/-- what is written down of the costs -/
def Has (kvs : List (List Key × V)) (old : List BdBox.Box) (room : Nat) (fs : List BdBox.BFile) (d p : Nat) : Prop := valV kvs [nK d, nK p] = some (nI (kst old room (fs.drop d) p))
def spLeast (CW CB : Addr) : Sp := fun vs H Q _ => ∃ (a cd : Addr) (d p room : Nat) (old : List BdBox.Box) (fs : List BdBox.BFile) (kvs : List (List Key × V)), vs = [.ref a, nI d, nI p] ∧ WaysAt CW CB H a cd old room fs ∧ H cd = some (.dT kvs) ∧ d ≤ fs.length ∧ p ≤ old.length ∧
  Fit room fs ∧ fs.length ≤ 100 ∧ old.length ≤ 100 ∧ (∀ e j, d < e → e ≤ fs.length → j ≤ old.length → Has kvs old room fs e j) ∧ (∀ j, p < j → j ≤ old.length → Has kvs old room fs d j) ∧
  ∀ H', Same H H' → Q (nI (kst old room (fs.drop d) p)) H'
theorem dget_t {H : Hp} {cd b : Addr} {kvs : List (List Key × V)} {e p : Nat} {v : V} (h : H cd = some (.dT kvs)) (hv : valV kvs [nK e, nK p] = some v) (hb : H b = some (.tup [nI e, nI p])) : DGet H cd (.ref b) (some v) := by
  rw [← hv]
  exact DGet.t h hb
theorem ends_at {room : Nat} {fs : List BdBox.BFile} {d : Nat} (h : d < fs.length) : atI ((endsOf room fs).map nI) (d : Int) = some (nI (d + fit room (fs.drop d))) := by
  refine atI_nat ?_
  unfold endsOf
  rw [List.getElem?_map, List.getElem?_map, List.getElem?_range h]
  rfl
theorem rg_nat (d k : Nat) : rgV ((d : Int) + 1) ((((d + k : Nat) : Int)) + 1) = (List.range k).map fun t => nI (d + 1 + t) := by
  unfold rgV
  rw [show (((d + k : Nat) : Int) + 1 - ((d : Int) + 1)).toNat = k by omega]
  apply List.map_congr_left
  intro t _
  congr 1
section
variable {P : Program} {w : World} {K : PySem.W.Frag} {mg : Str → Option Value} {base : Heap} {CF CB CW CS aN : Addr}
theorem scLeast : FnScope ["self", "done", "passed", "ends", "some", "end"] ["self", "done", "passed"] (defScope sLeast) := ⟨rfl, rfl, rfl, by decide +kernel, rfl, by decide +kernel, by decide +kernel⟩
theorem ok_Least (D : DefM K CW "least" "Ways.least" sLeast ["self", "done", "passed"]) (T : Txt K mg CF CB CW CS aN) (C1 : CalM P w K mg base 1 CW "cost_of_old" ["self", "at", "begin", "end"] (spOldC CW CB)) (C2 : CalM P w K mg base 1 CW "cost_of_new" ["self", "begin", "end"] (spNewC CW CB)) :
    CalM P w K mg base 2 CW "least" ["self", "done", "passed"] (spLeast CW CB) := by
  obtain ⟨f1, fd1, G1, m1, b1⟩ := C1
  obtain ⟨f2, fd2, G2, m2, b2⟩ := C2
  refine D.cal fun f fd F => F.ok scLeast (fun vs H Q E h => ?_) (fun cdv A outer s H vs Q E hr h => ?_)
  · obtain ⟨a, cd, d, p, room, old, fs, kvs, rfl, _⟩ := h
    rfl
  · obtain ⟨a, cd, d, p, room, old, fs, kvs, rfl, ⟨nl, bl, el, kl, wl, dx, as, ws, W⟩, hcd, hd, hp, hF, hfs, hol, hA, hB, q⟩ := h
    have hu := hu_of hr
    obtain ⟨uB, mB, rB⟩ := T.cBOX
    refine ⟨_, pss_cons (ps_if (pt_cmpR op_eq (pv 1) (pe_callB call_len_seq (by rfl) T.len PySem.boot_len (pa_cons (pe_fn (pv 0)) pa_nil)) (nomark _))
        (pss_one (ps_ret (pe_op op_mul (pe_glob rfl mB rB) (pe_op op_sub (pe_callB call_len_seq (by rfl) T.len PySem.boot_len (pa_cons (pe_fn (pv 0)) pa_nil)) (pv 2))))) pss_nil)
      (pss_cons (ps_set (i := 3) scLeast.nd rfl (Or.inl rfl) (pe_listRg rfl (by rfl) T.list (prg_2 (by rfl) T.range (pe_op op_add (pv 1) pe_int) (pe_op op_add (pe_ix ix_list (pe_fn (pv 0)) (pv 1) (fun _ _ => rfl)) pe_int))))
      (pss_cons (ps_setLc (i := 4) (own := [("end", 5)]) (g := gName 5) (by rfl) scLeast.nd rfl rfl (sw_true rfl rfl rfl (by decide +kernel)) (pi_list (pv 3)) (blkOk_by (own := [("end", 5)]) (N := ["self", "done", "passed", "ends", "some", "end"]) (sc := defScope sLeast) (by decide +kernel))
            (fun _ _ _ _ _ => pg_name (i := 5) scLeast.nd rfl (Or.inl rfl)) (fun _ _ _ _ _ => pts_nil)
            (fun _ _ _ _ _ => by exact pe_op op_add (pe_meth (pv 0) T.clW m2 G2 hr b2 .nil pass0 (pa_cons (pv 1) (pa_cons (pv 5) pa_nil))) (pe_dget hu (pe_fk K (pv 0)) (pe_tup (pa_cons (pv 5) (pa_cons (pv 2) pa_nil))) (fun _ _ => rfl))))
      (pss_cons (ps_if (pt_cmpR op_lt (pv 2) (pe_callB call_len_seq (by rfl) T.len PySem.boot_len (pa_cons (pe_fn (pv 0)) pa_nil)) (nomark _))
        (pss_cons (ps_expr (pe_bm PySem.F.plainAttrs_list PySem.F.slot_list_append PySem.F.type_list_append mt_append (pv 4)
            (pa_cons (pe_op op_add (pe_glob rfl mB rB) (pe_dget hu (pe_fn (pv 0)) (pe_tup (pa_cons (pv 1) (pa_cons (pe_op op_add (pv 2) pe_int) pa_nil))) (fun _ _ => rfl))) pa_nil)))
        (pss_one (ps_expr (pe_bm PySem.F.plainAttrs_list PySem.F.slot_list_extend PySem.F.type_list_extend mt_extend (pv 4)
            (pa_cons (pe_lc (own := [("end", 5)]) (g := gName 5) (by rfl) scLeast.nd (pi_list (pv 3)) (blkOk_by (own := [("end", 5)]) (N := ["self", "done", "passed", "ends", "some", "end"]) (sc := defScope sLeast) (by decide +kernel))
              (fun _ _ _ _ _ => pg_name (i := 5) scLeast.nd rfl (Or.inl rfl)) (fun _ _ _ _ _ => pts_nil)
              (fun _ _ _ _ _ => by exact pe_op op_add (pe_meth (pv 0) T.clW m1 G1 hr b1 .nil pass0 (pa_cons (pv 2) (pa_cons (pv 1) (pa_cons (pv 5) pa_nil)))) (pe_dget hu (pe_fk K (pv 0)) (pe_tup (pa_cons (pv 5) (pa_cons (pe_op op_add (pv 2) pe_int) pa_nil))) (fun _ _ => rfl)))) pa_nil))))) pss_nil)
      (pss_one (ps_ret (pe_callB (cr_min rfl) (by rfl) T.min (by decide +kernel) (pa_cons (pv 4) pa_nil))))))), ?_⟩
    have nlen : (BdBox.numbersOf fs).length = fs.length := by unfold BdBox.numbersOf; rw [List.length_map]
    have rlen : (row old).length = old.length := by unfold row; rw [List.length_map]
    -- if done == len(self.numbers)
    refine ⟨_, rfl, _, rfl, a, CW, dx, _, _, rfl, W.ob, T.clW, T.nW1, fW_numbers, nl, _, rfl, .inl (SqL.of W.nl), rfl, _, rfl, ?_⟩
    rw [List.length_map, nlen]
    by_cases c : d = fs.length
    · subst c
      refine if_t (decide_eq_true rfl) ?_
      refine ⟨_, rfl, a, CW, dx, _, _, rfl, W.ob, T.clW, T.nW2, fW_boxes, bl, _, rfl, .inl (SqL.of W.bl), _, rfl, _, _, rfl, rfl, _, _, rfl, rfl, .inl ⟨by decide, by decide⟩, ?_⟩
      have q1 : Q (V.int ((kst old room (fs.drop fs.length) p : Nat) : Int)) H := q H (Same.refl _)
      rw [List.drop_length, kst_nil hp] at q1
      rw [List.length_map, W.rows.1, rlen]
      have e1 : (((1000 * (old.length - p) : Nat)) : Int) = 1000 * ((old.length : Int) - (p : Int)) := by omega
      rw [e1] at q1
      exact q1
    · refine if_f (decide_eq_false (fun z => c (by have z := V.int.inj z; omega))) ?_
      have hdl : d < fs.length := by omega
      generalize hk : fit room (fs.drop d) = k
      have hkl : d + k ≤ fs.length := by rw [← hk]; exact fit_drop_le room fs d hd
      have hne : fs.drop d ≠ [] := by
        intro z
        have := congrArg List.length z
        rw [List.length_drop] at this
        simp at this
        omega
      -- ends
      have he := ends_at (room := room) hdl
      rw [hk] at he
      refine ⟨_, rfl, _, _, rfl, rfl, _, rfl, a, CW, dx, _, _, rfl, W.ob, T.clW, T.nW3, fW_ends, _, rfl, el, _, _, _, rfl, rfl, SqL.of W.el, he, _, _, rfl, rfl, _, _, rfl, rfl, RgOk.of_le (by omega) (by omega) (by omega) (by omega), fun E0 hE0 => ?_⟩
      rw [rg_nat]
      have s1 : Same H (upd H E0 (.lst ((List.range k).map fun t => nI (d + 1 + t)))) := Same.new hE0
      generalize eH1 : upd H E0 (.lst ((List.range k).map fun t => nI (d + 1 + t))) = H1 at s1
      have hE : H1 E0 = some (.lst ((List.range k).map fun t => nI (d + 1 + t))) := by rw [← eH1]; exact upd_same
      clear eH1
      -- some
      refine ⟨_, rfl, E0, rfl, ⟨_, SqL.of hE⟩, fun S hS => ?_⟩
      have s2 : Same H1 (upd H1 S (.lst [])) := Same.new hS
      refine lc_it (walk_list (xs := (List.range k).map fun t => nI (d + 1 + t))) (fun i H2 => Same H1 H2 ∧ H2 S = some (.lst (((List.range i).map fun t => ((costNew old ((fs.drop d).take (t + 1)) + kst old room ((fs.drop d).drop (t + 1)) p : Nat) : Int)).map V.int))) ⟨s2, upd_same⟩ (fun i H2 _ ⟨s3, _⟩ => SqL.of (s3 _ _ hE)) ?_ ?_
      · rintro i x H2 H3 hi ⟨s3, hS2⟩ ⟨rfl, hx⟩
        rw [List.length_map, List.length_range] at hi
        rw [List.getElem?_map, List.getElem?_range hi] at hx
        have hx : nI (d + 1 + i) = x := Option.some.inj hx
        subst hx
        have W3 := W.same (s1.trans s3)
        have hcd3 := (s1.trans s3) _ _ hcd
        refine ⟨rfl, yes_if ?_⟩
        refine ⟨_, rfl, a, dx, _, rfl, W3.ob, fW_not (by decide +kernel) (by decide +kernel) (by decide +kernel) (by decide +kernel) (by decide +kernel) (by decide +kernel), _, rfl, _, rfl, a, cd, d, d + 1 + i, room, old, fs, rfl, ⟨_, _, _, _, _, _, _, _, W3⟩, by omega, by omega, ?_⟩
        refine ⟨_, rfl, a, CW, dx, _, _, rfl, W3.ob, T.clW, T.nW6, fW_costs, _, rfl, _, rfl, (by show 2 ≤ sizeLine; decide), fun t ht => ?_⟩
        have s4 : Same H3 (upd H3 t (.tup [nI (d + 1 + i), nI p])) := Same.new ht
        refine ⟨cd, _, rfl, dget_t (s4 _ _ hcd3) (hA (d + 1 + i) p (by omega) (by omega) hp) upd_same, _, _, rfl, rfl, _, s4 _ _ hS2, ?_, (s3.trans s4).upd_free hS, ?_⟩
        · rw [List.length_map, List.length_map, List.length_range]
          exact small (by omega)
        · rw [upd_same, List.range_succ, List.map_append, List.map_append]
          have e1 : slice fs d (d + 1 + i) = (fs.drop d).take (i + 1) := by rw [show d + 1 + i = d + (i + 1) by omega, slice_take]
          have e2 : fs.drop (d + 1 + i) = (fs.drop d).drop (i + 1) := by rw [List.drop_drop, show d + 1 + i = d + (i + 1) by omega]
          rw [e1, e2]
          rfl
      · rintro H2 ⟨s3, hS2⟩
        rw [List.length_map, List.length_range] at hS2
        have s03 := s1.trans s3
        have W2 := W.same s03
        have hcd2 := s03 _ _ hcd
        have hS0 : H S = none := s1.free hS
        have hE2 := s3 _ _ hE
        -- if passed < len(self.boxes)
        refine ⟨_, rfl, _, rfl, a, CW, dx, _, _, rfl, W2.ob, T.clW, T.nW2, fW_boxes, bl, _, rfl, .inl (SqL.of W2.bl), _, _, rfl, rfl, _, rfl, ?_⟩
        rw [List.length_map, W.rows.1, rlen]
        have hkp : 1 ≤ k := by rw [← hk]; exact fit_pos (hF.drop d) hne
        by_cases cp : p < old.length
        · refine if_t (decide_eq_true (by omega)) ?_
          refine ⟨_, rfl, .inl ⟨rfl, _, SqL.of hS2⟩, _, rfl, a, CW, dx, _, _, rfl, W2.ob, T.clW, T.nW6, fW_costs, _, rfl, _, rfl, _, _, rfl, rfl, (by show 2 ≤ sizeLine; decide), fun t ht => ?_⟩
          have s4 : Same H2 (upd H2 t (.tup [nI d, V.int ((p : Int) + 1)])) := Same.new ht
          refine ⟨cd, _, rfl, dget_t (e := d) (p := p + 1) (s4 _ _ hcd2) (hB (p + 1) (by omega) (by omega)) upd_same, _, _, rfl, rfl, S, _, _, rfl, rfl, s4 _ _ hS2, ?_, ?_⟩
          · rw [List.length_map, List.length_map, List.length_range]
            exact small (by omega)
          have s5 : Same H (upd (upd H2 t (.tup [nI d, V.int ((p : Int) + 1)])) S (.lst ((((List.range k).map fun t => ((costNew old ((fs.drop d).take (t + 1)) + kst old room ((fs.drop d).drop (t + 1)) p : Nat) : Int)).map V.int) ++ [V.int (1000 + ((kst old room (fs.drop d) (p + 1) : Nat) : Int))]))) := (s03.trans s4).upd_free hS0
          have hE3 : (upd (upd H2 t (.tup [nI d, V.int ((p : Int) + 1)])) S (.lst ((((List.range k).map fun t => ((costNew old ((fs.drop d).take (t + 1)) + kst old room ((fs.drop d).drop (t + 1)) p : Nat) : Int)).map V.int) ++ [V.int (1000 + ((kst old room (fs.drop d) (p + 1) : Nat) : Int))]))) E0 = some (.lst ((List.range k).map fun t => nI (d + 1 + t))) := by
            rw [upd_ne (ne_of_none hE hS)]
            exact s4 _ _ hE2
          generalize eH3 : upd (upd H2 t (.tup [nI d, V.int ((p : Int) + 1)])) S (.lst ((((List.range k).map fun t => ((costNew old ((fs.drop d).take (t + 1)) + kst old room ((fs.drop d).drop (t + 1)) p : Nat) : Int)).map V.int) ++ [V.int (1000 + ((kst old room (fs.drop d) (p + 1) : Nat) : Int))])) = H3 at s5 hE3
          have hS3 : H3 S = some (.lst ((((List.range k).map fun t => ((costNew old ((fs.drop d).take (t + 1)) + kst old room ((fs.drop d).drop (t + 1)) p : Nat) : Int)) ++ [((1000 + kst old room (fs.drop d) (p + 1) : Nat) : Int)]).map V.int)) := by
            rw [← eH3, upd_same, List.map_append]
            rfl
          clear eH3
          -- some.extend
          refine ⟨_, rfl, .inl ⟨rfl, _, SqL.of hS3⟩, _, rfl, E0, rfl, ⟨_, SqL.of hE3⟩, fun S2 hS2' => ?_⟩
          have s6 : Same H3 (upd H3 S2 (.lst [])) := Same.new hS2'
          refine lc_it (walk_list (xs := (List.range k).map fun t => nI (d + 1 + t))) (fun i H4 => Same H3 H4 ∧ H4 S2 = some (.lst (((List.range i).map fun t => ((costOld old p ((fs.drop d).take (t + 1)) + kst old room ((fs.drop d).drop (t + 1)) (p + 1) : Nat) : Int)).map V.int))) ⟨s6, upd_same⟩ (fun i H4 _ ⟨s7, _⟩ => SqL.of (s7 _ _ hE3)) ?_ ?_
          · rintro i x H4 H5 hi ⟨s7, hS4⟩ ⟨rfl, hx⟩
            rw [List.length_map, List.length_range] at hi
            rw [List.getElem?_map, List.getElem?_range hi] at hx
            have hx : nI (d + 1 + i) = x := Option.some.inj hx
            subst hx
            have W5 := W.same (s5.trans s7)
            refine ⟨rfl, yes_if ?_⟩
            refine ⟨_, rfl, a, dx, _, rfl, W5.ob, fW_not (by decide +kernel) (by decide +kernel) (by decide +kernel) (by decide +kernel) (by decide +kernel) (by decide +kernel), _, rfl, _, rfl, _, rfl, a, cd, p, d, d + 1 + i, room, old, fs, rfl, ⟨_, _, _, _, _, _, _, _, W5⟩, cp, by omega, by omega, fun H6 s8 => ?_⟩
            have W6 := W5.same s8
            have hcd6 := s8 _ _ ((s5.trans s7) _ _ hcd)
            refine ⟨_, rfl, a, CW, dx, _, _, rfl, W6.ob, T.clW, T.nW6, fW_costs, _, rfl, _, rfl, _, _, rfl, rfl, (by show 2 ≤ sizeLine; decide), fun t ht => ?_⟩
            have s9 : Same H6 (upd H6 t (.tup [nI (d + 1 + i), V.int ((p : Int) + 1)])) := Same.new ht
            refine ⟨cd, _, rfl, dget_t (e := d + 1 + i) (p := p + 1) (s9 _ _ hcd6) (hA (d + 1 + i) (p + 1) (by omega) (by omega) (by omega)) upd_same, _, _, rfl, rfl, _, (s8.trans s9) _ _ hS4, ?_, ((s7.trans s8).trans s9).upd_free hS2', ?_⟩
            · rw [List.length_map, List.length_map, List.length_range]
              exact small (by omega)
            · rw [upd_same, List.range_succ, List.map_append, List.map_append]
              have e1 : slice fs d (d + 1 + i) = (fs.drop d).take (i + 1) := by rw [show d + 1 + i = d + (i + 1) by omega, slice_take]
              have e2 : fs.drop (d + 1 + i) = (fs.drop d).drop (i + 1) := by rw [List.drop_drop, show d + 1 + i = d + (i + 1) by omega]
              rw [e1, e2]
              rfl
          · rintro H4 ⟨s7, hS4⟩
            rw [List.length_map, List.length_range] at hS4
            refine ⟨S, S2, _, _, rfl, rfl, s7 _ _ hS3, hS4, ?_, ?_⟩
            · rw [List.length_map, List.length_map, List.length_append, List.length_map, List.length_map, List.length_range, List.length_singleton]
              exact smallE (by omega)
            · refine ⟨_, rfl, S, _, rfl, SqL.of (by rw [upd_same, ← List.map_append]), ?_, fun m hm hle => ?_⟩
              · rw [List.length_append, List.length_append, List.length_singleton]
                omega
              · rw [kst_is (m := m) (news := (List.range k).map fun t => ((costNew old ((fs.drop d).take (t + 1)) + kst old room ((fs.drop d).drop (t + 1)) p : Nat) : Int)) (sk := [((1000 + kst old room (fs.drop d) (p + 1) : Nat) : Int)]) (olds := (List.range k).map fun t => ((costOld old p ((fs.drop d).take (t + 1)) + kst old room ((fs.drop d).drop (t + 1)) (p + 1) : Nat) : Int)) (hF.drop d) hne (by rw [List.length_drop]; omega) hp (by rw [hk]) (.inl ⟨cp, rfl, by rw [hk]⟩) hm hle]
                exact q _ ((s5.trans s7).upd_free hS0)
        · refine if_f (decide_eq_false (by omega)) ?_
          refine ⟨_, rfl, S, _, rfl, SqL.of hS2, ?_, fun m hm hle => ?_⟩
          · rw [List.length_map, List.length_range]
            omega
          · rw [kst_is (m := m) (news := (List.range k).map fun t => ((costNew old ((fs.drop d).take (t + 1)) + kst old room ((fs.drop d).drop (t + 1)) p : Nat) : Int)) (sk := []) (olds := []) (hF.drop d) hne (by rw [List.length_drop]; omega) hp (by rw [hk]) (.inr ⟨by omega, rfl, rfl⟩) (by rw [List.append_nil, List.append_nil]; exact hm) (by rw [List.append_nil, List.append_nil]; exact hle)]
            exact q H2 s03
end
end BW

namespace BW
open PySem PySem.Spec PyProof.Rows L2 BX
def oV : Option Nat → V
  | none => .non
  | some a => nI a
abbrev Trip := Nat × Nat × Option Nat
def TripAt (H : Hp) (t : Addr) (x : Trip) : Prop := H t = some (.tup [nI x.1, nI x.2.1, oV x.2.2])
/-- what first_box and first ask -/
structure WPre (CW CB : Addr) (H : Hp) (a cd : Addr) (old : List BdBox.Box) (room : Nat) (fs : List BdBox.BFile) (kvs : List (List Key × V)) : Prop where
  at_ : WaysAt CW CB H a cd old room fs
  cd : H cd = some (.dT kvs)
  fit : Fit room fs
  fl : fs.length ≤ 100
  ol : old.length ≤ 100
  has : ∀ e j, e ≤ fs.length → j ≤ old.length → Has kvs old room fs e j
theorem WPre.same {CW CB : Addr} {H H' : Hp} {a cd : Addr} {old : List BdBox.Box} {room : Nat} {fs : List BdBox.BFile} {kvs : List (List Key × V)} (s : Same H H') (W : WPre CW CB H a cd old room fs kvs) : WPre CW CB H' a cd old room fs kvs :=
  ⟨W.at_.same s, s _ _ W.cd, W.fit, W.fl, W.ol, W.has⟩
def spFbox (CW CB : Addr) : Sp := fun vs H Q _ => ∃ (a cd : Addr) (d p room : Nat) (old : List BdBox.Box) (fs : List BdBox.BFile) (kvs : List (List Key × V)), vs = [.ref a, nI d, nI p] ∧ WPre CW CB H a cd old room fs kvs ∧ d < fs.length ∧ p ≤ old.length ∧
  ∀ (H' : Hp) (t : Addr) (i : Option Nat) (k : Nat), Same H H' → H t = none → 1 ≤ k → d + k ≤ fs.length → (∀ a, i = some a → p ≤ a ∧ a < old.length) →
    (best old room (fs.drop d) p).way = (i, (fs.drop d).take k) :: (best old room (fs.drop (d + k)) (nxt p i)).way → H' t = some (.tup [nI (d + k), oV i]) → Q (.ref t) H'
def spFirst (CW CB : Addr) : Sp := fun vs H Q _ => ∃ (a cd : Addr) (room : Nat) (old : List BdBox.Box) (fs : List BdBox.BFile) (kvs : List (List Key × V)), vs = [.ref a] ∧ WPre CW CB H a cd old room fs kvs ∧
  ∀ (H' : Hp) (q : Addr) (ts : List Addr), Same H H' → H q = none → H' q = some (.lst (ts.map V.ref)) → All2 (TripAt H') ts (trip 0 (best old room fs 0).way) → Q (.ref q) H'
section
variable {P : Program} {w : World} {K : PySem.W.Frag} {mg : Str → Option Value} {base : Heap} {CF CB CW CS aN : Addr}
theorem scFbox : FnScope ["self", "done", "passed", "goal", "end", "at", "cost"] ["self", "done", "passed"] (defScope sFbox) := ⟨rfl, rfl, rfl, by decide +kernel, rfl, by decide +kernel, by decide +kernel⟩
theorem ok_Fbox (D : DefM K CW "first_box" "Ways.first_box" sFbox ["self", "done", "passed"]) (T : Txt K mg CF CB CW CS aN) (C1 : CalM P w K mg base 1 CW "cost_of_old" ["self", "at", "begin", "end"] (spOldC CW CB)) (C2 : CalM P w K mg base 1 CW "cost_of_new" ["self", "begin", "end"] (spNewC CW CB)) :
    CalM P w K mg base 2 CW "first_box" ["self", "done", "passed"] (spFbox CW CB) := by
  obtain ⟨f1, fd1, G1, m1, b1⟩ := C1
  obtain ⟨f2, fd2, G2, m2, b2⟩ := C2
  refine D.cal fun f fd F => F.ok scFbox (fun vs H Q E h => ?_) (fun cdv A outer s H vs Q E hr h => ?_)
  · obtain ⟨a, cd, d, p, room, old, fs, kvs, rfl, _⟩ := h
    rfl
  · obtain ⟨a, cd, d, p, room, old, fs, kvs, rfl, W, hd, hp, q⟩ := h
    obtain ⟨⟨nl, bl, el, kl, wl, dx, as, ws, O⟩, hcd, hF, hfl, hol, hA⟩ := W
    have hu := hu_of hr
    obtain ⟨uB, mB, rB⟩ := T.cBOX
    refine ⟨_, pss_cons (ps_set (i := 3) scFbox.nd rfl (Or.inl rfl) (pe_dget hu (pe_fn (pv 0)) (pe_tup (pa_cons (pv 1) (pa_cons (pv 2) pa_nil))) (fun _ _ => rfl)))
      (pss_cons (ps_for PassesOwn.never rfl (pi_revR (by rfl) T.reversed (prg_2 (by rfl) T.range (pe_op op_add (pv 1) pe_int) (pe_op op_add (pe_ix ix_list (pe_fn (pv 0)) (pv 1) (fun _ _ => rfl)) pe_int))) (pg_name (i := 4) scFbox.nd rfl (Or.inl rfl))
        (pss_cons (ps_for PassesOwn.never rfl (pi_range2 (by rfl) T.range (pa_cons (pv 2) (pa_cons (pe_callB call_len_seq (by rfl) T.len PySem.boot_len (pa_cons (pe_fn (pv 0)) pa_nil)) pa_nil))) (pg_name (i := 5) scFbox.nd rfl (Or.inl rfl))
          (pss_cons (ps_set (i := 6) scFbox.nd rfl (Or.inl rfl) (pe_op op_add (pe_op op_add (pe_op op_mul (pe_glob rfl mB rB) (pe_op op_sub (pv 5) (pv 2)))
              (pe_meth (pv 0) T.clW m1 G1 hr b1 .nil pass0 (pa_cons (pv 5) (pa_cons (pv 1) (pa_cons (pv 4) pa_nil))))) (pe_dget hu (pe_fn (pv 0)) (pe_tup (pa_cons (pv 4) (pa_cons (pe_op op_add (pv 5) pe_int) pa_nil))) (fun _ _ => rfl))))
          (pss_one (ps_if (pt_cmpR op_eq (pv 6) (pv 3) (nomark _)) (pss_one (ps_ret (pe_tup (pa_cons (pv 4) (pa_cons (pv 5) pa_nil))))) pss_nil))))
        (pss_one (ps_if (pt_cmpR op_eq (pe_op op_add (pe_meth (pv 0) T.clW m2 G2 hr b2 .nil pass0 (pa_cons (pv 1) (pa_cons (pv 4) pa_nil))) (pe_dget hu (pe_fn (pv 0)) (pe_tup (pa_cons (pv 4) (pa_cons (pv 2) pa_nil))) (fun _ _ => rfl))) (pv 3) (nomark _))
          (pss_one (ps_ret (pe_tup (pa_cons (pv 4) (pa_cons pe_non pa_nil))))) pss_nil))))
      (pss_one (ps_ret (pe_tup (pa_cons (pe_op op_add (pv 1) pe_int) (pa_cons pe_non pa_nil)))))), ?_⟩
    have rlen : (row old).length = old.length := by unfold row; rw [List.length_map]
    have hne : fs.drop d ≠ [] := by
      intro z
      have := congrArg List.length z
      rw [List.length_drop] at this
      simp at this
      omega
    obtain ⟨i0, k0, h1, h2, h3, h4, h5, h6⟩ := first_box (old := old) (hF.drop d) hne (by rw [List.length_drop]; omega) hp
    have hKl : d + fit room (fs.drop d) ≤ fs.length := fit_drop_le room fs d (Nat.le_of_lt hd)
    have hends := ends_at (room := room) hd
    generalize hKK : fit room (fs.drop d) = KK at h2 h6 hKl hends
    have dd : ∀ k, (fs.drop d).drop k = fs.drop (d + k) := fun k => by rw [List.drop_drop]
    rw [dd] at h4
    -- goal
    refine ⟨_, rfl, a, CW, dx, _, _, rfl, O.ob, T.clW, T.nW6, fW_costs, _, rfl, _, rfl, (by show 2 ≤ sizeLine; decide), fun t0 ht0 => ?_⟩
    have s1 : Same H (upd H t0 (.tup [nI d, nI p])) := Same.new ht0
    refine ⟨cd, _, rfl, dget_t (s1 _ _ hcd) (hA d p (Nat.le_of_lt hd) hp) upd_same, ?_⟩
    generalize upd H t0 (.tup [nI d, nI p]) = H1 at s1
    have O1 := O.same s1
    -- for end in reversed(range(..))
    refine ⟨_, rfl, _, _, rfl, rfl, _, rfl, a, CW, dx, _, _, rfl, O1.ob, T.clW, T.nW3, fW_ends, _, rfl, el, _, _, _, rfl, rfl, SqL.of O1.el, hends, _, _, rfl, rfl, _, _, rfl, rfl, by omega, by omega, by omega, by omega, ?_⟩
    have en : (((d + KK : Nat) : Int) + 1 - ((d : Int) + 1)).toNat = KK := by omega
    rw [en]
    refine for_it walk_rangeC (fun r σ H2 => ∃ (ve va vc : Option V), σ = [some (.ref a), some (nI d), some (nI p), some (nI (kst old room (fs.drop d) p)), ve, va, vc] ∧ Same H H2 ∧ k0 ≤ KK - r)
      ⟨none, none, none, rfl, s1, h2⟩ (fun _ _ _ _ _ => trivial) ?_ ?_
    · rintro r x σ H2 H3 hr' ⟨ve, va, vc, rfl, s2, hk0⟩ ⟨rfl, rfl⟩
      generalize hkk : KK - r = kk at hk0
      have hkk1 : 1 ≤ kk := by omega
      have ex : ((d : Int) + 1 + ((KK : Nat) : Int) - 1 + (r : Int) * (-1)) = ((d + kk : Nat) : Int) := by omega
      show gName 4 (V.int ((d : Int) + 1 + ((KK : Nat) : Int) - 1 + (r : Int) * (-1))) _ _ _
      rw [ex]
      have O3 := O.same s2
      have hkd : d + kk ≤ fs.length := by omega
      have esl : slice fs d (d + kk) = (fs.drop d).take kk := slice_take fs d kk
      refine ⟨_, rfl, _, rfl, a, CW, dx, _, _, rfl, O3.ob, T.clW, T.nW2, fW_boxes, bl, _, rfl, .inl (SqL.of O3.bl), _, _, rfl, ?_⟩
      rw [List.length_map, O.rows.1, rlen]
      refine ⟨⟨by omega, by omega, by omega, by omega⟩, ?_⟩
      have en2 : ((old.length : Int) - (p : Int)).toNat = old.length - p := by omega
      rw [en2]
      refine for_it walk_range (fun j σ H4 => ∃ (va vc : Option V), σ = [some (.ref a), some (nI d), some (nI p), some (nI (kst old room (fs.drop d) p)), some (nI (d + kk)), va, vc] ∧ Same H H4 ∧ (kk = k0 → ∀ a0, i0 = some a0 → p + j ≤ a0))
        ⟨va, vc, rfl, s2, fun _ a0 e => (h3 a0 e).1⟩ (fun _ _ _ _ _ => trivial) ?_ ?_
      · rintro j x σ H4 H5 hj ⟨va, vc, rfl, s4, hj0⟩ ⟨rfl, rfl⟩
        have hat : p + j < old.length := by omega
        have O5 := O.same s4
        have hcd5 := s4 _ _ hcd
        refine ⟨_, rfl, _, rfl, _, _, rfl, rfl, _, _, rfl, rfl, .inl ⟨by decide, by decide⟩, ?_⟩
        refine ⟨_, rfl, a, dx, _, rfl, O5.ob, fW_not (by decide +kernel) (by decide +kernel) (by decide +kernel) (by decide +kernel) (by decide +kernel) (by decide +kernel), _, rfl, _, rfl, _, rfl, a, cd, p + j, d, d + kk, room, old, fs, rfl, ⟨_, _, _, _, _, _, _, _, O5⟩, hat, by omega, hkd, fun H6 s6 => ?_⟩
        have O6 := O5.same s6
        refine ⟨_, _, rfl, rfl, ?_⟩
        refine ⟨_, rfl, a, CW, dx, _, _, rfl, O6.ob, T.clW, T.nW6, fW_costs, _, rfl, _, rfl, _, _, rfl, rfl, (by show 2 ≤ sizeLine; decide), fun t1 ht1 => ?_⟩
        have s7 : Same H6 (upd H6 t1 (.tup [nI (d + kk), V.int ((p : Int) + (j : Int) + 1)])) := Same.new ht1
        refine ⟨cd, _, rfl, dget_t (e := d + kk) (p := p + j + 1) (s7 _ _ (s6 _ _ hcd5)) (hA (d + kk) (p + j + 1) hkd (by omega)) upd_same, _, _, rfl, rfl, ?_⟩
        have s8 := (s4.trans s6).trans s7
        have s58 := s6.trans s7
        generalize upd H6 t1 (.tup [nI (d + kk), V.int ((p : Int) + (j : Int) + 1)]) = H7 at s7 s8 s58
        -- if cost == goal
        have eo : (1000 * (((p : Int) + (j : Int)) - (p : Int)) + ((costOld old (p + j) (slice fs d (d + kk)) : Nat) : Int)) + ((kst old room (fs.drop (d + kk)) (p + j + 1) : Nat) : Int) = ((optK old room (fs.drop d) p (some (p + j)) kk : Nat) : Int) := by
          unfold optK
          simp only
          rw [dd, esl, show p + j - p = j by omega]
          omega
        refine ⟨_, rfl, _, rfl, rfl, _, rfl, ?_⟩
        have eo2 : V.int ((1000 * (((p : Int) + (j : Int)) - (p : Int)) + ((costOld old (p + j) (slice fs d (d + kk)) : Nat) : Int)) + ((kst old room (fs.drop (d + kk)) (p + j + 1) : Nat) : Int)) = nI (optK old room (fs.drop d) p (some (p + j)) kk) := by rw [eo]
        by_cases c : optK old room (fs.drop d) p (some (p + j)) kk = kst old room (fs.drop d) p
        · refine if_t (decide_eq_true (eo2.trans (by rw [c]))) ?_
          have hk : k0 = kk := by
            apply Classical.byContradiction
            intro z
            exact h6 (some (p + j)) kk hkk1 (by omega) (fun b e => by cases e; omega) (.inl (by omega)) c
          have hi : i0 = some (p + j) := by
            apply oLt_total
            · intro z
              cases hi0 : i0 with
              | none => rw [hi0] at z; exact z
              | some a0 =>
                rw [hi0] at z
                have := hj0 hk.symm a0 hi0
                have z : a0 < p + j := z
                omega
            · intro z
              exact h6 (some (p + j)) kk hkk1 (by omega) (fun b e => by cases e; omega) (.inr ⟨hk.symm, z⟩) c
          refine ⟨_, rfl, _, rfl, (by show 2 ≤ sizeLine; decide), fun t2 ht2 => ?_⟩
          refine q _ t2 (some (p + j)) kk (s8.trans (Same.new ht2)) (s8.free ht2) hkk1 hkd (fun b e => by cases e; omega) ?_ upd_same
          rw [hk, hi] at h4
          exact h4
        · refine if_f (decide_eq_false fun z => c ?_) ?_
          · have z2 := eo2.symm.trans z
            have z3 := V.int.inj z2
            omega
          · refine ⟨_, _, rfl, s8, fun e a0 ea => ?_⟩
            have h7 := hj0 e a0 ea
            have : a0 ≠ p + j := fun z => by
              subst z
              rw [ea, ← e] at h5
              exact c h5
            omega
      · rintro σ H4 ⟨va, vc, rfl, s4, hj0⟩
        have O5 := O.same s4
        have hcd5 := s4 _ _ hcd
        refine ⟨_, rfl, a, dx, _, rfl, O5.ob, fW_not (by decide +kernel) (by decide +kernel) (by decide +kernel) (by decide +kernel) (by decide +kernel) (by decide +kernel), _, rfl, _, rfl, a, cd, d, d + kk, room, old, fs, rfl, ⟨_, _, _, _, _, _, _, _, O5⟩, by omega, hkd, ?_⟩
        refine ⟨_, rfl, a, CW, dx, _, _, rfl, O5.ob, T.clW, T.nW6, fW_costs, _, rfl, _, rfl, (by show 2 ≤ sizeLine; decide), fun t1 ht1 => ?_⟩
        have s7 : Same H4 (upd H4 t1 (.tup [nI (d + kk), nI p])) := Same.new ht1
        refine ⟨cd, _, rfl, dget_t (s7 _ _ hcd5) (hA (d + kk) p hkd hp) upd_same, _, _, rfl, rfl, _, rfl, rfl, _, rfl, ?_⟩
        have s8 := s4.trans s7
        generalize upd H4 t1 (.tup [nI (d + kk), nI p]) = H7 at s7 s8
        have eo : ((costNew old (slice fs d (d + kk)) : Nat) : Int) + ((kst old room (fs.drop (d + kk)) p : Nat) : Int) = ((optK old room (fs.drop d) p none kk : Nat) : Int) := by
          unfold optK
          simp only
          rw [dd, esl]
          omega
        have eo2 : V.int (((costNew old (slice fs d (d + kk)) : Nat) : Int) + ((kst old room (fs.drop (d + kk)) p : Nat) : Int)) = nI (optK old room (fs.drop d) p none kk) := by rw [eo]
        have hno : kk = k0 → i0 = none := by
          intro e
          cases hi0 : i0 with
          | none => rfl
          | some a0 =>
            have h7 := hj0 e a0 hi0
            have h8 := (h3 a0 hi0).2
            omega
        by_cases c : optK old room (fs.drop d) p none kk = kst old room (fs.drop d) p
        · refine if_t (decide_eq_true (eo2.trans (by rw [c]))) ?_
          have hk : k0 = kk := by
            apply Classical.byContradiction
            intro z
            exact h6 none kk hkk1 (by omega) (fun b e => by cases e) (.inl (by omega)) c
          have hi := hno hk.symm
          refine ⟨_, rfl, (by show 2 ≤ sizeLine; decide), fun t2 ht2 => ?_⟩
          refine q _ t2 none kk (s8.trans (Same.new ht2)) (s8.free ht2) hkk1 hkd (fun b e => by cases e) ?_ upd_same
          rw [hk, hi] at h4
          exact h4
        · refine if_f (decide_eq_false fun z => c ?_) ?_
          · have z2 := eo2.symm.trans z
            have z3 := V.int.inj z2
            omega
          · refine ⟨_, _, _, rfl, s8, ?_⟩
            have : k0 ≠ kk := fun z => by
              have hi := hno z.symm
              rw [hi, z] at h5
              exact c h5
            omega
    · rintro σ H2 ⟨ve, va, vc, rfl, s2, hk0⟩
      omega
/-! ### first -/
theorem scFirst : FnScope ["self", "found", "done", "passed", "end", "at"] ["self"] (defScope sFirst) := ⟨rfl, rfl, rfl, by decide +kernel, rfl, by decide +kernel, by decide +kernel⟩
theorem ok_First (D : DefM K CW "first" "Ways.first" sFirst ["self"]) (T : Txt K mg CF CB CW CS aN) (C1 : CalM P w K mg base 2 CW "first_box" ["self", "done", "passed"] (spFbox CW CB)) : CalM P w K mg base 3 CW "first" ["self"] (spFirst CW CB) := by
  obtain ⟨f1, fd1, G1, m1, b1⟩ := C1
  refine D.cal fun f fd F => F.ok scFirst (fun vs H Q E h => ?_) (fun cdv A outer s H vs Q E hr h => ?_)
  · obtain ⟨a, cd, room, old, fs, kvs, rfl, _⟩ := h
    rfl
  · obtain ⟨a, cd, room, old, fs, kvs, rfl, W, q⟩ := h
    refine ⟨_, pss_cons (ps_set (i := 1) scFirst.nd rfl (Or.inl rfl) (pe_lst pa_nil))
      (pss_cons (ps_set (i := 2) scFirst.nd rfl (Or.inl rfl) pe_int)
      (pss_cons (ps_set (i := 3) scFirst.nd rfl (Or.inl rfl) pe_int)
      (pss_cons (ps_while PassesOwn.never (pt_cmpR op_lt (pv 2) (pe_callB call_len_seq (by rfl) T.len PySem.boot_len (pa_cons (pe_fn (pv 0)) pa_nil)) (nomark _))
        (pss_cons (ps_asg (pe_meth (pv 0) T.clW m1 G1 hr b1 .nil pass0 (pa_cons (pv 2) (pa_cons (pv 3) pa_nil))) (pg_tup rfl (pgs_cons (pg_name (i := 4) scFirst.nd rfl (Or.inl rfl)) (pgs_cons (pg_name (i := 5) scFirst.nd rfl (Or.inl rfl)) pgs_nil))))
        (pss_cons (ps_expr (pe_bm PySem.F.plainAttrs_list PySem.F.slot_list_append PySem.F.type_list_append mt_append (pv 1) (pa_cons (pe_tup (pa_cons (pv 2) (pa_cons (pv 4) (pa_cons (pv 5) pa_nil)))) pa_nil)))
        (pss_cons (ps_set (i := 2) scFirst.nd rfl (Or.inl rfl) (pv 4))
        (pss_one (ps_if (pt_cmpR op_notN (pv 5) pe_non (nomark _)) (pss_one (ps_set (i := 3) scFirst.nd rfl (Or.inl rfl) (pe_op op_add (pv 5) pe_int))) pss_nil))))))
      (pss_one (ps_ret (pv 1)))))), ?_⟩
    have nlen : (BdBox.numbersOf fs).length = fs.length := by unfold BdBox.numbersOf; rw [List.length_map]
    refine ⟨Nat.zero_le _, fun p hp => ?_⟩
    have s0 : Same H (upd H p (.lst [])) := Same.new hp
    refine ⟨fun m σ H1 => ∃ (d pd : Nat) (ve va : Option V) (ts : List Addr) (tr : List Trip), σ = [some (.ref a), some (.ref p), some (nI d), some (nI pd), ve, va] ∧ Same H H1 ∧ H1 p = some (.lst (ts.map V.ref)) ∧ All2 (TripAt H1) ts tr ∧ d ≤ fs.length ∧ pd ≤ old.length ∧ trip 0 (best old room fs 0).way = tr ++ trip d (best old room (fs.drop d) pd).way ∧ m = fs.length - d ∧ ts.length ≤ d,
      ⟨_, 0, 0, none, none, [], [], rfl, s0, upd_same, All2.nil, Nat.zero_le _, Nat.zero_le _, rfl, rfl, Nat.zero_le _⟩, ?_⟩
    rintro m σ H1 ⟨d, pd, ve, va, ts, tr, rfl, s1, hp1, hT, hd, hpd, htr, rfl, hlen⟩
    have W1 := W.same s1
    obtain ⟨nl, bl, el, kl, wl, dx, as, ws, O⟩ := W1.at_
    refine ⟨_, rfl, _, rfl, a, CW, dx, _, _, rfl, O.ob, T.clW, T.nW1, fW_numbers, nl, _, rfl, .inl (SqL.of O.nl), _, _, rfl, rfl, _, rfl, ?_⟩
    rw [List.length_map, nlen]
    by_cases c : d < fs.length
    · refine if_t (decide_eq_true (by omega)) ?_
      refine ⟨_, fun σ' H' z => z, ?_⟩
      refine ⟨_, rfl, a, dx, _, rfl, O.ob, fW_not (by decide +kernel) (by decide +kernel) (by decide +kernel) (by decide +kernel) (by decide +kernel) (by decide +kernel), _, rfl, _, rfl, a, cd, d, pd, room, old, fs, kvs, rfl, W1, c, hpd, fun H2 t i k s2 ht hk1 hk2 hi hway hT2 => ?_⟩
      refine ⟨t, _, rfl, SqT.of hT2, rfl, _, _, rfl, _, _, rfl, rfl, ?_⟩
      have hp2 := s2 _ _ hp1
      refine ⟨_, rfl, .inl ⟨rfl, _, SqL.of hp2⟩, _, rfl, _, rfl, _, rfl, (by show 3 ≤ sizeLine; decide), fun t3 ht3 => ?_⟩
      have s3 : Same H2 (upd H2 t3 (.tup [nI d, nI (d + k), oV i])) := Same.new ht3
      refine ⟨p, _, _, rfl, rfl, s3 _ _ hp2, (by rw [List.length_map]; exact small (by have := W.fl; omega)), ?_⟩
      have hne3 : t3 ≠ p := (ne_of_none hp2 ht3).symm
      have s4 : Same H (upd (upd H2 t3 (.tup [nI d, nI (d + k), oV i])) p (.lst (ts.map V.ref ++ [V.ref t3]))) := ((s1.trans s2).trans s3).upd_free hp
      have hT4 : All2 (TripAt (upd (upd H2 t3 (.tup [nI d, nI (d + k), oV i])) p (.lst (ts.map V.ref ++ [V.ref t3])))) (ts ++ [t3]) (tr ++ [(d, d + k, i)]) := by
        refine All2.snoc (hT.imp fun u x _ _ r => ?_) ?_
        · show _ = _
          rw [upd_ne (ne_of (s3 _ _ (s2 _ _ r)) (s3 _ _ hp2) (by intro z; cases z))]
          exact s3 _ _ (s2 _ _ r)
        · show _ = _
          rw [upd_ne hne3, upd_same]
      have hp4 : (upd (upd H2 t3 (.tup [nI d, nI (d + k), oV i])) p (.lst (ts.map V.ref ++ [V.ref t3]))) p = some (.lst ((ts ++ [t3]).map V.ref)) := by
        rw [upd_same, List.map_append]
        rfl
      generalize (upd (upd H2 t3 (.tup [nI d, nI (d + k), oV i])) p (.lst (ts.map V.ref ++ [V.ref t3]))) = H4 at s4 hT4 hp4
      have htr4 : trip 0 (best old room fs 0).way = (tr ++ [(d, d + k, i)]) ++ trip (d + k) (best old room (fs.drop (d + k)) (nxt pd i)).way := by
        rw [htr, hway, List.append_assoc]
        have e : ((fs.drop d).take k).length = k := by rw [List.length_take, List.length_drop]; omega
        show tr ++ ((d, d + ((fs.drop d).take k).length, i) :: trip (d + ((fs.drop d).take k).length) _) = _
        rw [e]
        rfl
      refine ⟨_, rfl, ?_⟩
      refine ⟨_, rfl, rfl, _, rfl, ?_⟩
      have hlen4 : (ts ++ [t3]).length ≤ d + k := by rw [List.length_append, List.length_singleton]; omega
      cases i with
      | none =>
        refine if_f rfl ?_
        exact ⟨fs.length - (d + k), by omega, d + k, pd, _, _, ts ++ [t3], tr ++ [(d, d + k, none)], rfl, s4, hp4, hT4, hk2, hpd, htr4, rfl, hlen4⟩
      | some b =>
        refine if_t rfl ?_
        refine ⟨_, rfl, _, _, rfl, rfl, ?_⟩
        exact ⟨fs.length - (d + k), by omega, d + k, b + 1, _, _, ts ++ [t3], tr ++ [(d, d + k, some b)], rfl, s4, hp4, hT4, hk2, (hi b rfl).2, htr4, rfl, hlen4⟩
    · refine if_f (decide_eq_false (by omega)) ?_
      refine ⟨_, rfl, q H1 p ts s1 hp hp1 ?_⟩
      rw [htr, List.drop_eq_nil_of_le (by omega), best_nil pd hpd]
      show All2 (TripAt H1) ts (tr ++ [])
      rw [List.append_nil]
      exact hT
end
end BW

namespace BW
open PySem PySem.Spec PyProof.Rows L2 BX
def spWInit (CW CB : Addr) : Sp := fun vs H Q _ => ∃ (a nl tl bl dx : Addr) (room : Nat) (old : List BdBox.Box) (fs : List BdBox.BFile), vs = [.ref a, .ref nl, .ref tl, nI room, .ref bl] ∧ H a = some (.ins CW dx []) ∧
  H nl = some (.lst ((BdBox.numbersOf fs).map nI)) ∧ H tl = some (.lst ((fs.map fun f => f.thick).map nI)) ∧ RowAt CB H bl (row old) ∧ Fit room fs ∧ fs.length ≤ 100 ∧ old.length ≤ 100 ∧ Once old ∧ sumLen (row old) ≤ 1000 ∧
  ∀ (H' : Hp) (cd : Addr) (kvs : List (List Key × V)), But a H H' → WPre CW CB H' a cd old room fs kvs → Q .non H'
theorem But.keep {a b : Addr} {H H' : Hp} {o u : HO} (s : But a H H') (ha : H a = some u) (e : H b = some o) (ne : o ≠ u) : H' b = some o := s b o e (ne_of e ha ne)
theorem WObj.butT {CW CB : Addr} {H H' : Hp} {a : Addr} {old : List BdBox.Box} {room : Nat} {fs : List BdBox.BFile} {nl bl el kl wl cd dx : Addr} {as ws : List Addr} {kvs : List (List Key × V)} (s : But cd H H') (hc : H cd = some (.dT kvs)) (W : WObj CW CB H a old room fs nl bl el kl wl cd dx as ws) : WObj CW CB H' a old room fs nl bl el kl wl cd dx as ws := by
  refine ⟨s.keep hc W.ob (by intro z; cases z), s.keep hc W.nl (by intro z; cases z), s.keep hc W.bl (by intro z; cases z), W.rows.imp fun _ _ _ _ r => ?_, s.keep hc W.el (by intro z; cases z), s.keep hc W.kl (by intro z; cases z), s.keep hc W.wl (by intro z; cases z), W.win.imp fun _ _ _ _ r => s.keep hc r (by intro z; cases z)⟩
  obtain ⟨dy, k, e1, e2⟩ := r
  exact ⟨dy, k, s.keep hc e1 (by intro z; cases z), s.keep hc e2 (by intro z; cases z)⟩
theorem BoxAt.butI {CB CW a dx : Addr} {H H' : Hp} {c : Addr} {b : PB} {fs : List (Str × V)} (s : But a H H') (ha : H a = some (.ins CW dx fs)) (hn : ∀ n l, fB n l ≠ fs) (h : BoxAt CB H c b) : BoxAt CB H' c b := by
  obtain ⟨dy, k, e1, e2⟩ := h
  exact ⟨dy, k, s.keep ha e1 (fun z => hn _ _ (HO.ins.inj z).2.2), s.keep ha e2 (by intro z; cases z)⟩
theorem ne_pre (bs : List Bool) (ws : List Addr) : (pre bs).map nI ≠ ws.map V.ref := by
  intro h
  have h0 : ((pre bs).map nI)[0]? = (ws.map V.ref)[0]? := by rw [h]
  rw [List.getElem?_map, pre_get bs (Nat.zero_le _), List.getElem?_map] at h0
  cases e : ws[0]? with
  | none => rw [e] at h0; cases h0
  | some c => rw [e] at h0; cases h0
section
variable {P : Program} {w : World} {K : PySem.W.Frag} {mg : Str → Option Value} {base : Heap} {CF CB CW CS aN : Addr}
theorem scWInit : FnScope ["self", "numbers", "thicks", "room", "boxes", "places", "done", "passed", "i", "number", "at"] ["self", "numbers", "thicks", "room", "boxes"] (defScope sWInit) := ⟨rfl, rfl, rfl, by decide +kernel, rfl, by decide +kernel, by decide +kernel⟩
abbrev nmW : List Str := ["self", "numbers", "thicks", "room", "boxes", "places", "done", "passed", "i", "number", "at"]
theorem ok_WInit (D : DefI K mg CW "Ways" "Ways.__init__" sWInit ["self", "numbers", "thicks", "room", "boxes"]) (T : Txt K mg CF CB CW CS aN)
    (C1 : CalM P w K mg base 1 CW "last_end" ["self", "begin", "thicks", "room"] spLast) (C2 : CalF P w K mg base 1 "place_by_file" ["boxes"] (spPlace CB)) (C3 : CalF P w K mg base 1 "sums_of" ["truths"] spSums)
    (C4 : CalM P w K mg base 2 CW "least" ["self", "done", "passed"] (spLeast CW CB)) : CalI P w K mg base 3 CW "Ways" ["self", "numbers", "thicks", "room", "boxes"] (spWInit CW CB) := by
  obtain ⟨f1, fd1, G1, m1, b1⟩ := C1
  obtain ⟨f2, fd2, G2, g2, k2, b2⟩ := C2
  obtain ⟨f3, fd3, G3, g3, k3, b3⟩ := C3
  obtain ⟨f4, fd4, G4, m4, b4⟩ := C4
  refine D.cal fun f fd F => F.ok scWInit (fun vs H Q E h => ?_) (fun cdv A outer s H vs Q E hr h => ?_)
  · obtain ⟨a, nl, tl, bl, dx, room, old, fs, rfl, _⟩ := h
    rfl
  · obtain ⟨a, nl, tl, bl, dx, room, old, fs, rfl, ha, hnl, htl, ⟨as, hbl, hrows⟩, hF, hfl, hol, honce, hsm, q⟩ := h
    have hu := hu_of hr
    have hr1 : Room 1 (A.deeper (envOfC "Ways.__init__" (defScope sWInit) s.heap.objs.size f cdv)) := hr.mono (by decide)
    refine ⟨_, pss_cons (ps_fld (pv 0) (pv 1) rfl)
      (pss_cons (ps_fld (pv 0) (pv 4) rfl)
      (pss_cons (ps_fld (pv 0) (pe_lc (own := [("i", 8)]) (g := gName 8) (by rfl) scWInit.nd (pi_range1 (by rfl) T.range (pa_cons (pe_callB call_len_seq (by rfl) T.len PySem.boot_len (pa_cons (pv 1) pa_nil)) pa_nil)) (blkOk_by (own := [("i", 8)]) (N := nmW) (sc := defScope sWInit) (by decide +kernel))
            (fun _ _ _ _ _ => pg_name (i := 8) scWInit.nd rfl (Or.inl rfl)) (fun _ _ _ _ _ => pts_nil)
            (fun _ _ _ _ _ => by exact pe_meth (pv 0) T.clW m1 G1 hr1 b1 .nil pass0 (pa_cons (pv 8) (pa_cons (pv 2) (pa_cons (pv 3) pa_nil))))) rfl)
      (pss_cons (ps_set (i := 5) scWInit.nd rfl (Or.inr rfl) (pe_call G2 hr1 (by rfl) g2 k2 b2 .nil pass0 (pa_cons (pv 4) pa_nil)))
      (pss_cons (ps_fld (pv 0) (pe_call G3 hr1 (by rfl) g3 k3 b3 .nil pass0 (pa_cons
          (pe_lc (own := [("number", 9)]) (g := gName 9) (by rfl) scWInit.nd (pi_list (pv 1)) (blkOk_by (own := [("number", 9)]) (N := nmW) (sc := defScope sWInit) (by decide +kernel))
            (fun _ _ _ _ _ => pg_name (i := 9) scWInit.nd rfl (Or.inl rfl)) (fun _ _ _ _ _ => pts_nil)
            (fun _ _ _ _ _ => by exact pe_cmp (pc_din hu (pv 9) (pv 5)) rfl)) pa_nil)) rfl)
      (pss_cons (ps_fld (pv 0) (pe_lc (own := [("at", 10)]) (g := gName 10) (by rfl) scWInit.nd (pi_range1 (by rfl) T.range (pa_cons (pe_callB call_len_seq (by rfl) T.len PySem.boot_len (pa_cons (pv 4) pa_nil)) pa_nil)) (blkOk_by (own := [("at", 10)]) (N := nmW) (sc := defScope sWInit) (by decide +kernel))
            (fun _ _ _ _ _ => pg_name (i := 10) scWInit.nd rfl (Or.inr rfl)) (fun _ _ _ _ _ => pts_nil)
            (fun _ _ _ _ _ => by exact pe_call G3 hr1 (by rfl) g3 k3 b3 .nil pass0 (pa_cons
              (pe_lc (own := [("number", 9)]) (g := gName 9) (by rfl) scWInit.nd (show PI _ _ _ (iList K (tVar 1)) from pi_list (pv 1)) (by exact blkOk_by (by kernel_rfl))
                (fun _ _ _ _ _ => pg_name (i := 9) scWInit.nd rfl (Or.inl rfl)) (fun _ _ _ _ _ => pts_nil)
                (fun _ _ _ _ _ => by exact pe_cmpR op_eq (pe_dget1 hu (pv 5) (pv 9) ⟨rfl, rfl, rfl, rfl⟩) (pv 10) (nomark _))) pa_nil))) rfl)
      (pss_cons (ps_fld (pv 0) pe_dnewT rfl)
      (pss_one (ps_for PassesOwn.never rfl (pi_revR (by rfl) T.reversed (prg_1 (by rfl) T.range (pe_op op_add (pe_callB call_len_seq (by rfl) T.len PySem.boot_len (pa_cons (pv 1) pa_nil)) pe_int))) (pg_name (i := 6) scWInit.nd rfl (Or.inl rfl))
        (pss_one (ps_for PassesOwn.never rfl (pi_revR (by rfl) T.reversed (prg_1 (by rfl) T.range (pe_op op_add (pe_callB call_len_seq (by rfl) T.len PySem.boot_len (pa_cons (pv 4) pa_nil)) pe_int))) (pg_name (i := 7) scWInit.nd rfl (Or.inl rfl))
          (pss_one (ps_dput hu (pe_fn (pv 0)) (pe_tup (pa_cons (pv 6) (pa_cons (pv 7) pa_nil))) (pe_meth (pv 0) T.clW m4 G4 hr b4 .nil pass0 (pa_cons (pv 6) (pa_cons (pv 7) pa_nil))) rfl)))))))))))), ?_⟩
    have nlen : (BdBox.numbersOf fs).length = fs.length := by unfold BdBox.numbersOf; rw [List.length_map]
    have rlen : (row old).length = old.length := by unfold row; rw [List.length_map]
    have n1 : ∀ l : Addr, H l = some (.lst ((BdBox.numbersOf fs).map nI)) → l ≠ a := fun l e => ne_of e ha (by intro z; cases z)
    -- self.numbers, self.boxes
    refine ⟨_, rfl, _, rfl, a, CW, dx, [], rfl, ha, T.clW, T.nW1, (by show 0 < 1000; decide), ?_⟩
    refine ⟨_, rfl, _, rfl, a, CW, dx, _, rfl, upd_same, T.clW, T.nW2, (by show 1 < 1000; decide), ?_⟩
    have B2 : But a H (upd (upd H a (.ins CW dx (putF "numbers" (.ref nl) []))) a (.ins CW dx (putF "boxes" (.ref bl) (putF "numbers" (.ref nl) [])))) := But.upd.trans But.upd
    have a2 : (upd (upd H a (.ins CW dx (putF "numbers" (.ref nl) []))) a (.ins CW dx (putF "boxes" (.ref bl) (putF "numbers" (.ref nl) [])))) a = some (.ins CW dx [("numbers", .ref nl), ("boxes", .ref bl)]) := by
      rw [upd_same]
      exact congrArg (fun l => some (HO.ins CW dx l)) ((put_past (by decide +kernel)).trans rfl)
    generalize (upd (upd H a (.ins CW dx (putF "numbers" (.ref nl) []))) a (.ins CW dx (putF "boxes" (.ref bl) (putF "numbers" (.ref nl) [])))) = H2 at B2 a2
    have nl2 := B2.keep ha hnl (by intro z; cases z)
    have tl2 := B2.keep ha htl (by intro z; cases z)
    have bl2 := B2.keep ha hbl (by intro z; cases z)
    have rows2 : All2 (BoxAt CB H2) as (row old) := hrows.imp fun _ _ _ _ r => r.butI B2 ha (by intro n l z; cases z)
    -- self.ends
    refine ⟨_, rfl, nl, _, rfl, .inl (SqL.of nl2), _, rfl, ?_⟩
    rw [List.length_map, nlen]
    refine ⟨by omega, by omega, fun el0 hel0 => ?_⟩
    have etn : ((fs.length : Int)).toNat = fs.length := by omega
    rw [etn]
    have sE : Same H2 (upd H2 el0 (.lst [])) := Same.new hel0
    refine lc_it walk_range (fun i H3 => Same H2 H3 ∧ H3 el0 = some (.lst (((List.range i).map fun t => t + fit room (fs.drop t)).map nI))) ⟨sE, upd_same⟩ (fun _ _ _ _ => trivial) ?_ ?_
    · rintro i x H3 H4 hi ⟨s3, he3⟩ ⟨rfl, rfl⟩
      refine ⟨rfl, yes_if ?_⟩
      refine ⟨_, rfl, a, dx, _, rfl, s3 _ _ a2, (lk_past (by decide +kernel)).trans ((lk_past (by decide +kernel)).trans rfl), _, rfl, _, rfl, _, rfl, .ref a, i, room, tl, fs.map (fun f => f.thick), ?_, s3 _ _ tl2, (by rw [List.length_map]; omega), _, he3, ?_, s3.upd_free hel0, ?_⟩
      · have e0 : (0 : Int) + (i : Int) = (i : Int) := by omega
        show [V.ref a, V.int ((0 : Int) + (i : Int)), V.ref tl, nI room] = _
        rw [e0]
      · rw [List.length_map, List.length_map, List.length_range]
        exact small (by omega)
      · rw [upd_same, List.range_succ, List.map_append, List.map_append, ← List.map_drop, fitN_eq]
        rfl
    rintro H3 ⟨s3, he3⟩
    have elE : H3 el0 = some (.lst ((endsOf room fs).map nI)) := he3
    have a3 := s3 _ _ a2
    refine ⟨_, rfl, a, CW, dx, _, rfl, a3, T.clW, T.nW3, (by show 2 < 1000; decide), ?_⟩
    have B4 : But a H2 (upd H3 a (.ins CW dx (putF "ends" (.ref el0) [("numbers", .ref nl), ("boxes", .ref bl)]))) := s3.but.trans But.upd
    have a4 : (upd H3 a (.ins CW dx (putF "ends" (.ref el0) [("numbers", .ref nl), ("boxes", .ref bl)]))) a = some (.ins CW dx [("numbers", .ref nl), ("boxes", .ref bl), ("ends", .ref el0)]) := by
      rw [upd_same]
      exact congrArg (fun l => some (HO.ins CW dx l)) ((put_past (by decide +kernel)).trans (congrArg _ ((put_past (by decide +kernel)).trans rfl)))
    have el4 : (upd H3 a (.ins CW dx (putF "ends" (.ref el0) [("numbers", .ref nl), ("boxes", .ref bl)]))) el0 = some (.lst ((endsOf room fs).map nI)) := by
      rw [upd_ne (ne_of elE a3 (by intro z; cases z))]
      exact elE
    generalize (upd H3 a (.ins CW dx (putF "ends" (.ref el0) [("numbers", .ref nl), ("boxes", .ref bl)]))) = H4 at B4 a4 el4
    have nl4 := B4.keep a2 nl2 (by intro z; cases z)
    have bl4 := B4.keep a2 bl2 (by intro z; cases z)
    have rows4 : All2 (BoxAt CB H4) as (row old) := rows2.imp fun _ _ _ _ r => r.butI B4 a2 (by intro n l z; simp [fB] at z)
    have C4 : But a H H4 := B2.trans B4
    -- places
    refine ⟨_, rfl, bl, row old, rfl, ⟨as, bl4, rows4⟩, hsm, fun H5 pd pk s5 hpd0 hpd hpk => ?_⟩
    have hplace : ∀ n : Nat, valV pk (nK n) = (BdBox.boxOf old n).map nI := by
      intro n
      rw [hpk n, lk_place 0 honce]
      cases BdBox.boxOf old n <;> simp
    -- self.known
    have nl5 := s5 _ _ nl4
    refine ⟨_, rfl, nl, rfl, ⟨_, SqL.of nl5⟩, fun D5 hD5 => ?_⟩
    refine lc_it (walk_list (xs := (BdBox.numbersOf fs).map nI)) (fun i H6 => Same H5 H6 ∧ H6 D5 = some (.lst (((knownB old fs).take i).map V.bl))) ⟨Same.new hD5, upd_same⟩ (fun _ _ _ ⟨s6, _⟩ => SqL.of (s6 _ _ nl5)) ?_ ?_
    · rintro i x H6 H7 hi ⟨s6, he6⟩ ⟨rfl, hx⟩
      obtain ⟨n, hn, rfl⟩ := get_nI hx
      have hil := lt_of_get hn
      obtain ⟨bf, hbf, rfl⟩ : ∃ bf, fs[i]? = some bf ∧ n = bf.number := by
        unfold BdBox.numbersOf at hn
        rw [List.getElem?_map] at hn
        cases e : fs[i]? with
        | none => rw [e] at hn; cases hn
        | some bf => rw [e] at hn; exact ⟨bf, rfl, (Option.some.inj hn).symm⟩
      refine ⟨rfl, yes_if ?_⟩
      refine ⟨_, rfl, _, rfl, pd, _, rfl, DGet.k (k := nK bf.number) (s6 _ _ hpd), _, he6, ?_, s6.upd_free hD5, ?_⟩
      · rw [List.length_map, List.length_take]
        exact small (by omega)
      · have hkb : (knownB old fs)[i]? = some (BdBox.boxOf old bf.number).isSome := by unfold knownB; rw [List.getElem?_map, hbf]; rfl
        rw [upd_same, take_snoc hkb, List.map_append, hplace]
        cases BdBox.boxOf old bf.number <;> rfl
    rintro H6 ⟨s6, he6⟩
    rw [List.length_map, nlen, List.take_of_length_le (by rw [knownB_len]; exact Nat.le_refl _)] at he6
    refine ⟨D5, knownB old fs, rfl, he6, (by rw [knownB_len]; omega), fun H7 kl s7 hkl0 hkl => ?_⟩
    have s47 := (s5.trans s6).trans s7
    have a7 := s47 _ _ a4
    refine ⟨_, rfl, a, CW, dx, _, rfl, a7, T.clW, T.nW4, (by show 3 < 1000; decide), ?_⟩
    have B8 : But a H4 (upd H7 a (.ins CW dx (putF "known" (.ref kl) [("numbers", .ref nl), ("boxes", .ref bl), ("ends", .ref el0)]))) := s47.but.trans But.upd
    have a8 : (upd H7 a (.ins CW dx (putF "known" (.ref kl) [("numbers", .ref nl), ("boxes", .ref bl), ("ends", .ref el0)]))) a = some (.ins CW dx [("numbers", .ref nl), ("boxes", .ref bl), ("ends", .ref el0), ("known", .ref kl)]) := by
      rw [upd_same]
      exact congrArg (fun l => some (HO.ins CW dx l)) ((put_past (by decide +kernel)).trans (congrArg _ ((put_past (by decide +kernel)).trans (congrArg _ ((put_past (by decide +kernel)).trans rfl)))))
    have kl8 : (upd H7 a (.ins CW dx (putF "known" (.ref kl) [("numbers", .ref nl), ("boxes", .ref bl), ("ends", .ref el0)]))) kl = some (.lst ((pre (knownB old fs)).map nI)) := by
      rw [upd_ne (ne_of hkl a7 (by intro z; cases z))]
      exact hkl
    have pd8 : (upd H7 a (.ins CW dx (putF "known" (.ref kl) [("numbers", .ref nl), ("boxes", .ref bl), ("ends", .ref el0)]))) pd = some (.dK pk) := by
      have e := (s6.trans s7) _ _ hpd
      rw [upd_ne (ne_of e a7 (by intro z; cases z))]
      exact e
    generalize (upd H7 a (.ins CW dx (putF "known" (.ref kl) [("numbers", .ref nl), ("boxes", .ref bl), ("ends", .ref el0)]))) = H8 at B8 a8 kl8 pd8
    have nl8 := B8.keep a4 nl4 (by intro z; cases z)
    have bl8 := B8.keep a4 bl4 (by intro z; cases z)
    have el8 := B8.keep a4 el4 (by intro z; cases z)
    have rows8 : All2 (BoxAt CB H8) as (row old) := rows4.imp fun _ _ _ _ r => r.butI B8 a4 (by intro n l z; simp [fB] at z)
    have C8 : But a H H8 := C4.trans B8
    -- self.within
    refine ⟨_, rfl, bl, _, rfl, .inl (SqL.of bl8), _, rfl, ?_⟩
    rw [List.length_map, hrows.1, rlen]
    refine ⟨by omega, by omega, fun wl hwl0 => ?_⟩
    have etm : ((old.length : Int)).toNat = old.length := by omega
    rw [etm]
    refine lc_it walk_range (fun i H9 => ∃ ws : List Addr, Same H8 H9 ∧ H9 wl = some (.lst (ws.map V.ref)) ∧ All2 (fun c k => H9 c = some (.lst ((pre (withinB old fs k)).map nI))) ws (List.range i)) ⟨[], Same.new hwl0, upd_same, All2.nil⟩ (fun _ _ _ _ => trivial) ?_ ?_
    · rintro i x H9 H10 hi ⟨ws, s9, hw9, hA9⟩ ⟨rfl, rfl⟩
      have e0 : (0 : Int) + (i : Int) = (i : Int) := by omega
      refine ⟨rfl, yes_if ?_⟩
      have nl10 := s9 _ _ nl8
      have pd10 := s9 _ _ pd8
      refine ⟨_, rfl, nl, rfl, ⟨_, SqL.of nl10⟩, fun D10 hD10 => ?_⟩
      refine lc_it (walk_list (xs := (BdBox.numbersOf fs).map nI)) (fun j H11 => Same H10 H11 ∧ H11 D10 = some (.lst (((withinB old fs i).take j).map V.bl))) ⟨Same.new hD10, upd_same⟩ (fun _ _ _ ⟨s11, _⟩ => SqL.of (s11 _ _ nl10)) ?_ ?_
      · rintro j x H11 H12 hj ⟨s11, he11⟩ ⟨rfl, hx⟩
        obtain ⟨n, hn, rfl⟩ := get_nI hx
        have hil := lt_of_get hn
        obtain ⟨bf, hbf, rfl⟩ : ∃ bf, fs[j]? = some bf ∧ n = bf.number := by
          unfold BdBox.numbersOf at hn
          rw [List.getElem?_map] at hn
          cases e : fs[j]? with
          | none => rw [e] at hn; cases hn
          | some bf => rw [e] at hn; exact ⟨bf, rfl, (Option.some.inj hn).symm⟩
        refine ⟨rfl, yes_if ?_⟩
        refine ⟨_, rfl, pd, rfl, .inl ⟨_, .inl (s11 _ _ pd10)⟩, _, rfl, _, DGet.k (k := nK bf.number) (s11 _ _ pd10), _, rfl, ?_⟩
        have hkb : (withinB old fs i)[j]? = some (decide (BdBox.boxOf old bf.number = some i)) := by unfold withinB; rw [List.getElem?_map, hbf]; rfl
        rw [hplace]
        refine ⟨by cases BdBox.boxOf old bf.number <;> rfl, _, he11, ?_, s11.upd_free hD10, ?_⟩
        · rw [List.length_map, List.length_take]
          exact small (by omega)
        · rw [upd_same, take_snoc hkb, List.map_append]
          have ed : decide (((BdBox.boxOf old bf.number).map nI).getD V.non = V.int ((0 : Int) + (i : Int))) = decide (BdBox.boxOf old bf.number = some i) := by
            rw [e0]
            cases BdBox.boxOf old bf.number with
            | none => rfl
            | some k =>
              rw [decide_eq_decide]
              show V.int (k : Int) = V.int (i : Int) ↔ some k = some i
              constructor
              · intro z; have := V.int.inj z; congr 1; omega
              · intro z; have := Option.some.inj z; rw [this]
          rw [ed]
          rfl
      · rintro H11 ⟨s11, he11⟩
        rw [List.length_map, nlen, List.take_of_length_le (by rw [withinB_len]; exact Nat.le_refl _)] at he11
        refine ⟨D10, withinB old fs i, rfl, he11, (by rw [withinB_len]; omega), fun H12 c s12 hc0 hc => ?_⟩
        have s1012 := s11.trans s12
        have hwl12 := s1012 _ _ hw9
        have hcl : c ≠ wl := by
          intro z
          subst z
          exact absurd (s11 _ _ hw9) (by rw [hc0]; intro z; cases z)
        have hwl0' : H8 wl = none := hwl0
        refine ⟨_, hwl12, (by rw [List.length_map, hA9.1, List.length_range]; exact small (by omega)), ws ++ [c], (s9.trans s1012).upd_free hwl0', ?_, ?_⟩
        · rw [upd_same, List.map_append]
          rfl
        · rw [List.range_succ]
          refine All2.snoc ⟨hA9.1, fun t u v hu hv => ?_⟩ ?_
          · have e := hA9.2 t u v hu hv
            have e2 := s1012 _ _ e
            show upd _ _ _ _ = _
            rw [upd_ne (ne_of e hw9 (fun z => ne_pre _ _ (HO.lst.inj z)))]
            exact e2
          · rw [upd_ne hcl]
            exact hc
    rintro H9 ⟨ws, s9, hw9, hA9⟩
    have a9 := s9 _ _ a8
    refine ⟨_, rfl, a, CW, dx, _, rfl, a9, T.clW, T.nW5, (by show 4 < 1000; decide), ?_⟩
    have B10 : But a H8 (upd H9 a (.ins CW dx (putF "within" (.ref wl) [("numbers", .ref nl), ("boxes", .ref bl), ("ends", .ref el0), ("known", .ref kl)]))) := s9.but.trans But.upd
    have a10 : (upd H9 a (.ins CW dx (putF "within" (.ref wl) [("numbers", .ref nl), ("boxes", .ref bl), ("ends", .ref el0), ("known", .ref kl)]))) a = some (.ins CW dx [("numbers", .ref nl), ("boxes", .ref bl), ("ends", .ref el0), ("known", .ref kl), ("within", .ref wl)]) := by
      rw [upd_same]
      exact congrArg (fun l => some (HO.ins CW dx l)) ((put_past (by decide +kernel)).trans (congrArg _ ((put_past (by decide +kernel)).trans (congrArg _ ((put_past (by decide +kernel)).trans (congrArg _ ((put_past (by decide +kernel)).trans rfl)))))))
    have keep10 : ∀ (b : Addr) (xs : List V), H9 b = some (.lst xs) → (upd H9 a (.ins CW dx (putF "within" (.ref wl) [("numbers", .ref nl), ("boxes", .ref bl), ("ends", .ref el0), ("known", .ref kl)]))) b = some (.lst xs) := fun b xs e => by
      rw [upd_ne (ne_of e a9 (by intro z; cases z))]
      exact e
    have wl10 := keep10 _ _ hw9
    have win10 : All2 (fun c k => (upd H9 a (.ins CW dx (putF "within" (.ref wl) [("numbers", .ref nl), ("boxes", .ref bl), ("ends", .ref el0), ("known", .ref kl)]))) c = some (.lst ((pre (withinB old fs k)).map nI))) ws (List.range old.length) := hA9.imp fun _ _ _ _ r => keep10 _ _ r
    clear keep10
    generalize (upd H9 a (.ins CW dx (putF "within" (.ref wl) [("numbers", .ref nl), ("boxes", .ref bl), ("ends", .ref el0), ("known", .ref kl)]))) = H10 at B10 a10 wl10 win10
    -- self.costs
    intro cd hcd0
    have s11 : Same H10 (upd H10 cd (.dT [])) := Same.new hcd0
    have a11 := s11 _ _ a10
    refine ⟨_, rfl, a, CW, dx, _, rfl, a11, T.clW, T.nW6, (by show 5 < 1000; decide), ?_⟩
    have B12 : But a H10 (upd (upd H10 cd (.dT [])) a (.ins CW dx (putF "costs" (.ref cd) [("numbers", .ref nl), ("boxes", .ref bl), ("ends", .ref el0), ("known", .ref kl), ("within", .ref wl)]))) := s11.but.trans But.upd
    have a12 : (upd (upd H10 cd (.dT [])) a (.ins CW dx (putF "costs" (.ref cd) [("numbers", .ref nl), ("boxes", .ref bl), ("ends", .ref el0), ("known", .ref kl), ("within", .ref wl)]))) a = some (.ins CW dx (fW nl bl el0 kl wl cd)) := by
      rw [upd_same]
      exact congrArg (fun l => some (HO.ins CW dx l)) ((put_past (by decide +kernel)).trans (congrArg _ ((put_past (by decide +kernel)).trans (congrArg _ ((put_past (by decide +kernel)).trans (congrArg _ ((put_past (by decide +kernel)).trans (congrArg _ ((put_past (by decide +kernel)).trans rfl)))))))))
    have cd12 : (upd (upd H10 cd (.dT [])) a (.ins CW dx (putF "costs" (.ref cd) [("numbers", .ref nl), ("boxes", .ref bl), ("ends", .ref el0), ("known", .ref kl), ("within", .ref wl)]))) cd = some (.dT []) := by
      rw [upd_ne (ne_of (upd_same (H := H10) (a := cd) (o := .dT [])) a11 (by intro z; cases z)), upd_same]
    generalize (upd (upd H10 cd (.dT [])) a (.ins CW dx (putF "costs" (.ref cd) [("numbers", .ref nl), ("boxes", .ref bl), ("ends", .ref el0), ("known", .ref kl), ("within", .ref wl)]))) = H12 at B12 a12 cd12
    have O12 : WObj CW CB H12 a old room fs nl bl el0 kl wl cd dx as ws := by
      refine ⟨a12, ?_, ?_, ?_, ?_, ?_, ?_, ?_⟩
      · exact B12.keep a10 (B10.keep a8 nl8 (by intro z; cases z)) (by intro z; cases z)
      · exact B12.keep a10 (B10.keep a8 bl8 (by intro z; cases z)) (by intro z; cases z)
      · exact rows8.imp fun _ _ _ _ r => (r.butI B10 a8 (by intro n l z; simp [fB] at z)).butI B12 a10 (by intro n l z; simp [fB] at z)
      · exact B12.keep a10 (B10.keep a8 el8 (by intro z; cases z)) (by intro z; cases z)
      · exact B12.keep a10 (B10.keep a8 kl8 (by intro z; cases z)) (by intro z; cases z)
      · exact B12.keep a10 wl10 (by intro z; cases z)
      · exact win10.imp fun _ _ _ _ r => B12.keep a10 r (by intro z; cases z)
    have C12 : But a H H12 := (C8.trans B10).trans B12
    have hcdH : H cd = none ∨ cd = a := by
      cases e : H cd with
      | none => exact .inl rfl
      | some o =>
        by_cases z : cd = a
        · exact .inr z
        · have := (C8.trans B10) _ _ e z
          rw [hcd0] at this
          cases this
    have hcda : cd ≠ a := (ne_of_none a10 hcd0).symm
    have hcdH : H cd = none := hcdH.resolve_right hcda
    clear B2 B4 B8 B10 B12 a2 a3 a4 a7 a8 a9 a10 a11 s3 s5 s6 s7 s9 s11 s47 sE nl2 tl2 bl2 rows2 nl4 bl4 el4 rows4 nl5 nl8 bl8 el8 rows8 kl8 pd8 he6 hw9 hA9 wl10 win10 hkl hpd C4 C8
    -- the costs, from the end
    refine ⟨_, rfl, nl, _, rfl, .inl (SqL.of O12.nl), _, _, rfl, rfl, _, rfl, by omega, by omega, by rw [List.length_map, nlen]; omega, by rw [List.length_map, nlen]; omega, ?_⟩
    rw [List.length_map, nlen]
    have e1 : (((fs.length : Int) + 1 - 0)).toNat = fs.length + 1 := by omega
    rw [e1]
    refine for_it walk_rangeC (fun r σ H13 => ∃ (vd vp : Option V) (kvs : List (List Key × V)), σ = [some (.ref a), some (.ref nl), some (.ref tl), some (nI room), some (.ref bl), some (.ref pd), vd, vp, none, none, none] ∧ But cd H12 H13 ∧ H13 cd = some (.dT kvs) ∧ kvs.length ≤ r * 101 ∧
        ∀ e j, e ≤ fs.length → j ≤ old.length → fs.length < e + r → Has kvs old room fs e j)
      ⟨none, none, [], rfl, But.refl _ _, cd12, Nat.zero_le _, fun e j h1 h2 h3 => by omega⟩ (fun _ _ _ _ _ => trivial) ?_ ?_
    · rintro r x σ H13 H14 hr' ⟨vd, vp, kvs, rfl, s13, hcd13, hlen13, hA13⟩ ⟨rfl, rfl⟩
      have ed : ((0 : Int) + (((fs.length + 1 : Nat)) : Int) - 1 + (r : Int) * (-1)) = ((fs.length - r : Nat) : Int) := by omega
      show gName 6 (V.int ((0 : Int) + (((fs.length + 1 : Nat)) : Int) - 1 + (r : Int) * (-1))) _ _ _
      rw [ed]
      have O13 := O12.butT s13 cd12
      refine ⟨_, rfl, bl, _, rfl, .inl (SqL.of O13.bl), _, _, rfl, rfl, _, rfl, by omega, by omega, by rw [List.length_map, hrows.1, rlen]; omega, by rw [List.length_map, hrows.1, rlen]; omega, ?_⟩
      rw [List.length_map, hrows.1, rlen]
      have e2 : (((old.length : Int) + 1 - 0)).toNat = old.length + 1 := by omega
      rw [e2]
      refine for_it walk_rangeC (fun u σ H15 => ∃ (vp : Option V) (kvs : List (List Key × V)), σ = [some (.ref a), some (.ref nl), some (.ref tl), some (nI room), some (.ref bl), some (.ref pd), some (nI (fs.length - r)), vp, none, none, none] ∧ But cd H12 H15 ∧ H15 cd = some (.dT kvs) ∧ kvs.length ≤ r * 101 + u ∧
          (∀ e j, e ≤ fs.length → j ≤ old.length → fs.length < e + r → Has kvs old room fs e j) ∧ ∀ j, j ≤ old.length → old.length < j + u → Has kvs old room fs (fs.length - r) j)
        ⟨vp, kvs, rfl, s13, hcd13, hlen13, hA13, fun j h1 h2 => by omega⟩ (fun _ _ _ _ _ => trivial) ?_ ?_
      · rintro u x σ H15 H16 hu' ⟨vp, kvs, rfl, s15, hcd15, hlen15, hA15, hB15⟩ ⟨rfl, rfl⟩
        have ep : ((0 : Int) + (((old.length + 1 : Nat)) : Int) - 1 + (u : Int) * (-1)) = ((old.length - u : Nat) : Int) := by omega
        show gName 7 (V.int ((0 : Int) + (((old.length + 1 : Nat)) : Int) - 1 + (u : Int) * (-1))) _ _ _
        rw [ep]
        have O15 := O12.butT s15 cd12
        refine ⟨_, rfl, a, dx, _, rfl, O15.ob, fW_not (by decide +kernel) (by decide +kernel) (by decide +kernel) (by decide +kernel) (by decide +kernel) (by decide +kernel), _, rfl, _, rfl, a, cd, fs.length - r, old.length - u, room, old, fs, kvs, rfl, ⟨_, _, _, _, _, _, _, _, O15⟩, hcd15, by omega, by omega, hF, hfl, hol, fun e j h1 h2 h3 => hA15 e j h2 h3 (by omega), fun j h1 h2 => hB15 j h2 (by omega), fun H17 s17 => ?_⟩
        have O17 := O15.same s17
        have hcd17 := s17 _ _ hcd15
        refine ⟨_, rfl, a, CW, dx, _, _, rfl, O17.ob, T.clW, T.nW6, fW_costs, _, rfl, _, rfl, (by show 2 ≤ sizeLine; decide), fun t ht => ?_⟩
        have s18 : Same H17 (upd H17 t (.tup [nI (fs.length - r), nI (old.length - u)])) := Same.new ht
        refine ⟨cd, _, rfl, DPut.t (k := [nK (fs.length - r), nK (old.length - u)]) (s18 _ _ hcd17) upd_same (small ?_), ?_⟩
        · have : r * 101 ≤ 100 * 101 := Nat.mul_le_mul_right _ (by omega)
          omega
        have hput : ∀ e j, (Has kvs old room fs e j ∨ (e = fs.length - r ∧ j = old.length - u)) → Has (putK kvs [nK (fs.length - r), nK (old.length - u)] (nI (kst old room (fs.drop (fs.length - r)) (old.length - u)))) old room fs e j := by
          intro e j h
          unfold Has
          rw [valV_put]
          by_cases c : [nK e, nK j] = [nK (fs.length - r), nK (old.length - u)]
          · rw [if_pos c]
            have c1 := (List.cons.inj c).1
            have c2 := (List.cons.inj (List.cons.inj c).2).1
            rw [nK_inj.mp c1, nK_inj.mp c2]
          · rw [if_neg c]
            rcases h with h | ⟨h1, h2⟩
            · exact h
            · exact absurd (by rw [h1, h2]) c
        refine ⟨_, _, rfl, ?_, upd_same, ?_, fun e j h1 h2 h3 => hput e j (.inl (hA15 e j h1 h2 h3)), fun j h1 h2 => ?_⟩
        · exact (s15.trans (s17.but.trans s18.but)).trans But.upd
        · exact Nat.le_trans (length_putK _ _ _) (by omega)
        · by_cases c : j = old.length - u
          · exact hput _ j (.inr ⟨rfl, c⟩)
          · exact hput _ j (.inl (hB15 j h1 (by omega)))
      · rintro σ H15 ⟨vp, kvs, rfl, s15, hcd15, hlen15, hA15, hB15⟩
        refine ⟨_, _, kvs, rfl, s15, hcd15, ?_, fun e j h1 h2 h3 => ?_⟩
        · rw [Nat.add_mul]
          omega
        · by_cases c : e = fs.length - r
          · subst c
            exact hB15 j h2 (by omega)
          · exact hA15 e j h1 h2 (by omega)
    · rintro σ H13 ⟨vd, vp, kvs, rfl, s13, hcd13, hlen13, hA13⟩
      refine q H13 cd kvs (fun b o e hb => s13 b o (C12 b o e hb) (ne_of_none e hcdH)) ⟨⟨_, _, _, _, _, _, _, _, O12.butT s13 cd12⟩, hcd13, hF, hfl, hol, fun e j h1 h2 => hA13 e j h1 h2 (by omega)⟩
end
end BW

/-! sorted of a list of ((i, j), n): a tuple of a tuple of two ints and an int -/
namespace BW
open PySem PySem.Spec PyProof.Rows L2 SrtO
/-- ((i, j), n) stands at v -/
def IsNest (h : Heap) (v : Value) (x : (Int × Int) × Int) : Prop := ∃ a o u n r, v = .ref a ∧ h.get? a = some o ∧ o.cls = .type "tuple" ∧ o.data = .seq #[.ref r, .int x.2 u] n ∧ Srt.IsPair h (.ref r) x.1.1 x.1.2
theorem IsNest.keeps {h h' : Heap} {v : Value} {x : (Int × Int) × Int} (p : IsNest h v x) (k : ∀ b o, h.get? b = some o → o.cls = .type "tuple" → h'.get? b = some o) : IsNest h' v x := by
  obtain ⟨a, o, u, n, r, e, ho, hc, hd, hp⟩ := p
  exact ⟨a, o, u, n, r, e, k _ _ ho hc, hc, hd, hp.keeps k⟩
def lexN (p q : (Int × Int) × Int) : Bool := if p.1 = q.1 then decide (p.2 < q.2) else lexB p.1 q.1
theorem lexN_iff {p q : (Int × Int) × Int} : lexN p q = true ↔ (p.1.1 < q.1.1 ∨ (p.1.1 = q.1.1 ∧ p.1.2 < q.1.2) ∨ (p.1.1 = q.1.1 ∧ p.1.2 = q.1.2 ∧ p.2 < q.2)) := by
  obtain ⟨⟨a, b⟩, c⟩ := p
  obtain ⟨⟨a', b'⟩, c'⟩ := q
  unfold lexN
  by_cases e : ((a, b) : Int × Int) = (a', b')
  · rw [if_pos e, decide_eq_true_eq]
    have e1 := (Prod.mk.inj e).1
    have e2 := (Prod.mk.inj e).2
    simp only
    omega
  · rw [if_neg e, lexB_iff]
    have : ¬ (a = a' ∧ b = b') := fun z => e (by rw [z.1, z.2])
    simp only
    omega
theorem lexN_no {p q : (Int × Int) × Int} : lexN p q = false ↔ ¬ (p.1.1 < q.1.1 ∨ (p.1.1 = q.1.1 ∧ p.1.2 < q.1.2) ∨ (p.1.1 = q.1.1 ∧ p.1.2 = q.1.2 ∧ p.2 < q.2)) := by
  rw [← lexN_iff]
  cases lexN p q <;> simp
theorem swo_lexN {α : Type} (k : α → (Int × Int) × Int) : Swo fun v u => lexN (k v) (k u) := by
  refine ⟨fun x y h => ?_, fun x y z h1 h2 => ?_⟩
  · have a := lexN_iff.mp h
    refine lexN_no.mpr ?_
    omega
  · have a := lexN_no.mp h1
    have b := lexN_no.mp h2
    refine lexN_no.mpr ?_
    omega
section
variable {prog : Program} {w : World} {A : Around} {E : Value → Shared → Prop} {s : Shared}
theorem nest_cmp {vs : List Value} {k : Value → (Int × Int) × Int} (hu : A.units + 4 < cLine) (hp : ∀ v ∈ vs, IsNest s.heap v (k v)) : SrtO.Cmp prog w A s (tuples' false) (fun p => p.1 ∈ vs) (lt2 fun v u => lexN (k v) (k u)) := by
  intro p q hm hm'
  have h1 := hp _ hm
  have h2 := hp _ hm'
  show wpAny (model prog w) A (keyLt' (tuples' false) p.1 q.1) (fun r s' => s' = s ∧ r = lexN (k p.1) (k q.1)) (fun _ _ => False) s
  generalize k p.1 = x at h1 ⊢
  generalize k q.1 = y at h2 ⊢
  obtain ⟨⟨x1, x2⟩, x3⟩ := x
  obtain ⟨⟨y1, y2⟩, y3⟩ := y
  obtain ⟨a, o, t, n, r, e, ho, hc, hd, hr⟩ := h1
  obtain ⟨a', o', t', n', r', e', ho', hc', hd', hr'⟩ := h2
  rw [e, e']
  obtain ⟨b, ob, tb, ub, nb, eb, hob, hcb, hdb⟩ := id hr
  obtain ⟨b', ob', tb', ub', nb', eb', hob', hcb', hdb'⟩ := id hr'
  cases eb
  cases eb'
  refine PySem.W.kat_lt ho hd ho' hd' ?_
  show PySem.W.KatLex prog w A false (decide (2 < 2)) _ [(.ref r, .ref r'), (.int x3 t, .int y3 t')] 0 s
  have R : Reads s.heap (.ref r) (.tuple [.int x1, .int x2]) _ := Reads.tuple hob hcb hdb (ReadsAll.cons (Reads.int x1 tb) (ReadsAll.cons (Reads.int x2 ub) ReadsAll.nil))
  have R' : Reads s.heap (.ref r') (.tuple [.int y1, .int y2]) _ := Reads.tuple hob' hcb' hdb' (ReadsAll.cons (Reads.int y1 tb') (ReadsAll.cons (Reads.int y2 ub') ReadsAll.nil))
  have eq := SeqAt.eqAt_reads (.tuple [.int x1, .int x2]) (.tuple [.int y1, .int y2]) A s (.ref r) (.ref r') _ _ R R' rfl rfl (by simp only [PyData.depth, PyData.depthAll]; omega)
  refine PySem.W.kat_cons (eq prog w _ _ ?_)
  have ev : PyData.eqv (.tuple [.int x1, .int x2]) (.tuple [.int y1, .int y2]) = (x1 == y1 && (x2 == y2 && true)) := rfl
  refine PySem.W.kat_go (fun e1 => ?_) (fun e1 => ?_)
  · rw [ev] at e1
    have ex : x1 = y1 ∧ x2 = y2 := by simpa using e1
    refine PySem.W.kat_yes (PySem.W.kat_cons (SeqAt.EqAt.int_int x3 t y3 t' prog w _ _ ?_))
    refine PySem.W.kat_go (fun e2 => ?_) (fun e2 => ?_)
    · have ey : x3 = y3 := by simpa using e2
      refine PySem.W.kat_yes (PySem.W.kat_nil ⟨rfl, ?_⟩)
      rw [show (decide (2 < 2)) = false from rfl]
      refine (lexN_no.mpr ?_).symm
      simp only
      omega
    · have ey : ¬ x3 = y3 := by simpa using e2
      refine PySem.W.kat_no (PySem.W.kat_one _ _ (PyProof.Rows.lt_int ?_))
      refine (show s = s ∧ decide (x3 < y3) = lexN ((x1, x2), x3) ((y1, y2), y3) from ⟨rfl, ?_⟩)
      rw [Bool.eq_iff_iff, lexN_iff, decide_eq_true_eq]
      simp only
      omega
  · rw [ev] at e1
    have ex : ¬ (x1 = y1 ∧ x2 = y2) := by
      intro z
      rw [z.1, z.2] at e1
      simp at e1
    have i1 : IntsAre (#[Value.int x1 tb, Value.int x2 ub] : Array Value).toList [x1, x2] := intsAre_of (show Vals [.int x1, .int x2] [Value.int x1 tb, Value.int x2 ub] from .cons ⟨tb, rfl⟩ (.cons ⟨ub, rfl⟩ .nil))
    have i2 : IntsAre (#[Value.int y1 tb', Value.int y2 ub'] : Array Value).toList [y1, y2] := intsAre_of (show Vals [.int y1, .int y2] [Value.int y1 tb', Value.int y2 ub'] from .cons ⟨tb', rfl⟩ (.cons ⟨ub', rfl⟩ .nil))
    refine PySem.W.kat_no (PySem.W.kat_one _ _ (HT.lt_tupInts ⟨ob, hob, hcb, nb, hdb⟩ ⟨ob', hob', hcb', nb', hdb'⟩ i1 i2 (by omega) ?_))
    refine (show s = s ∧ HT.lexLt [x1, x2] [y1, y2] = lexN ((x1, x2), x3) ((y1, y2), y3) from ⟨rfl, ?_⟩)
    rw [Bool.eq_iff_iff, lexN_iff]
    simp only [HT.lexLt_cons, HT.lexLt_nil_nil]
    by_cases c1 : x1 = y1
    · by_cases c2 : x2 = y2
      · exact absurd ⟨c1, c2⟩ ex
      · rw [if_pos c1, if_neg c2, decide_eq_true_eq]
        omega
    · rw [if_neg c1, decide_eq_true_eq]
      omega
theorem nest_firsts {h : Heap} {k : Value → (Int × Int) × Int} : ∀ {vs : List Value}, (∀ v ∈ vs, IsNest h v (k v)) → ∃ fs : List Value, PySem.W.KatTups h vs fs ∧ fs.length = vs.length ∧ ∀ f ∈ fs, ∃ r o, f = Value.ref r ∧ h.get? r = some o ∧ o.cls = .type "tuple"
  | [], _ => ⟨[], PySem.W.KatTups.nil, rfl, fun _ hm => by simp at hm⟩
  | v :: vs, hp => by
    obtain ⟨fs, h1, h2, h3⟩ := nest_firsts (vs := vs) fun v' hm => hp v' (List.mem_cons_of_mem _ hm)
    obtain ⟨a, o, u, n, r, e, ho, hc, hd, b, ob, _, _, _, eb, hob, hcb, _⟩ := hp v (List.mem_cons_self ..)
    subst e
    cases eb
    refine ⟨.ref r :: fs, PySem.W.KatTups.cons ho hc hd rfl h1, by rw [List.length_cons, List.length_cons, h2], fun f hm => ?_⟩
    rcases List.mem_cons.mp hm with rfl | hm
    · exact ⟨r, ob, rfl, hob, hcb⟩
    · exact h3 f hm
theorem nest_sortable {a : Addr} {vs : List Value} {k : Value → (Int × Int) × Int} (hu : A.units + 4 < cLine) (h0 : 0 < vs.length) (hp : ∀ v ∈ vs, IsNest s.heap v (k v)) (ha : ∀ o, s.heap.get? a = some o → o.cls ≠ .type "tuple") : SortableO prog w A s a vs fun v u => lexN (k v) (k u) := by
  intro h' keep
  have hp' : ∀ v ∈ vs, IsNest h' v (k v) := fun v hm => (hp v hm).keeps fun b o e c => keep b o (fun z => by subst z; exact ha o e c) e
  obtain ⟨fs, h1, h2, h3⟩ := nest_firsts hp'
  refine ⟨tuples' false, fun Q E hq => ?_, nest_cmp hu hp'⟩
  refine PySem.W.kat_kind (T := .type "tuple") h1 (by omega) (fun f hm => ?_) (by first | rfl | decide +kernel) ?_
  · obtain ⟨r, o, rfl, ho, hc⟩ := h3 f hm
    rw [← hc]
    exact (PySem.W.Looks.ld ho).andThen .now
  · have e : (Value.type "tuple" != Value.type "tuple") = false := by first | decide +kernel | rfl | decide
    rw [e]
    exact hq
theorem sorted_nest {l : Addr} {vs : List Value} {k : Value → (Int × Int) × Int} {Q : Value → Shared → Prop} (hu : A.units + 10 < cLine) (hl : s.heap.IsList l vs.toArray) (hz : vs.length ≤ sizeLine) (hp : ∀ v ∈ vs, IsNest s.heap v (k v))
    (h : ∀ (h' : Heap) (d : Addr) (out : List Value), Srtd (fun v u => lexN (k v) (k u)) out → Stb (fun v u => lexN (k v) (k u)) out vs → (∀ b o, s.heap.get? b = some o → h'.get? b = some o) → s.heap.objs.size ≤ d → (∃ n, h'.get? d = some (seqObj "list" out.toArray n)) → Q (.ref d) { s with heap := h' }) :
    wpAny (model prog w) A (call (.builtin "sorted") [.ref l]) Q E s := by
  refine sorted_ord (swo_lexN k) hl hz (fun h2 h₁ a ha kk => ?_) fun out hs hb => ?_
  · refine nest_sortable (s := { s with heap := h₁ }) (by show A.units + 1 + 1 + 4 < cLine; omega) (by omega) (fun v hm => (hp v hm).keeps fun b o e _ => (kk b o e).2) fun o e => ?_
    have e' : some o = some (seqObj "list" vs.toArray 0) := e.symm.trans ha
    cases e'
    intro c
    exact absurd (Value.type.inj c) (by decide)
  · exact h _ _ out hs hb (fun b o e => sortedAll_old e) (Nat.le_succ _) (sortedAll_at s.heap vs out.toArray)
end
abbrev ltN (k : V → (Int × Int) × Int) (x y : V) : Bool := lexN (k x) (k y)
/-- sorted(xs), xs a list of ((i, j), n) (k says which): a new list, sorted, a rearrangement -/
def rSortedN (K : PySem.W.Frag) : List V → Hp → VK → Prop := fun vs H Q => ∃ (a : Addr) (xs : List V) (k : V → (Int × Int) × Int), vs = [V.ref a] ∧ SqL K H a xs ∧ (∀ x ∈ xs, ∃ t r, x = V.ref t ∧ H t = some (.tup [.ref r, .int (k x).2]) ∧ H r = some (.tup [.int (k x).1.1, .int (k x).1.2])) ∧
  ∀ ys p, Srtd (ltN k) ys → ys.Perm xs → H p = none → Q (.ref p) (upd H p (.lst ys))
section
variable {X : Cx}
theorem cr_sortedN (hu : X.A.units + 10 < cLine) : CallR X (.builtin "sorted") (rSortedN X.K) := by
  intro pins s σ H vs us Q I r h
  obtain ⟨a, xs, k, rfl, hs, hx, q⟩ := h
  obtain ⟨its, rv, hl, hz⟩ := I.list hs
  obtain ⟨u, rfl, ru⟩ := vals1 r
  obtain rfl : u = Value.ref a := ru
  obtain ⟨e1, e2⟩ := refs_back rv fun x m => by
    obtain ⟨t, _, e, _⟩ := hx x m
    exact ⟨t, e⟩
  refine sorted_nest (k := fun u => k (backV u)) hu hl.isList (by rw [← rv.length]; exact hz) (fun v hv => ?_) fun h' d out h1 h2 kp hd hn => ?_
  · obtain ⟨t, rfl⟩ := e2 v hv
    have hm : V.ref t ∈ xs := by rw [e1]; exact List.mem_map.mpr ⟨_, hv, rfl⟩
    obtain ⟨t', r', e, ht, hr⟩ := hx _ hm
    cases e
    obtain ⟨_, its2, r2, o, ho, hc, n, hd⟩ := I.hok _ _ ht
    obtain ⟨u1, u2, rfl, ri, rj⟩ := vals2 r2
    obtain rfl : u1 = Value.ref r' := ri
    obtain ⟨t2, rfl⟩ := rj
    obtain ⟨_, its3, r3, o3, ho3, hc3, n3, hd3⟩ := I.hok _ _ hr
    obtain ⟨u3, u4, rfl, rk, rl⟩ := vals2 r3
    obtain ⟨t3, rfl⟩ := rk
    obtain ⟨t4, rfl⟩ := rl
    exact ⟨t, o, t2, n, r', rfl, ho, hc, hd, r', o3, t3, t4, n3, rfl, ho3, hc3, hd3⟩
  · have h3 : ∀ u ∈ out, ∃ a, u = Value.ref a := fun u hu => e2 u (h2.perm.mem_iff.mp hu)
    obtain ⟨n, hn⟩ := hn
    have hb : (out.map backV).Perm xs := by
      rw [e1]
      exact h2.perm.map backV
    refine ⟨.ref d, upd H d (.lst (out.map backV)), I.laid (t' := s.toks) kp hd ⟨?_, out, n, vals_back h3, hn⟩, rfl, q _ d (SrtO.srtd_map h1) hb (I.hok.fresh hd)⟩
    rw [hb.length_eq]
    exact hz
end
end BW

namespace BW
open PySem PySem.Spec PyProof.Rows L2 BX
abbrev sSInit : Stmt := inClass (topS 13) 0
abbrev sInOrder : Stmt := inClass (topS 13) 1
abbrev sThicks : Stmt := inClass (topS 13) 2
abbrev sToldC : Stmt := inClass (topS 13) 3
abbrev sAnew : Stmt := inClass (topS 13) 4
abbrev sPack : Stmt := inClass (topS 13) 5
abbrev sThickness : Stmt := inClass (topS 13) 6
abbrev sWhereM : Stmt := inClass (topS 13) 7
abbrev sBoxTold : Stmt := inClass (topS 13) 8
abbrev sSeekM : Stmt := inClass (topS 13) 9
theorem fS_room {r n : Int} {d l : Addr} : (fS r d l n).lookup ("room" : Str) = some (.int r) := lk_here
theorem fS_files {r n : Int} {d l : Addr} : (fS r d l n).lookup ("files" : Str) = some (.ref d) := (lk_past (by decide +kernel)).trans lk_here
theorem fS_boxes {r n : Int} {d l : Addr} : (fS r d l n).lookup ("boxes" : Str) = some (.ref l) := (lk_past (by decide +kernel)).trans ((lk_past (by decide +kernel)).trans lk_here)
theorem fS_coming {r n : Int} {d l : Addr} : (fS r d l n).lookup ("coming" : Str) = some (.int n) := (lk_past (by decide +kernel)).trans ((lk_past (by decide +kernel)).trans ((lk_past (by decide +kernel)).trans lk_here))
theorem fS_not {r n : Int} {d l : Addr} {m : Str} (h1 : (m == ("room" : Str)) = false) (h2 : (m == ("files" : Str)) = false) (h3 : (m == ("boxes" : Str)) = false) (h4 : (m == ("coming" : Str)) = false) : (fS r d l n).lookup m = none :=
  (lk_past h1).trans ((lk_past h2).trans ((lk_past h3).trans ((lk_past h4).trans rfl)))
/-- a field of anything, K by its name -/
theorem pe_fg {X : Cx} (K : PySem.W.Frag) {e : Expr} {f : Str} {pos : Pos} {ta : TE} (he : PE X e ta) (hb : attributeBase e f X.env (eval e X.env) = eval e X.env) (hK : X.K = K := by rfl) : PE X (.Attribute e f pos) (tFld K ta f) := by
  subst hK
  exact pe_fld he hb
/-! ### promises -/
def spSInit (CS : Addr) : Sp := fun vs H Q _ => ∃ (a dx : Addr) (r : Nat), vs = [.ref a, nI r] ∧ H a = some (.ins CS dx []) ∧ ∀ (H' : Hp) (d l : Addr), But a H H' → ShelfRaw CS H' a r d l 0 → H' d = some (.dK []) → H' l = some (.lst []) → Q .non H'
/-- in order, each once -/
structure Ord (fs : List BdBox.BFile) : Prop where
  srt : fs.Pairwise (fun a b => BdBox.beforeFile a b = true)
  nd : (fs.map (fun f => f.number)).Nodup
  len : fs.length ≤ 100
def spInOrder (CF CS : Addr) : Sp := fun vs H Q _ => ∃ (a d l : Addr) (room next : Nat) (fs : List BdBox.BFile), vs = [.ref a] ∧ ShelfRaw CS H a room d l next ∧ DictAt CF H d fs ∧ Ord fs ∧
  ∀ (H' : Hp) (p : Addr) (as : List Addr), Same H H' → H p = none → H' p = some (.lst (as.map V.ref)) → All2 (FileAt CF H') as fs → Q (.ref p) H'
def spThicks (CF CS : Addr) : Sp := fun vs H Q _ => ∃ (a d l : Addr) (room next : Nat) (fs : List BdBox.BFile), vs = [.ref a] ∧ ShelfRaw CS H a room d l next ∧ DictAt CF H d fs ∧ Ord fs ∧
  ∀ (H' : Hp) (p : Addr), Same H H' → H p = none → H' p = some (.lst ((fs.map fun f => f.thick).map nI)) → Q (.ref p) H'
def spThickness (CF CS : Addr) : Sp := fun vs H Q _ => ∃ (a d l k : Addr) (room next : Nat) (fs fl : List BdBox.BFile), vs = [.ref a, .ref k] ∧ ShelfRaw CS H a room d l next ∧ DictAt CF H d fs ∧ Ord fs ∧ H k = some (.lst ((BdBox.numbersOf fl).map nI)) ∧ (∀ f ∈ fl, f ∈ fs) ∧ fl.length ≤ 100 ∧
  ∀ (H' : Hp), Same H H' → Q (nI (BdBox.thickness fl)) H'
/-! ### the dict of files -/
theorem dict_find : ∀ {ps : List (BdBox.BFile × Addr)} {p : BdBox.BFile × Addr}, (ps.map (fun p => p.1.number)).Nodup → p ∈ ps → valV (ps.map fun p => (nK p.1.number, V.ref p.2)) (nK p.1.number) = some (.ref p.2)
  | [], p, _, h => by simp at h
  | x :: ps, p, nd, h => by
    rw [List.map_cons, List.nodup_cons] at nd
    rw [List.map_cons]
    rcases List.mem_cons.mp h with rfl | h
    · exact valV_pos rfl
    · have hne : ¬ nK x.1.number = nK p.1.number := fun q => nd.1 (List.mem_map.mpr ⟨p, h, (nK_inj.mp q).symm⟩)
      rw [valV_neg hne]
      exact dict_find nd.2 h
theorem dict_none : ∀ {ps : List (BdBox.BFile × Addr)} {n : Nat}, (∀ p ∈ ps, p.1.number ≠ n) → valV (ps.map fun p => (nK p.1.number, V.ref p.2)) (nK n) = none
  | [], _, _ => rfl
  | x :: ps, n, h => by
    rw [List.map_cons, valV_neg (fun q => h x List.mem_cons_self (nK_inj.mp q))]
    exact dict_none (fun p hp => h p (List.mem_cons_of_mem _ hp))
theorem num_uniq {fs : List BdBox.BFile} (nd : (fs.map (fun f => f.number)).Nodup) {f g : BdBox.BFile} (hf : f ∈ fs) (hg : g ∈ fs) (e : f.number = g.number) : f = g := by
  induction fs with
  | nil => simp at hf
  | cons x fs ih =>
    rw [List.map_cons, List.nodup_cons] at nd
    rcases List.mem_cons.mp hf with h1 | h1 <;> rcases List.mem_cons.mp hg with h2 | h2
    · rw [h1, h2]
    · subst h1
      exact absurd (List.mem_map.mpr ⟨g, h2, e.symm⟩) nd.1
    · subst h2
      exact absurd (List.mem_map.mpr ⟨f, h1, e⟩) nd.1
    · exact ih nd.2 h1 h2
theorem dict_at {CF : Addr} {H : Hp} {d : Addr} {fs : List BdBox.BFile} (D : DictAt CF H d fs) (nd : (fs.map (fun f => f.number)).Nodup) : ∃ kvs : List (Key × V), H d = some (.dK kvs) ∧ kvs.length = fs.length ∧ (∀ f ∈ fs, ∃ c, valV kvs (nK f.number) = some (.ref c) ∧ FileAt CF H c f) ∧ ∀ n : Nat, (∀ f ∈ fs, f.number ≠ n) → valV kvs (nK n) = none := by
  obtain ⟨ps, hd, hp, hf⟩ := D
  have ndp : (ps.map (fun p => p.1.number)).Nodup := by
    have := (hp.map (fun f => f.number)).nodup_iff.mpr nd
    rw [List.map_map] at this
    exact this
  refine ⟨_, hd, by rw [List.length_map, ← hp.length_eq, List.length_map], fun f hfs => ?_, fun n hn => ?_⟩
  · obtain ⟨p, hpm, rfl⟩ := List.mem_map.mp (hp.mem_iff.mpr hfs)
    exact ⟨p.2, dict_find ndp hpm, hf p hpm⟩
  · exact dict_none fun p hpm => hn p.1 (hp.mem_iff.mp (List.mem_map.mpr ⟨p, hpm, rfl⟩))
/-! ### by what files stand in order -/
def rk (f : BdBox.BFile) : (Int × Int) × Int := (((f.key : Int), (f.number : Int)), (f.number : Int))
theorem rk_lt {f g : BdBox.BFile} (h : BdBox.beforeFile f g = true) : lexN (rk f) (rk g) = true := by
  rw [before_iff] at h
  rw [lexN_iff]
  unfold rk
  simp only
  omega
theorem sort_uniq {α : Type} {lt : α → α → Bool} : ∀ {l m : List α}, l.Perm m → l.Pairwise (fun x y => lt y x = false) → m.Pairwise (fun x y => lt x y = true) → l = m
  | [], m, p, _, _ => p.nil_eq
  | x :: l, [], p, _, _ => absurd p.length_eq (by simp)
  | x :: l, y :: m, p, hl, hm => by
    rw [List.pairwise_cons] at hl hm
    have e : x = y := by
      have h1 : y ∈ x :: l := p.mem_iff.mpr List.mem_cons_self
      have h2 : x ∈ y :: m := p.mem_iff.mp List.mem_cons_self
      rcases List.mem_cons.mp h1 with h1 | h1
      · exact h1.symm
      · rcases List.mem_cons.mp h2 with h2 | h2
        · exact h2
        · have a := hl.1 y h1
          have b := hm.1 x h2
          rw [a] at b
          cases b
    subst e
    rw [sort_uniq p.cons_inv hl.2 hm.2]
/-- which ((key, number), number) stands at an address -/
def kOf (H : Hp) : V → (Int × Int) × Int
  | .ref t => match H t with
    | some (.tup [.ref r, .int c]) => (match H r with
      | some (.tup [.int a, .int b]) => ((a, b), c)
      | _ => ((0, 0), 0))
    | _ => ((0, 0), 0)
  | _ => ((0, 0), 0)
def NestAt (H : Hp) (t : Addr) (f : BdBox.BFile) : Prop := ∃ r, H t = some (.tup [.ref r, nI f.number]) ∧ H r = some (.tup [nI f.key, nI f.number])
theorem kOf_at {H : Hp} {t : Addr} {f : BdBox.BFile} (h : NestAt H t f) : kOf H (.ref t) = rk f := by
  obtain ⟨r, h1, h2⟩ := h
  unfold kOf
  simp only [h1, h2]
  rfl
section
variable {P : Program} {w : World} {K : PySem.W.Frag} {mg : Str → Option Value} {base : Heap} {CF CB CW CS aN : Addr}
theorem scSInit : FnScope ["self", "room"] ["self", "room"] (defScope sSInit) := ⟨rfl, rfl, rfl, by decide +kernel, rfl, by decide +kernel, by decide +kernel⟩
theorem ok_SInit (D : DefI K mg CS "Shelf" "Shelf.__init__" sSInit ["self", "room"]) (T : Txt K mg CF CB CW CS aN) : CalI P w K mg base 1 CS "Shelf" ["self", "room"] (spSInit CS) := by
  refine D.cal fun f fd F => F.ok scSInit (fun vs H Q E h => ?_) (fun cdv A outer s H vs Q E hr h => ?_)
  · obtain ⟨a, dx, r, rfl, _⟩ := h
    rfl
  · obtain ⟨a, dx, r, rfl, ha, q⟩ := h
    refine ⟨_, pss_cons (ps_fld (pv 0) (pv 1) rfl) (pss_cons (ps_fld (pv 0) pe_dnewK rfl) (pss_cons (ps_fld (pv 0) (pe_lst pa_nil) rfl) (pss_one (ps_fld (pv 0) pe_int rfl)))), ?_⟩
    refine ⟨_, rfl, _, rfl, a, CS, dx, [], rfl, ha, T.clS, T.nS1, (by show 0 < 1000; decide), ?_⟩
    intro d hd
    have had : a ≠ d := ne_of_none upd_same hd
    refine ⟨_, rfl, a, CS, dx, _, rfl, (by rw [upd_ne had, upd_same]), T.clS, T.nS2, (by show 1 < 1000; decide), ?_⟩
    refine ⟨Nat.zero_le _, fun l hl => ?_⟩
    have hal : a ≠ l := ne_of_none upd_same hl
    have hdl : d ≠ l := by
      refine ne_of_none (o := .dK []) ?_ hl
      rw [upd_ne had.symm, upd_same]
    refine ⟨_, rfl, a, CS, dx, _, rfl, (by rw [upd_ne hal, upd_same]), T.clS, T.nS3, (by show 2 < 1000; decide), ?_⟩
    refine ⟨_, rfl, a, CS, dx, _, rfl, upd_same, T.clS, T.nS4, (by show 3 < 1000; decide), ?_⟩
    refine q _ d l ?_ ⟨dx, ?_⟩ ?_ ?_
    · intro b o e hb
      have hbd : b ≠ d := by
        refine ne_of_none (H := upd H a (.ins CS dx (putF "room" (nI r) []))) (o := o) ?_ hd
        rw [upd_ne hb]
        exact e
      rw [upd_ne hb, upd_ne hb, upd_ne, upd_ne hb, upd_ne hbd, upd_ne hb]
      · exact e
      · refine ne_of_none (o := o) ?_ hl
        rw [upd_ne hb, upd_ne hbd, upd_ne hb]
        exact e
    · rw [upd_same]
      exact congrArg (fun l => some (HO.ins CS dx l)) rfl
    · rw [upd_ne had.symm, upd_ne had.symm, upd_ne hdl, upd_ne had.symm, upd_same]
    · rw [upd_ne hal.symm, upd_ne hal.symm, upd_same]
/-! ### in_order -/
theorem scInOrder : FnScope ["self", "ranks", "file", "rank", "number"] ["self"] (defScope sInOrder) := ⟨rfl, rfl, rfl, by decide +kernel, rfl, by decide +kernel, by decide +kernel⟩
theorem ok_InOrder (D : DefM K CS "in_order" "Shelf.in_order" sInOrder ["self"]) (T : Txt K mg CF CB CW CS aN) (C1 : CalM P w K mg base 1 CF "rank" ["self"] (spRank CF)) : CalM P w K mg base 2 CS "in_order" ["self"] (spInOrder CF CS) := by
  obtain ⟨f1, fd1, G1, m1, b1⟩ := C1
  refine D.cal fun f fd F => F.ok scInOrder (fun vs H Q E h => ?_) (fun cdv A outer s H vs Q E hr h => ?_)
  · obtain ⟨a, d, l, room, next, fs, rfl, _⟩ := h
    rfl
  · obtain ⟨a, d, l, room, next, fs, rfl, ⟨dx, ha⟩, hD, hO, q⟩ := h
    have hu := hu_of hr
    have hu10 : (A.deeper (envOfC "Shelf.in_order" (defScope sInOrder) s.heap.objs.size f cdv)).units + 10 < cLine := by have := hr.units; omega
    refine ⟨_, pss_cons (ps_set (i := 1) scInOrder.nd rfl (Or.inl rfl) (pe_callB (cr_sortedN hu10) (by rfl) T.sorted (by decide +kernel) (pa_cons (pe_lock
          (pe_lc (own := [("file", 2)]) (g := gName 2) (by rfl) scInOrder.nd (pi_values (pe_fn (pv 0))) (blkOk_by (own := [("file", 2)]) (N := ["self", "ranks", "file", "rank", "number"]) (sc := defScope sInOrder) (by decide +kernel))
            (fun _ _ _ _ _ => pg_name (i := 2) scInOrder.nd rfl (Or.inl rfl)) (fun _ _ _ _ _ => pts_nil)
            (fun _ _ _ _ _ => by exact pe_tup (pa_cons (pe_meth0 (pv 2) T.clF m1 G1 hr b1 .nil pass0) (pa_cons (pe_fk K (pv 2)) pa_nil))))) pa_nil)))
      (pss_one (ps_ret (pe_lc (own := [("rank", 3), ("number", 4)]) (g := gTup K 2 (gCons (gName 3) (gCons (gName 4) gNil))) (by rfl) scInOrder.nd (pi_list (pv 1)) (blkOk_by (own := [("rank", 3), ("number", 4)]) (N := ["self", "ranks", "file", "rank", "number"]) (sc := defScope sInOrder) (by decide +kernel))
            (fun _ _ _ _ _ => by exact (show PG _ _ (gTup K 2 (gCons (gName 3) (gCons (gName 4) gNil))) from pg_tup rfl (pgs_cons (pg_name (i := 3) scInOrder.nd rfl (Or.inl rfl)) (pgs_cons (pg_name (i := 4) scInOrder.nd rfl (Or.inl rfl)) pgs_nil)))) (fun _ _ _ _ _ => pts_nil)
            (fun _ _ _ _ _ => by exact pe_dget hu (pe_fk K (pv 0)) (pv 4) (fun _ _ => rfl))))), ?_⟩
    obtain ⟨kvs0, hd0, hlen0, hfind, _⟩ := dict_at hD hO.nd
    obtain ⟨ps, hd, hperm, hfile⟩ := hD
    have ekv : kvs0 = ps.map fun p => (nK p.1.number, V.ref p.2) := by
      rw [hd0] at hd
      exact HO.dK.inj (Option.some.inj hd)
    have hlps : ps.length = fs.length := by rw [← hperm.length_eq, List.length_map]
    have nad : a ≠ d := ne_of ha hd (by intro z; cases z)
    -- the dict is locked
    refine ⟨d, _, hd, True.intro, fun od => ?_⟩
    have keepL : ∀ b o, H b = some o → b ≠ d → (upd H d (.frz od (.dK (ps.map fun p => (nK p.1.number, V.ref p.2))))) b = some o := fun b o e hb => by rw [upd_ne hb]; exact e
    have hdL : (upd H d (.frz od (.dK (ps.map fun p => (nK p.1.number, V.ref p.2))))) d = some (.frz od (.dK (ps.map fun p => (nK p.1.number, V.ref p.2)))) := upd_same
    have freeL : ∀ b, (upd H d (.frz od (.dK (ps.map fun p => (nK p.1.number, V.ref p.2))))) b = none → H b = none := fun b e => by
      by_cases z : b = d
      · subst z; rw [upd_same] at e; cases e
      · rw [upd_ne z] at e; exact e
    generalize (upd H d (.frz od (.dK (ps.map fun p => (nK p.1.number, V.ref p.2))))) = HL at keepL hdL freeL
    refine ⟨_, rfl, a, CS, dx, _, _, rfl, keepL _ _ ha nad, T.clS, T.nS2, fS_files, d, od, _, rfl, hdL, fun D hD => ?_⟩
    have fileL : ∀ p ∈ ps, FileAt CF HL p.2 p.1 := fun p hp => by
      obtain ⟨dy, e⟩ := hfile p hp
      exact ⟨dy, keepL _ _ e (ne_of e hd (by intro z; cases z))⟩
    refine lc_it walk_values (fun i H1 => ∃ ts : List Addr, Same HL H1 ∧ H1 D = some (.lst (ts.map V.ref)) ∧ All2 (fun t (p : BdBox.BFile × Addr) => NestAt H1 t p.1) ts (ps.take i)) ⟨[], Same.new hD, upd_same, All2.nil⟩ (fun _ _ _ ⟨_, s1, _⟩ => s1 _ _ hdL) ?_ ?_
    · rintro i x H1 H2 hi ⟨ts, s1, h1, hN⟩ ⟨rfl, k, hk⟩
      rw [List.length_map] at hi
      obtain ⟨p, hp⟩ := get_of_lt hi
      rw [List.getElem?_map, hp] at hk
      have hx : V.ref p.2 = x := (Prod.mk.inj (Option.some.inj hk)).2
      subst hx
      have hfp := (fileL p (List.mem_of_getElem? hp)).same s1
      obtain ⟨dy, ey⟩ := id hfp
      refine ⟨rfl, yes_if ?_⟩
      refine ⟨_, rfl, p.2, dy, _, rfl, ey, fF_rank, p.2, p.1, rfl, hfp, fun r hr0 => ?_⟩
      have s2 : Same H2 (upd H2 r (.tup [nI p.1.key, nI p.1.number])) := Same.new hr0
      refine ⟨_, rfl, p.2, CF, dy, _, _, rfl, s2 _ _ ey, T.clF, T.nF1, fF_number, (by show 2 ≤ sizeLine; decide), fun t ht => ?_⟩
      have s3 : Same (upd H2 r (.tup [nI p.1.key, nI p.1.number])) (upd (upd H2 r (.tup [nI p.1.key, nI p.1.number])) t (.tup [.ref r, V.int (p.1.number : Int)])) := Same.new ht
      have hr3 := s3 _ _ (upd_same (H := H2) (a := r) (o := .tup [nI p.1.key, nI p.1.number]))
      have ht3 : (upd (upd H2 r (.tup [nI p.1.key, nI p.1.number])) t (.tup [.ref r, V.int (p.1.number : Int)])) t = some (.tup [.ref r, V.int (p.1.number : Int)]) := upd_same
      have s23 := s2.trans s3
      generalize (upd (upd H2 r (.tup [nI p.1.key, nI p.1.number])) t (.tup [.ref r, V.int (p.1.number : Int)])) = H3 at s3 hr3 ht3 s23
      have h3 := s23 _ _ h1
      have keepD : ∀ b xs o, H3 b = some (.tup xs) → (upd H3 D o) b = some (.tup xs) := fun b xs o e => by
        rw [upd_ne (ne_of e h3 (by intro z; cases z))]
        exact e
      refine ⟨_, h3, (by rw [List.length_map, hN.1, List.length_take]; exact small (by have := hO.len; omega)), ts ++ [t], (s1.trans s23).upd_free hD, ?_, ?_⟩
      · rw [upd_same, List.map_append]
        rfl
      · rw [take_snoc hp]
        refine All2.snoc (hN.imp fun u v _ _ n => ?_) ⟨r, keepD _ _ _ ht3, keepD _ _ _ hr3⟩
        obtain ⟨r', n1, n2⟩ := n
        exact ⟨r', keepD _ _ _ (s23 _ _ n1), keepD _ _ _ (s23 _ _ n2)⟩
    rintro H1 ⟨ts, s1, h1, hN⟩
    rw [List.length_map, List.take_length] at hN
    have hdD : d ≠ D := ne_of_none hdL hD
    refine ⟨s1 _ _ hdL, ?_⟩
    have s2 : Same H (upd H1 d (.dK (ps.map fun p => (nK p.1.number, V.ref p.2)))) := fun b o e => by
      by_cases z : b = d
      · subst z; rw [upd_same, ← hd, e]
      · rw [upd_ne z]
        exact s1 _ _ (keepL _ _ e z)
    have hD2 : (upd H1 d (.dK (ps.map fun p => (nK p.1.number, V.ref p.2)))) D = some (.lst (ts.map V.ref)) := by rw [upd_ne hdD.symm]; exact h1
    have hN2 : All2 (fun t (p : BdBox.BFile × Addr) => NestAt (upd H1 d (.dK (ps.map fun p => (nK p.1.number, V.ref p.2)))) t p.1) ts ps := hN.imp fun u v _ _ n => by
      obtain ⟨r', n1, n2⟩ := n
      exact ⟨r', by rw [upd_ne (ne_of n1 (s1 _ _ hdL) (by intro z; cases z))]; exact n1, by rw [upd_ne (ne_of n2 (s1 _ _ hdL) (by intro z; cases z))]; exact n2⟩
    have hd2 := s2 _ _ hd
    have free2 : ∀ b, (upd H1 d (.dK (ps.map fun p => (nK p.1.number, V.ref p.2)))) b = none → H b = none := fun b e => s2.free e
    generalize (upd H1 d (.dK (ps.map fun p => (nK p.1.number, V.ref p.2)))) = H2 at s2 hD2 hN2 hd2 free2
    -- sorted
    refine ⟨D, ts.map V.ref, kOf H2, rfl, SqL.of hD2, fun x hx => ?_, fun ys p hys hyp hp => ?_⟩
    · obtain ⟨t, ht, rfl⟩ := List.mem_map.mp hx
      obtain ⟨i, hi⟩ := List.getElem?_of_mem ht
      obtain ⟨pp, hpp, hn⟩ := hN2.get hi
      have ek := kOf_at hn
      obtain ⟨r, n1, n2⟩ := hn
      rw [ek]
      exact ⟨t, r, rfl, n1, n2⟩
    -- the order is the files' own
    have emap : (ts.map V.ref).map (kOf H2) = (ps.map (fun p => p.1)).map rk := by
      apply List.ext_getElem?
      intro i
      rw [List.getElem?_map, List.getElem?_map, List.getElem?_map, List.getElem?_map]
      cases e : ts[i]? with
      | none =>
        have : ps[i]? = none := by
          rw [List.getElem?_eq_none_iff] at e ⊢
          rw [← hN2.1]
          exact e
        rw [this]
        rfl
      | some t =>
        obtain ⟨pp, hpp, hn⟩ := hN2.get e
        rw [hpp]
        show some (kOf H2 (.ref t)) = some (rk pp.1)
        rw [kOf_at hn]
    have eys : ys.map (kOf H2) = fs.map rk := by
      refine sort_uniq (lt := lexN) ?_ ?_ ?_
      · refine (hyp.map (kOf H2)).trans ?_
        rw [emap]
        exact hperm.map rk
      · rw [List.pairwise_map]
        exact hys
      · rw [List.pairwise_map]
        exact hO.srt.imp rk_lt
    have ylen : ys.length = fs.length := by
      have := congrArg List.length eys
      rw [List.length_map, List.length_map] at this
      exact this
    have hy : ∀ (i : Nat) (y : V), ys[i]? = some y → ∃ t r f, y = .ref t ∧ fs[i]? = some f ∧ H2 t = some (.tup [.ref r, nI f.number]) := by
      intro i y e
      have hm : y ∈ ts.map V.ref := hyp.mem_iff.mp (List.mem_of_getElem? e)
      obtain ⟨t, ht, rfl⟩ := List.mem_map.mp hm
      obtain ⟨j, hj⟩ := List.getElem?_of_mem ht
      obtain ⟨pp, hpp, hn⟩ := hN2.get hj
      have ek := kOf_at hn
      have e2 : (ys.map (kOf H2))[i]? = (fs.map rk)[i]? := by rw [eys]
      rw [List.getElem?_map, e, List.getElem?_map] at e2
      cases ef : fs[i]? with
      | none => rw [ef] at e2; cases e2
      | some f =>
        rw [ef] at e2
        have e3 : kOf H2 (.ref t) = rk f := Option.some.inj e2
        rw [ek] at e3
        have e4 : ((pp.1.number : Int)) = (f.number : Int) := (Prod.mk.inj e3).2
        obtain ⟨r, n1, n2⟩ := hn
        refine ⟨t, r, f, rfl, rfl, ?_⟩
        rw [n1]
        show some (HO.tup [V.ref r, V.int (pp.1.number : Int)]) = some (HO.tup [V.ref r, V.int (f.number : Int)])
        rw [e4]
    have s3 : Same H2 (upd H2 p (.lst ys)) := Same.new hp
    have hp3 : (upd H2 p (.lst ys)) p = some (.lst ys) := upd_same
    generalize (upd H2 p (.lst ys)) = H3 at s3 hp3
    have s03 := s2.trans s3
    -- [self.files[number] for rank, number in ranks]
    refine ⟨_, rfl, p, rfl, ⟨_, SqL.of hp3⟩, fun D2 hD20 => ?_⟩
    refine lc_it (walk_list (xs := ys)) (fun i H4 => ∃ as : List Addr, Same H3 H4 ∧ H4 D2 = some (.lst (as.map V.ref)) ∧ All2 (FileAt CF H) as (fs.take i)) ⟨[], Same.new hD20, upd_same, All2.nil⟩ (fun _ _ _ ⟨_, s4, _⟩ => SqL.of (s4 _ _ hp3)) ?_ ?_
    · rintro i y H4 H5 hi ⟨as, s4, h4, hA⟩ ⟨rfl, hyy⟩
      obtain ⟨t, r, ff, rfl, hff, ht⟩ := hy i y hyy
      have hil := lt_of_get hff
      obtain ⟨c, hc1, hc2⟩ := hfind ff (List.mem_of_getElem? hff)
      rw [ekv] at hc1
      have s05 := s03.trans s4
      refine ⟨t, _, rfl, SqT.of (s4 _ _ (s3 _ _ ht)), rfl, _, _, rfl, _, _, rfl, rfl, rfl, yes_if ?_⟩
      refine ⟨_, rfl, a, CS, dx, _, _, rfl, s05 _ _ ha, T.clS, T.nS2, fS_files, _, rfl, d, .ref c, rfl, (by rw [← hc1]; exact DGet.k (k := nK ff.number) (s05 _ _ hd)), _, h4, ?_, as ++ [c], s4.upd_free hD20, ?_, ?_⟩
      · rw [List.length_map, hA.1, List.length_take]
        exact small (by have := hO.len; omega)
      · rw [upd_same, List.map_append]
        rfl
      · rw [take_snoc hff]
        exact hA.snoc hc2
    · rintro H4 ⟨as, s4, h4, hA⟩
      rw [ylen, List.take_length] at hA
      have s04 := s03.trans s4
      exact q H4 D2 as s04 (s03.free hD20) h4 (hA.imp fun _ _ _ _ r => r.same s04)
end
end BW

namespace BW
open PySem PySem.Spec PyProof.Rows L2 BX
theorem thick_sum : ∀ (fl : List BdBox.BFile), ((fl.map fun f => (f.thick : Int)).sum) = ((BdBox.thickness fl : Nat) : Int)
  | [] => rfl
  | f :: fl => by
    rw [List.map_cons, List.sum_cons, thick_sum fl, thickness_cons]
    omega
theorem inV_nI (n : Nat) : ∀ (ns : List Nat), inV (nI n) (ns.map nI) = ns.contains n
  | [] => rfl
  | m :: ns => by
    have ih := inV_nI n ns
    unfold inV at ih ⊢
    rw [List.map_cons, List.any_cons, ih, List.contains_cons]
    congr 1
    rw [Bool.eq_iff_iff]
    show ((m : Int) == (n : Int)) = true ↔ (n == m) = true
    rw [beq_iff_eq, beq_iff_eq]
    omega
theorem flat_nI : ∀ (ns : List Nat), (ns.map nI).all flatV = true
  | [] => rfl
  | n :: ns => by
    rw [List.map_cons, List.all_cons, flat_nI ns]
    rfl
theorem fS_put {r n : Int} {d l l' : Addr} : putF "boxes" (.ref l') (fS r d l n) = fS r d l' n := (put_past (by decide +kernel)).trans (congrArg _ ((put_past (by decide +kernel)).trans (congrArg _ put_here)))
theorem fS_putC {r n m : Int} {d l : Addr} : putF "coming" (.int m) (fS r d l n) = fS r d l m := (put_past (by decide +kernel)).trans (congrArg _ ((put_past (by decide +kernel)).trans (congrArg _ ((put_past (by decide +kernel)).trans (congrArg _ put_here)))))
def spToldC (CB CS : Addr) : Sp := fun vs H Q _ => ∃ (a d l l' : Addr) (room next : Nat) (bs cs : List PB), vs = [.ref a, .ref l'] ∧ ShelfRaw CS H a room d l next ∧ RowAt CB H l bs ∧ RowAt CB H l' cs ∧ sumLen bs ≤ 1000 ∧ sumLen cs ≤ 1000 ∧ bs.length ≤ 1000 ∧ cs.length ≤ 1000 ∧
  ∀ (H' : Hp) (p : Addr), But a H H' → ShelfRaw CS H' a room d l' next → H p = none → H' p = some (.lst [nI cs.length, .int ((((cs.length : Int) - (tKept bs cs : Int)) + (bs.length : Int)) - (tStill bs cs : Int)), nI (tMoved bs cs), nI (tNew bs cs)]) → Q (.ref p) H'
section
variable {P : Program} {w : World} {K : PySem.W.Frag} {mg : Str → Option Value} {base : Heap} {CF CB CW CS aN : Addr}
/-! ### thicks, thickness -/
theorem scThicks : FnScope ["self", "file"] ["self"] (defScope sThicks) := ⟨rfl, rfl, rfl, by decide +kernel, rfl, by decide +kernel, by decide +kernel⟩
theorem ok_Thicks (D : DefM K CS "thicks" "Shelf.thicks" sThicks ["self"]) (T : Txt K mg CF CB CW CS aN) (C1 : CalM P w K mg base 2 CS "in_order" ["self"] (spInOrder CF CS)) : CalM P w K mg base 3 CS "thicks" ["self"] (spThicks CF CS) := by
  obtain ⟨f1, fd1, G1, m1, b1⟩ := C1
  refine D.cal fun f fd F => F.ok scThicks (fun vs H Q E h => ?_) (fun cdv A outer s H vs Q E hr h => ?_)
  · obtain ⟨a, d, l, room, next, fs, rfl, _⟩ := h
    rfl
  · obtain ⟨a, d, l, room, next, fs, rfl, hS, hD, hO, q⟩ := h
    obtain ⟨dx, ha⟩ := id hS
    refine ⟨_, pss_one (ps_ret (pe_lc (own := [("file", 1)]) (g := gName 1) (by rfl) scThicks.nd (pi_list (pe_meth0 (pv 0) T.clS m1 G1 hr b1 .nil pass0)) (blkOk_by (own := [("file", 1)]) (N := ["self", "file"]) (sc := defScope sThicks) (by decide +kernel))
            (fun _ _ _ _ _ => pg_name (i := 1) scThicks.nd rfl (Or.inl rfl)) (fun _ _ _ _ _ => pts_nil) (fun _ _ _ _ _ => by exact pe_fk K (pv 1)))), ?_⟩
    refine ⟨_, rfl, a, dx, _, rfl, ha, fS_not (by decide +kernel) (by decide +kernel) (by decide +kernel) (by decide +kernel), a, d, l, room, next, fs, rfl, hS, hD, hO, fun H1 p as s1 hp0 hp hA => ?_⟩
    refine ⟨p, rfl, ⟨_, SqL.of hp⟩, fun D0 hD0 => ?_⟩
    refine lc_it (walk_list (xs := as.map V.ref)) (fun i H2 => Same H1 H2 ∧ H2 D0 = some (.lst (((fs.take i).map fun f => f.thick).map nI))) ⟨Same.new hD0, upd_same⟩ (fun _ _ _ ⟨s2, _⟩ => SqL.of (s2 _ _ hp)) ?_ ?_
    · rintro i x H2 H3 hi ⟨s2, h2⟩ ⟨rfl, hx⟩
      obtain ⟨c, hc, rfl⟩ := get_ref hx
      obtain ⟨ff, hff, dy, ey⟩ := hA.get hc
      have hil := lt_of_get hff
      refine ⟨rfl, yes_if ?_⟩
      refine ⟨_, rfl, c, CF, dy, _, _, rfl, s2 _ _ ey, T.clF, T.nF3, fF_thick, _, h2, ?_, s2.upd_free hD0, ?_⟩
      · rw [List.length_map, List.length_map, List.length_take]
        exact small (by have := hO.len; omega)
      · rw [upd_same, take_snoc hff, List.map_append, List.map_append]
        rfl
    · rintro H2 ⟨s2, h2⟩
      rw [List.length_map, hA.1, List.take_length] at h2
      exact q H2 D0 (s1.trans s2) (s1.free hD0) h2
theorem scThickness : FnScope ["self", "numbers", "number"] ["self", "numbers"] (defScope sThickness) := ⟨rfl, rfl, rfl, by decide +kernel, rfl, by decide +kernel, by decide +kernel⟩
theorem ok_Thickness (D : DefM K CS "thickness" "Shelf.thickness" sThickness ["self", "numbers"]) (T : Txt K mg CF CB CW CS aN) : CalM P w K mg base 1 CS "thickness" ["self", "numbers"] (spThickness CF CS) := by
  refine D.cal fun f fd F => F.ok scThickness (fun vs H Q E h => ?_) (fun cdv A outer s H vs Q E hr h => ?_)
  · obtain ⟨a, d, l, k, room, next, fs, fl, rfl, _⟩ := h
    rfl
  · obtain ⟨a, d, l, k, room, next, fs, fl, rfl, ⟨dx, ha⟩, hD, hO, hk, hin, hlen, q⟩ := h
    have hu := hu_of hr
    obtain ⟨kvs, hd, _, hfind, _⟩ := dict_at hD hO.nd
    refine ⟨_, pss_one (ps_ret (pe_callB (cr_sum rfl) (by rfl) T.sum (by decide +kernel) (pa_cons (pe_lc (own := [("number", 2)]) (g := gName 2) (by rfl) scThickness.nd (pi_list (pv 1)) (blkOk_by (own := [("number", 2)]) (N := ["self", "numbers", "number"]) (sc := defScope sThickness) (by decide +kernel))
            (fun _ _ _ _ _ => pg_name (i := 2) scThickness.nd rfl (Or.inl rfl)) (fun _ _ _ _ _ => pts_nil) (fun _ _ _ _ _ => by exact pe_fg K (pe_dget hu (pe_fk K (pv 0)) (pv 2) (fun _ _ => rfl)) rfl)) pa_nil))), ?_⟩
    refine ⟨_, rfl, k, rfl, ⟨_, SqL.of hk⟩, fun D0 hD0 => ?_⟩
    refine lc_it (walk_list (xs := (BdBox.numbersOf fl).map nI)) (fun i H2 => Same H H2 ∧ H2 D0 = some (.lst (((fl.take i).map fun f => (f.thick : Int)).map V.int))) ⟨Same.new hD0, upd_same⟩ (fun _ _ _ ⟨s2, _⟩ => SqL.of (s2 _ _ hk)) ?_ ?_
    · rintro i x H2 H3 hi ⟨s2, h2⟩ ⟨rfl, hx⟩
      obtain ⟨n, hn, rfl⟩ := get_nI hx
      obtain ⟨ff, hff, rfl⟩ : ∃ bf, fl[i]? = some bf ∧ n = bf.number := by
        unfold BdBox.numbersOf at hn
        rw [List.getElem?_map] at hn
        cases e : fl[i]? with
        | none => rw [e] at hn; cases hn
        | some bf => rw [e] at hn; exact ⟨bf, rfl, (Option.some.inj hn).symm⟩
      have hil := lt_of_get hff
      obtain ⟨c, hc1, dy, ey⟩ := hfind ff (hin ff (List.mem_of_getElem? hff))
      refine ⟨rfl, yes_if ?_⟩
      refine ⟨_, rfl, a, CS, dx, _, _, rfl, s2 _ _ ha, T.clS, T.nS2, fS_files, _, rfl, d, .ref c, rfl, (by rw [← hc1]; exact DGet.k (k := nK ff.number) (s2 _ _ hd)), c, CF, dy, _, _, rfl, s2 _ _ ey, T.clF, T.nF3, fF_thick, _, h2, ?_, s2.upd_free hD0, ?_⟩
      · rw [List.length_map, List.length_map, List.length_take]
        exact small (by omega)
      · rw [upd_same, take_snoc hff, List.map_append, List.map_append]
        rfl
    · rintro H2 ⟨s2, h2⟩
      have e : (BdBox.numbersOf fl).length = fl.length := by unfold BdBox.numbersOf; rw [List.length_map]
      rw [List.length_map, e, List.take_length] at h2
      refine ⟨D0, _, rfl, SqL.of h2, ?_⟩
      rw [thick_sum]
      exact q H2 s2
/-! ### told_change -/
theorem scToldC : FnScope ["self", "boxes", "before", "new", "changed", "moved", "box"] ["self", "boxes"] (defScope sToldC) := ⟨rfl, rfl, rfl, by decide +kernel, rfl, by decide +kernel, by decide +kernel⟩
theorem ok_ToldC (D : DefM K CS "told_change" "Shelf.told_change" sToldC ["self", "boxes"]) (T : Txt K mg CF CB CW CS aN) (C1 : CalF P w K mg base 1 "changed_boxes" ["old", "boxes"] (spChanged CB)) (C2 : CalF P w K mg base 1 "moved_files" ["before", "boxes"] (spMoved CB))
    (C3 : CalF P w K mg base 1 "box_by_file" ["boxes"] (spBbf CB)) : CalM P w K mg base 2 CS "told_change" ["self", "boxes"] (spToldC CB CS) := by
  obtain ⟨f1, fd1, G1, g1, k1, b1⟩ := C1
  obtain ⟨f2, fd2, G2, g2, k2, b2⟩ := C2
  obtain ⟨f3, fd3, G3, g3, k3, b3⟩ := C3
  refine D.cal fun f fd F => F.ok scToldC (fun vs H Q E h => ?_) (fun cdv A outer s H vs Q E hr h => ?_)
  · obtain ⟨a, d, l, l', room, next, bs, cs, rfl, _⟩ := h
    rfl
  · obtain ⟨a, d, l, l', room, next, bs, cs, rfl, ⟨dx, ha⟩, hrow, hrow', hs1, hs2, hn1, hn2, q⟩ := h
    obtain ⟨as, hl, hb⟩ := id hrow
    obtain ⟨as', hl', hb'⟩ := id hrow'
    refine ⟨_, pss_cons (ps_set (i := 2) scToldC.nd rfl (Or.inr rfl) (pe_lc (own := [("box", 6)]) (g := gName 6) (by rfl) scToldC.nd (pi_list (pe_fn (pv 0))) (blkOk_by (own := [("box", 6)]) (N := ["self", "boxes", "before", "new", "changed", "moved", "box"]) (sc := defScope sToldC) (by decide +kernel))
            (fun _ _ _ _ _ => pg_name (i := 6) scToldC.nd rfl (Or.inl rfl)) (fun _ _ _ _ _ => pts_nil) (fun _ _ _ _ _ => by exact pe_fk K (pv 6))))
      (pss_cons (ps_set (i := 3) scToldC.nd rfl (Or.inl rfl) (pe_callB call_len_seq (by rfl) T.len PySem.boot_len (pa_cons
          (pe_lc (own := [("box", 6)]) (g := gName 6) (by rfl) scToldC.nd (pi_list (pv 1)) (blkOk_by (own := [("box", 6)]) (N := ["self", "boxes", "before", "new", "changed", "moved", "box"]) (sc := defScope sToldC) (by decide +kernel))
            (fun _ _ _ _ _ => pg_name (i := 6) scToldC.nd rfl (Or.inl rfl))
            (fun _ _ _ _ _ => by exact pts_one (pt_cmpR (show OpR _ _ (rIn K true) from op_notIn_seq) (pe_fk K (pv 6)) (pv 2) (by rfl))) (fun _ _ _ _ _ => pv 6)) pa_nil)))
      (pss_cons (ps_set (i := 4) scToldC.nd rfl (Or.inl rfl) (pe_call G1 hr (by rfl) g1 k1 b1 .nil pass0 (pa_cons (pe_fn (pv 0)) (pa_cons (pv 1) pa_nil))))
      (pss_cons (ps_set (i := 5) scToldC.nd rfl (Or.inl rfl) (pe_call G2 hr (by rfl) g2 k2 b2 .nil pass0 (pa_cons (pe_call G3 hr (by rfl) g3 k3 b3 .nil pass0 (pa_cons (pe_fn (pv 0)) pa_nil)) (pa_cons (pv 1) pa_nil))))
      (pss_cons (ps_fld (pv 0) (pv 1) rfl)
      (pss_one (ps_ret (pe_lst (pa_cons (pe_callB call_len_seq (by rfl) T.len PySem.boot_len (pa_cons (pv 1) pa_nil)) (pa_cons (pv 4) (pa_cons (pv 5) (pa_cons (pv 3) pa_nil))))))))))), ?_⟩
    -- before
    refine ⟨_, rfl, a, CS, dx, _, _, rfl, ha, T.clS, T.nS3, fS_boxes, l, rfl, ⟨_, SqL.of hl⟩, fun D1 hD1 => ?_⟩
    refine lc_it (walk_list (xs := as.map V.ref)) (fun i H1 => Same H H1 ∧ H1 D1 = some (.lst (((bs.take i).map (fun b => b.1)).map nI))) ⟨Same.new hD1, upd_same⟩ (fun _ _ _ ⟨s1, _⟩ => SqL.of (s1 _ _ hl)) ?_ ?_
    · rintro i x H1 H2 hi ⟨s1, h1⟩ ⟨rfl, hx⟩
      obtain ⟨c, hc, rfl⟩ := get_ref hx
      obtain ⟨b, hbi, dy, fl, e1, e2⟩ := hb.get hc
      have hil := lt_of_get hbi
      refine ⟨rfl, yes_if ?_⟩
      refine ⟨_, rfl, c, CB, dy, _, _, rfl, s1 _ _ e1, T.clB, T.nB1, fB_number, _, h1, ?_, s1.upd_free hD1, ?_⟩
      · rw [List.length_map, List.length_map, List.length_take]
        exact small (by omega)
      · rw [upd_same, take_snoc hbi, List.map_append, List.map_append]
        rfl
    rintro H1 ⟨s1, h1⟩
    rw [List.length_map, hb.1, List.take_length] at h1
    -- new
    refine ⟨_, rfl, l', rfl, ⟨_, SqL.of (s1 _ _ hl')⟩, fun D2 hD2 => ?_⟩
    refine lc_it (walk_list (xs := as'.map V.ref)) (fun i H2 => ∃ acc, H2 D2 = some (.lst acc) ∧ acc.length = tNew bs (cs.take i) ∧ Same H1 H2) ⟨_, upd_same, rfl, Same.new hD2⟩ (fun _ _ _ ⟨_, _, _, s2⟩ => SqL.of (s2 _ _ (s1 _ _ hl'))) ?_ ?_
    · rintro i x H2 H3 hi ⟨acc, hA, hlen, s2⟩ ⟨rfl, hx⟩
      obtain ⟨c, hc, rfl⟩ := get_ref hx
      obtain ⟨b, hbi, dy, fl, e1, e2⟩ := hb'.get hc
      have hil := lt_of_get hbi
      refine ⟨rfl, _, rfl, c, CB, dy, _, _, rfl, s2 _ _ (s1 _ _ e1), T.clB, T.nB1, fB_number, _, rfl, D1, _, rfl, .inl (SqL.of (s2 _ _ h1)), rfl, flat_nI _, _, rfl, ?_⟩
      have e := filter_step (fun b : PB => !(bs.map (·.1)).contains b.1) hbi
      have le := filter_le cs i (fun b : PB => !(bs.map (·.1)).contains b.1)
      have ek : ∀ j, tNew bs (cs.take j) = ((cs.take j).filter (fun b : PB => !(bs.map (·.1)).contains b.1)).length := fun _ => rfl
      have ei : (if true = true then !inV (V.int (b.1 : Int)) ((bs.map (fun b => b.1)).map nI) else inV (V.int (b.1 : Int)) ((bs.map (fun b => b.1)).map nI)) = !(bs.map (·.1)).contains b.1 := by
        rw [if_pos rfl, show V.int (b.1 : Int) = nI b.1 from rfl, inV_nI]
      cases c : (bs.map (·.1)).contains b.1 with
      | false =>
        refine if_t (by rw [ei, c]; rfl) ⟨_, rfl, acc, hA, small (by rw [hlen, ek]; omega), _, upd_same, ?_, s2.upd_free hD2⟩
        rw [List.length_append, hlen, ek, ek, e, c]
        rfl
      | true =>
        refine if_f (by rw [ei, c]; rfl) ⟨acc, hA, ?_, s2⟩
        rw [hlen, ek, ek, e, c]
        rfl
    rintro H2 ⟨acc, hA, hlen, s2⟩
    rw [List.length_map, hb'.1, List.take_length] at hlen
    have s02 := s1.trans s2
    refine ⟨D2, _, rfl, .inl (SqL.of hA), ?_⟩
    -- changed
    refine ⟨_, rfl, a, CS, dx, _, _, rfl, s02 _ _ ha, T.clS, T.nS3, fS_boxes, _, rfl, l, l', bs, cs, rfl, hrow.same s02, hrow'.same s02, hn1, hn2, fun H3 s3 => ?_⟩
    have s03 := s02.trans s3
    -- moved
    refine ⟨_, rfl, a, CS, dx, _, _, rfl, s03 _ _ ha, T.clS, T.nS3, fS_boxes, l, bs, rfl, hrow.same s03, hs1, fun H4 dd kvs s4 hdd0 hdd hkv => ?_⟩
    have s04 := s03.trans s4
    refine ⟨_, rfl, dd, l', kvs, _, cs, rfl, hdd, hkv, hrow'.same s04, hs2, fun H5 s5 => ?_⟩
    have s05 := s04.trans s5
    -- self.boxes = boxes
    refine ⟨_, rfl, _, rfl, a, CS, dx, _, rfl, s05 _ _ ha, T.clS, T.nS3, (by show 4 < 1000; decide), ?_⟩
    have ha5 := s05 _ _ ha
    have B6 : But a H (upd H5 a (.ins CS dx (putF "boxes" (.ref l') (fS room d l next)))) := s05.but.trans But.upd
    have R6 : ShelfRaw CS (upd H5 a (.ins CS dx (putF "boxes" (.ref l') (fS room d l next)))) a room d l' next := ⟨dx, by rw [upd_same, fS_put]⟩
    have free6 : ∀ b, (upd H5 a (.ins CS dx (putF "boxes" (.ref l') (fS room d l next)))) b = none → H b = none := fun b e => by
      by_cases z : b = a
      · subst z; rw [upd_same] at e; cases e
      · rw [upd_ne z] at e; exact s05.free e
    have hl6 : (upd H5 a (.ins CS dx (putF "boxes" (.ref l') (fS room d l next)))) l' = some (.lst (as'.map V.ref)) := B6.keep ha hl' (by intro z; cases z)
    generalize (upd H5 a (.ins CS dx (putF "boxes" (.ref l') (fS room d l next)))) = H6 at B6 R6 free6 hl6
    refine ⟨_, rfl, l', _, rfl, .inl (SqL.of hl6), _, rfl, _, rfl, _, rfl, (by show 4 ≤ sizeLine; decide), fun p hp => ?_⟩
    refine q _ p (B6.trans (Same.new hp).but) (R6.same (Same.new hp)) (free6 p hp) ?_
    rw [upd_same, List.length_map, hb'.1, hlen]
    rfl
end
end BW

namespace BW
open PySem PySem.Spec PyProof.Rows L2 BX
theorem cutV_front (xs : List V) {k : Nat} (hk : k ≤ xs.length) : cutV xs none (some (k : Int)) = xs.take k := by
  unfold cutV
  rw [HT.sIx_nat, HT.sIx_none, Nat.min_eq_left hk, List.drop_zero, Nat.sub_zero]
/-- a shelf at rest: its boxes, its files -/
structure Rest (CF CB CS : Addr) (H : Hp) (a d l : Addr) (room next : Nat) (old : List BdBox.Box) (fs : List BdBox.BFile) : Prop where
  raw : ShelfRaw CS H a room d l next
  row : RowAt CB H l (row old)
  dict : DictAt CF H d fs
  ord : Ord fs
  once : Once old
  sm : sumLen (BX.row old) ≤ 1000
  ol : old.length ≤ 100
  sub : ∀ b ∈ old, ∀ f ∈ b.files, f ∈ fs
theorem Rest.same {CF CB CS : Addr} {H H' : Hp} {a d l : Addr} {room next : Nat} {old : List BdBox.Box} {fs : List BdBox.BFile} (s : Same H H') (R : Rest CF CB CS H a d l room next old fs) : Rest CF CB CS H' a d l room next old fs :=
  ⟨R.raw.same s, R.row.same s, R.dict.same s, R.ord, R.once, R.sm, R.ol, R.sub⟩
theorem Rest.box {CF CB CS : Addr} {H : Hp} {a d l : Addr} {room next : Nat} {old : List BdBox.Box} {fs : List BdBox.BFile} (R : Rest CF CB CS H a d l room next old fs) : ∃ as : List Addr, H l = some (.lst (as.map V.ref)) ∧ as.length = old.length ∧ ∀ (i : Nat) (b : BdBox.Box), old[i]? = some b → ∃ c dy fl, as[i]? = some c ∧ H c = some (.ins CB dy (fB b.number fl)) ∧ H fl = some (.lst ((BdBox.numbersOf b.files).map nI)) := by
  obtain ⟨as, h1, h2⟩ := R.row
  refine ⟨as, h1, ?_, fun i b hb => ?_⟩
  · rw [h2.1]; unfold BX.row; rw [List.length_map]
  · have hrow : (BX.row old)[i]? = some (pb b) := by unfold BX.row; rw [List.getElem?_map, hb]; rfl
    obtain ⟨c, hc, dy, fl, e1, e2⟩ := h2.get' hrow
    exact ⟨c, dy, fl, hc, e1, e2⟩
theorem sum_ge {bs : List PB} {b : PB} (h : b ∈ bs) : b.2.length ≤ sumLen bs := by
  obtain ⟨i, hi⟩ := List.getElem?_of_mem h
  have := (sumLen_take hi).1
  omega
theorem Rest.boxlen {CF CB CS : Addr} {H : Hp} {a d l : Addr} {room next : Nat} {old : List BdBox.Box} {fs : List BdBox.BFile} (R : Rest CF CB CS H a d l room next old fs) {b : BdBox.Box} (hb : b ∈ old) : b.files.length ≤ 1000 := by
  have := sum_ge (bs := BX.row old) (b := pb b) (List.mem_map.mpr ⟨b, hb, rfl⟩)
  have e : (pb b).2.length = b.files.length := by unfold pb BdBox.numbersOf; rw [List.length_map]
  have := R.sm
  omega
theorem numbersOf_get {fl : List BdBox.BFile} {i : Nat} {f : BdBox.BFile} (h : fl[i]? = some f) : (BdBox.numbersOf fl)[i]? = some f.number := by
  unfold BdBox.numbersOf
  rw [List.getElem?_map, h]
  rfl
theorem sub_len {fl fs : List BdBox.BFile} (nd : (fl.map fun f => f.number).Nodup) (h : ∀ f ∈ fl, f ∈ fs) : fl.length ≤ fs.length := by
  induction fl generalizing fs with
  | nil => exact Nat.zero_le _
  | cons f fl ih =>
    rw [List.map_cons, List.nodup_cons] at nd
    have hf := h f List.mem_cons_self
    obtain ⟨l1, l2, e⟩ := List.append_of_mem hf
    subst e
    have := ih (fs := l1 ++ l2) nd.2 (fun g hg => by
      have := h g (List.mem_cons_of_mem _ hg)
      rcases List.mem_append.mp this with q | q
      · exact List.mem_append_left _ q
      · rcases List.mem_cons.mp q with q | q
        · subst q
          exact absurd (List.mem_map.mpr ⟨g, hg, rfl⟩) nd.1
        · exact List.mem_append_right _ q)
    rw [List.length_append, List.length_cons]
    rw [List.length_append] at this
    rw [List.length_cons]
    omega
theorem once_box {old : List BdBox.Box} (h : Once old) {b : BdBox.Box} (hb : b ∈ old) : (b.files.map fun f => f.number).Nodup := by
  induction old with
  | nil => simp at hb
  | cons c old ih =>
    rcases List.mem_cons.mp hb with rfl | hb
    · unfold Once at h
      rw [List.flatMap_cons, List.nodup_append] at h
      exact h.1
    · exact ih h.tail hb
def spWhereM (CF CB CS : Addr) : Sp := fun vs H Q _ => ∃ (a d l : Addr) (room next n i k : Nat) (old : List BdBox.Box) (fs : List BdBox.BFile) (b : BdBox.Box), vs = [.ref a, nI n] ∧ Rest CF CB CS H a d l room next old fs ∧
  BdBox.boxOf old n = some i ∧ old[i]? = some b ∧ (b.files.findIdx? fun (g : BdBox.BFile) => g.number == n) = some k ∧
  ∀ (H' : Hp) (p : Addr), Same H H' → H p = none → H' p = some (.lst [nI b.number, nI i, nI k, nI (BdBox.thickness (b.files.take k))]) → Q (.ref p) H'
def spBoxTold (CF CB CS : Addr) : Sp := fun vs H Q _ => ∃ (a d l : Addr) (room next i : Nat) (old : List BdBox.Box) (fs : List BdBox.BFile) (b : BdBox.Box) (f0 : BdBox.BFile), vs = [.ref a, nI i] ∧ Rest CF CB CS H a d l room next old fs ∧ old[i]? = some b ∧ b.files.head? = some f0 ∧
  ∀ (H' : Hp) (p : Addr), Same H H' → H p = none → H' p = some (.lst [nI b.files.length, nI b.number, nI f0.number, .int ((room : Int) - (BdBox.thickness b.files : Nat))]) → Q (.ref p) H'
def lessN (fs : List BdBox.BFile) (key : Nat) : Nat := (fs.filter fun (f : BdBox.BFile) => decide (f.key < key)).length
def spSeekM (CF CB CS : Addr) : Sp := fun vs H Q _ => ∃ (a d l : Addr) (room next key : Nat) (old : List BdBox.Box) (fs : List BdBox.BFile), vs = [.ref a, nI key] ∧ Rest CF CB CS H a d l room next old fs ∧ (∀ f ∈ fs, ∃ i, BdBox.boxOf old f.number = some i) ∧
  ∀ (H' : Hp) (p : Addr) (r : V), Same H H' → H p = none → ((fs[lessN fs key]? = none ∧ r = .int (-1)) ∨ ∃ f i, fs[lessN fs key]? = some f ∧ BdBox.boxOf old f.number = some i ∧ r = nI i) → H' p = some (.lst [nI (lessN fs key), r]) → Q (.ref p) H'
section
variable {P : Program} {w : World} {K : PySem.W.Frag} {mg : Str → Option Value} {base : Heap} {CF CB CW CS aN : Addr}
theorem scWhereM : FnScope ["self", "number", "at", "box", "place"] ["self", "number"] (defScope sWhereM) := ⟨rfl, rfl, rfl, by decide +kernel, rfl, by decide +kernel, by decide +kernel⟩
theorem ok_WhereM (D : DefM K CS "where" "Shelf.where" sWhereM ["self", "number"]) (T : Txt K mg CF CB CW CS aN) (C1 : CalF P w K mg base 1 "place_by_file" ["boxes"] (spPlace CB)) (C2 : CalM P w K mg base 1 CS "thickness" ["self", "numbers"] (spThickness CF CS)) :
    CalM P w K mg base 2 CS "where" ["self", "number"] (spWhereM CF CB CS) := by
  obtain ⟨f1, fd1, G1, g1, k1, b1⟩ := C1
  obtain ⟨f2, fd2, G2, m2, b2⟩ := C2
  refine D.cal fun f fd F => F.ok scWhereM (fun vs H Q E h => ?_) (fun cdv A outer s H vs Q E hr h => ?_)
  · obtain ⟨a, d, l, room, next, n, i, k, old, fs, b, rfl, _⟩ := h
    rfl
  · obtain ⟨a, d, l, room, next, n, i, k, old, fs, b, rfl, R, hbo, hbi, hk, q⟩ := h
    have hu := hu_of hr
    obtain ⟨dx, ha⟩ := id R.raw
    obtain ⟨as, hl, hlen, hbox⟩ := R.box
    obtain ⟨c, dy, fl, hc, e1, e2⟩ := hbox i b hbi
    have hbm := List.mem_of_getElem? hbi
    refine ⟨_, pss_cons (ps_set (i := 2) scWhereM.nd rfl (Or.inl rfl) (pe_dget hu (pe_call G1 hr (by rfl) g1 k1 b1 .nil pass0 (pa_cons (pe_fn (pv 0)) pa_nil)) (pv 1) (fun _ _ => rfl)))
      (pss_cons (ps_set (i := 3) scWhereM.nd rfl (Or.inl rfl) (pe_ix ix_list (pe_fn (pv 0)) (pv 2) (fun _ _ => rfl)))
      (pss_cons (ps_set (i := 4) scWhereM.nd rfl (Or.inl rfl) (pe_bm PySem.F.plainAttrs_list PySem.F.slot_list_index PySem.F.type_list_index mt_index (pe_fn (pv 3)) (pa_cons (pv 1) pa_nil)))
      (pss_one (ps_ret (pe_lst (pa_cons (pe_fn (pv 3)) (pa_cons (pv 2) (pa_cons (pv 4) (pa_cons (pe_meth (pv 0) T.clS m2 G2 hr b2 .nil pass0 (pa_cons (pe_slice sl_list (pe_fn (pv 3)) po_none (po_some (pv 4))) pa_nil)) pa_nil))))))))), ?_⟩
    refine ⟨_, rfl, a, CS, dx, _, _, rfl, ha, T.clS, T.nS3, fS_boxes, l, _, rfl, R.row, R.sm, fun H1 pd kvs s1 hpd0 hpd hkv => ?_⟩
    have hat : valV kvs (nK n) = some (nI i) := by
      rw [hkv n, lk_place 0 R.once, hbo]
      show some (nI (0 + i)) = _
      rw [Nat.zero_add]
    refine ⟨_, rfl, pd, nI i, rfl, (by rw [← hat]; exact DGet.k (k := nK n) hpd), ?_⟩
    have ha1 := s1 _ _ ha
    refine ⟨_, rfl, a, CS, dx, _, _, rfl, ha1, T.clS, T.nS3, fS_boxes, _, rfl, l, _, _, _, rfl, rfl, SqL.of (s1 _ _ hl), atI_nat (by rw [List.getElem?_map, hc]; rfl), ?_⟩
    -- box.files.index(number)
    obtain ⟨hk1, hk2, hk3⟩ := List.findIdx?_eq_some_iff_getElem.mp hk
    have e2' := s1 _ _ e2
    have hkl : k < b.files.length := hk1
    have hkn : (BdBox.numbersOf b.files)[k]? = some n := by
      rw [numbersOf_get (List.getElem?_eq_getElem hk1)]
      congr 1
      simpa using hk2
    refine ⟨_, rfl, c, CB, dy, _, _, rfl, s1 _ _ e1, T.clB, T.nB2, fB_files, .inl ⟨rfl, _, SqL.of e2'⟩, _, rfl, fl, _, nI n, k, nI n, rfl, rfl, SqL.of e2', rfl, flat_nI _, (by rw [List.getElem?_map, hkn]; rfl), (by show ((n : Int) == (n : Int)) = true; simp), fun m z hm hz => ?_, ?_⟩
    · obtain ⟨n', hn', rfl⟩ := get_nI hz
      have hml : m < b.files.length := Nat.lt_trans hm hkl
      have e := numbersOf_get (List.getElem?_eq_getElem hml)
      rw [hn'] at e
      have e := Option.some.inj e
      have h3 := hk3 m hm
      show ((n' : Int) == (n : Int)) = false
      rw [e]
      have : ¬ (b.files[m]).number = n := by simpa using h3
      rw [beq_eq_false_iff_ne]
      omega
    -- the answer
    refine ⟨_, rfl, c, CB, dy, _, _, rfl, s1 _ _ e1, T.clB, T.nB1, fB_number, _, rfl, _, rfl, _, rfl, a, dx, _, rfl, ha1, fS_not (by decide +kernel) (by decide +kernel) (by decide +kernel) (by decide +kernel), _, rfl, c, CB, dy, _, _, rfl, s1 _ _ e1, T.clB, T.nB2, fB_files, _, rfl, _, rfl, fl, _, rfl, SqL.of e2', fun p1 hp1 => ?_⟩
    have s2 : Same H1 (upd H1 p1 (.lst (cutV ((BdBox.numbersOf b.files).map nI) none (some (k : Int))))) := Same.new hp1
    have hcut : cutV ((BdBox.numbersOf b.files).map nI) none (some (k : Int)) = (BdBox.numbersOf (b.files.take k)).map nI := by
      rw [cutV_front _ (by rw [List.length_map]; unfold BdBox.numbersOf; rw [List.length_map]; omega)]
      unfold BdBox.numbersOf
      rw [← List.map_take, ← List.map_take]
    rw [hcut] at s2 ⊢
    have hp1' : (upd H1 p1 (.lst ((BdBox.numbersOf (b.files.take k)).map nI))) p1 = some (.lst ((BdBox.numbersOf (b.files.take k)).map nI)) := upd_same
    generalize (upd H1 p1 (.lst ((BdBox.numbersOf (b.files.take k)).map nI))) = H2 at s2 hp1'
    have s02 := s1.trans s2
    have hsub := sub_len (once_box R.once hbm) (R.sub b hbm)
    refine ⟨a, d, l, p1, room, next, fs, b.files.take k, rfl, R.raw.same s02, R.dict.same s02, R.ord, hp1', fun g hg => R.sub b hbm g (List.mem_of_mem_take hg), (by rw [List.length_take]; have := R.ord.len; omega), fun H3 s3 => ?_⟩
    have s03 := s02.trans s3
    refine ⟨(by show 4 ≤ sizeLine; decide), fun p hp => ?_⟩
    exact q _ p (s03.trans (Same.new hp)) (s03.free hp) upd_same
theorem scBoxTold : FnScope ["self", "at", "box"] ["self", "at"] (defScope sBoxTold) := ⟨rfl, rfl, rfl, by decide +kernel, rfl, by decide +kernel, by decide +kernel⟩
theorem ok_BoxTold (D : DefM K CS "box_told" "Shelf.box_told" sBoxTold ["self", "at"]) (T : Txt K mg CF CB CW CS aN) (C2 : CalM P w K mg base 1 CS "thickness" ["self", "numbers"] (spThickness CF CS)) :
    CalM P w K mg base 2 CS "box_told" ["self", "at"] (spBoxTold CF CB CS) := by
  obtain ⟨f2, fd2, G2, m2, b2⟩ := C2
  refine D.cal fun f fd F => F.ok scBoxTold (fun vs H Q E h => ?_) (fun cdv A outer s H vs Q E hr h => ?_)
  · obtain ⟨a, d, l, room, next, i, old, fs, b, f0, rfl, _⟩ := h
    rfl
  · obtain ⟨a, d, l, room, next, i, old, fs, b, f0, rfl, R, hbi, hf0, q⟩ := h
    obtain ⟨dx, ha⟩ := id R.raw
    obtain ⟨as, hl, hlen, hbox⟩ := R.box
    obtain ⟨c, dy, fl, hc, e1, e2⟩ := hbox i b hbi
    have hbm := List.mem_of_getElem? hbi
    refine ⟨_, pss_cons (ps_set (i := 2) scBoxTold.nd rfl (Or.inl rfl) (pe_ix ix_list (pe_fn (pv 0)) (pv 1) (fun _ _ => rfl)))
      (pss_one (ps_ret (pe_lst (pa_cons (pe_callB call_len_seq (by rfl) T.len PySem.boot_len (pa_cons (pe_fn (pv 2)) pa_nil)) (pa_cons (pe_fn (pv 2)) (pa_cons (pe_ix ix_list (pe_fn (pv 2)) pe_int (fun _ _ => rfl))
        (pa_cons (pe_op op_sub (pe_fn (pv 0)) (pe_meth (pv 0) T.clS m2 G2 hr b2 .nil pass0 (pa_cons (pe_fn (pv 2)) pa_nil))) pa_nil))))))), ?_⟩
    refine ⟨_, rfl, a, CS, dx, _, _, rfl, ha, T.clS, T.nS3, fS_boxes, _, rfl, l, _, _, _, rfl, rfl, SqL.of hl, atI_nat (by rw [List.getElem?_map, hc]; rfl), ?_⟩
    have hsub := sub_len (once_box R.once hbm) (R.sub b hbm)
    have h0 : ((BdBox.numbersOf b.files).map nI)[0]? = some (nI f0.number) := by
      rw [List.getElem?_map, numbersOf_get (by rw [← List.head?_eq_getElem?]; exact hf0)]
      rfl
    refine ⟨_, rfl, c, CB, dy, _, _, rfl, e1, T.clB, T.nB2, fB_files, fl, _, rfl, .inl (SqL.of e2), _, rfl, c, CB, dy, _, _, rfl, e1, T.clB, T.nB1, fB_number, _, rfl, c, CB, dy, _, _, rfl, e1, T.clB, T.nB2, fB_files, fl, _, _, _, rfl, rfl, SqL.of e2, at_of (j := 0) rfl h0, _, rfl, a, CS, dx, _, _, rfl, ha, T.clS, T.nS1, fS_room, ?_⟩
    refine ⟨_, rfl, a, dx, _, rfl, ha, fS_not (by decide +kernel) (by decide +kernel) (by decide +kernel) (by decide +kernel), _, rfl, c, CB, dy, _, _, rfl, e1, T.clB, T.nB2, fB_files, a, d, l, fl, room, next, fs, b.files, rfl, R.raw, R.dict, R.ord, e2, R.sub b hbm, (by have := R.ord.len; omega), fun H3 s3 => ?_⟩
    refine ⟨_, _, rfl, rfl, (by show 4 ≤ sizeLine; decide), fun p hp => ?_⟩
    refine q _ p (s3.trans (Same.new hp)) (s3.free hp) ?_
    rw [upd_same, List.length_map]
    have e : (BdBox.numbersOf b.files).length = b.files.length := by unfold BdBox.numbersOf; rw [List.length_map]
    rw [e]
theorem scSeekM : FnScope ["self", "key", "files", "less", "file"] ["self", "key"] (defScope sSeekM) := ⟨rfl, rfl, rfl, by decide +kernel, rfl, by decide +kernel, by decide +kernel⟩
theorem ok_SeekM (D : DefM K CS "seek" "Shelf.seek" sSeekM ["self", "key"]) (T : Txt K mg CF CB CW CS aN) (C1 : CalF P w K mg base 1 "place_by_file" ["boxes"] (spPlace CB)) (C2 : CalM P w K mg base 2 CS "in_order" ["self"] (spInOrder CF CS)) :
    CalM P w K mg base 3 CS "seek" ["self", "key"] (spSeekM CF CB CS) := by
  obtain ⟨f1, fd1, G1, g1, k1, b1⟩ := C1
  obtain ⟨f2, fd2, G2, m2, b2⟩ := C2
  refine D.cal fun f fd F => F.ok scSeekM (fun vs H Q E h => ?_) (fun cdv A outer s H vs Q E hr h => ?_)
  · obtain ⟨a, d, l, room, next, key, old, fs, rfl, _⟩ := h
    rfl
  · obtain ⟨a, d, l, room, next, key, old, fs, rfl, R, hall, q⟩ := h
    have hu := hu_of hr
    have hr1 : Room 1 (A.deeper (envOfC "Shelf.seek" (defScope sSeekM) s.heap.objs.size f cdv)) := hr.mono (by decide)
    obtain ⟨dx, ha⟩ := id R.raw
    refine ⟨_, pss_cons (ps_set (i := 2) scSeekM.nd rfl (Or.inl rfl) (pe_meth0 (pv 0) T.clS m2 G2 hr b2 .nil pass0))
      (pss_cons (ps_set (i := 3) scSeekM.nd rfl (Or.inl rfl) (pe_callB call_len_seq (by rfl) T.len PySem.boot_len (pa_cons
          (pe_lc (own := [("file", 4)]) (g := gName 4) (by rfl) scSeekM.nd (pi_list (pv 2)) (blkOk_by (own := [("file", 4)]) (N := ["self", "key", "files", "less", "file"]) (sc := defScope sSeekM) (by decide +kernel))
            (fun _ _ _ _ _ => pg_name (i := 4) scSeekM.nd rfl (Or.inl rfl))
            (fun _ _ _ _ _ => by exact pts_one (pt_cmpR op_lt (pe_fk K (pv 4)) (pv 1) (nomark _))) (fun _ _ _ _ _ => pv 4)) pa_nil)))
      (pss_cons (ps_if (pt_cmpR op_eq (pv 3) (pe_callB call_len_seq (by rfl) T.len PySem.boot_len (pa_cons (pv 2) pa_nil)) (nomark _))
        (pss_one (ps_ret (pe_lst (pa_cons (pv 3) (pa_cons (pe_un un_neg pe_int) pa_nil))))) pss_nil)
      (pss_one (ps_ret (pe_lst (pa_cons (pv 3) (pa_cons (pe_dget hu (pe_call G1 hr1 (by rfl) g1 k1 b1 .nil pass0 (pa_cons (pe_fn (pv 0)) pa_nil)) (pe_fld (pe_ix ix_list (pv 2) (pv 3) (fun _ _ => rfl)) rfl) (fun _ _ => rfl)) pa_nil))))))), ?_⟩
    refine ⟨_, rfl, a, dx, _, rfl, ha, fS_not (by decide +kernel) (by decide +kernel) (by decide +kernel) (by decide +kernel), a, d, l, room, next, fs, rfl, R.raw, R.dict, R.ord, fun H1 p1 as s1 hp10 hp1 hA => ?_⟩
    refine ⟨_, rfl, p1, rfl, ⟨_, SqL.of hp1⟩, fun D0 hD0 => ?_⟩
    refine lc_it (walk_list (xs := as.map V.ref)) (fun i H2 => ∃ acc, H2 D0 = some (.lst acc) ∧ acc.length = lessN (fs.take i) key ∧ Same H1 H2) ⟨_, upd_same, rfl, Same.new hD0⟩ (fun _ _ _ ⟨_, _, _, s2⟩ => SqL.of (s2 _ _ hp1)) ?_ ?_
    · rintro i x H2 H3 hi ⟨acc, hac, hlen, s2⟩ ⟨rfl, hx⟩
      obtain ⟨c, hc, rfl⟩ := get_ref hx
      obtain ⟨ff, hff, dy, ey⟩ := hA.get hc
      have hil := lt_of_get hff
      have hfl := R.ord.len
      refine ⟨rfl, _, rfl, c, CF, dy, _, _, rfl, s2 _ _ ey, T.clF, T.nF2, fF_key, _, rfl, _, _, rfl, rfl, _, rfl, ?_⟩
      have e := filter_step (fun (g : BdBox.BFile) => decide (g.key < key)) hff
      have le := filter_le fs i (fun (g : BdBox.BFile) => decide (g.key < key))
      have ek : ∀ j, lessN (fs.take j) key = ((fs.take j).filter (fun (g : BdBox.BFile) => decide (g.key < key))).length := fun _ => rfl
      by_cases c2 : ff.key < key
      · refine if_t (decide_eq_true (by omega)) ⟨_, rfl, acc, hac, small (by rw [hlen, ek]; omega), _, upd_same, ?_, s2.upd_free hD0⟩
        rw [List.length_append, hlen, ek, ek, e, if_pos (decide_eq_true c2)]
        rfl
      · refine if_f (decide_eq_false (by omega)) ⟨acc, hac, ?_, s2⟩
        rw [hlen, ek, ek, e, if_neg (by rw [decide_eq_false c2]; decide)]
        rfl
    rintro H2 ⟨acc, hac, hlen, s2⟩
    rw [List.length_map, hA.1, List.take_length] at hlen
    have s02 := s1.trans s2
    refine ⟨D0, _, rfl, .inl (SqL.of hac), ?_⟩
    rw [hlen]
    -- if less == len(files)
    refine ⟨_, rfl, _, rfl, p1, _, rfl, .inl (SqL.of (s2 _ _ hp1)), rfl, _, rfl, ?_⟩
    rw [List.length_map, hA.1]
    have hle : lessN fs key ≤ fs.length := List.length_filter_le _ _
    by_cases c : lessN fs key = fs.length
    · refine if_t (decide_eq_true (by rw [c])) ?_
      refine ⟨_, rfl, _, rfl, (by show 2 ≤ sizeLine; decide), fun p hp => ?_⟩
      refine q _ p (.int (-1)) (s02.trans (Same.new hp)) (s02.free hp) (.inl ⟨?_, rfl⟩) upd_same
      rw [c]
      exact List.getElem?_eq_none_iff.mpr (Nat.le_refl _)
    · refine if_f (decide_eq_false (fun z => c (by have := V.int.inj z; omega))) ?_
      obtain ⟨ff, hff⟩ := get_of_lt (l := fs) (i := lessN fs key) (by omega)
      obtain ⟨c0, hc0, hfc⟩ := hA.get' hff
      obtain ⟨i, hi⟩ := hall ff (List.mem_of_getElem? hff)
      refine ⟨_, rfl, _, rfl, a, CS, dx, _, _, rfl, s02 _ _ ha, T.clS, T.nS3, fS_boxes, l, _, rfl, R.row.same s02, R.sm, fun H3 pd kvs s3 hpd0 hpd hkv => ?_⟩
      have hat : valV kvs (nK ff.number) = some (nI i) := by
        rw [hkv ff.number, lk_place 0 R.once, hi]
        show some (nI (0 + i)) = _
        rw [Nat.zero_add]
      have s23 := s2.trans s3
      obtain ⟨dy, ey⟩ := hfc.same s23
      refine ⟨_, rfl, _, rfl, p1, _, _, _, rfl, rfl, SqL.of (s23 _ _ hp1), atI_nat (by rw [List.getElem?_map, hc0]; rfl), c0, CF, dy, _, _, rfl, ey, T.clF, T.nF1, fF_number, pd, nI i, rfl, (by rw [← hat]; exact DGet.k (k := nK ff.number) hpd), (by show 2 ≤ sizeLine; decide), fun p hp => ?_⟩
      have s03 := s02.trans s3
      exact q _ p (nI i) (s03.trans (Same.new hp)) (s03.free hp) (.inr ⟨ff, i, hff, hi, rfl⟩) upd_same
end
end BW

namespace BW
open PySem PySem.Spec PyProof.Rows L2 BX
theorem sumLen_row : ∀ (bs : List BdBox.Box), sumLen (row bs) = (bs.flatMap fun b => b.files).length
  | [] => rfl
  | b :: bs => by
    have ih := sumLen_row bs
    rw [List.flatMap_cons, List.length_append, ← ih]
    unfold sumLen row
    rw [List.map_cons, List.map_cons, List.sum_cons]
    congr 1
    show (BdBox.numbersOf b.files).length = _
    unfold BdBox.numbersOf
    rw [List.length_map]
theorem nI_ne_ref {ns : List Nat} (h : ns ≠ []) (cs : List Addr) : ns.map nI ≠ cs.map V.ref := by
  cases ns with
  | nil => exact absurd rfl h
  | cons n ns =>
    intro e
    cases cs with
    | nil => cases e
    | cons c cs =>
      rw [List.map_cons, List.map_cons] at e
      cases (List.cons.inj e).1
theorem FilesOk.ord {room : Nat} {fs : List BdBox.BFile} (F : FilesOk room fs) : Ord fs := ⟨F.srt, F.nd, Nat.le_trans F.len (by decide)⟩
def spAnew (CF CB CS : Addr) : Sp := fun vs H Q _ => ∃ (a d l : Addr) (room next : Nat) (old : List BdBox.Box) (fs : List BdBox.BFile), vs = [.ref a] ∧ ShelfRaw CS H a room d l next ∧ RowAt CB H l (row old) ∧ DictAt CF H d fs ∧ FilesOk room fs ∧ Old old next ∧ old.length ≤ 100 ∧ sumLen (row old) ≤ 1000 ∧
  ∀ (H' : Hp) (p l' : Addr), But a H H' → ShelfRaw CS H' a room d l' (next + BdBox.newIn (BdBox.wayTaken old room fs)) → RowAt CB H' l' (row (BdBox.boxesBy old next (BdBox.wayTaken old room fs))) → H p = none →
    H' p = some (.lst [nI (BdBox.wayTaken old room fs).length, nI (BdBox.changedBy old (BdBox.wayTaken old room fs)), nI (BdBox.movedBy old (BdBox.wayTaken old room fs)), nI (BdBox.newIn (BdBox.wayTaken old room fs))]) → Q (.ref p) H'
/-- a row that grows: boxes that hold files -/
def RowUp (CB : Addr) (H : Hp) (q : Addr) (cs : List Addr) (bs : List BdBox.Box) : Prop := H q = some (.lst (cs.map V.ref)) ∧ All2 (fun c (b : BdBox.Box) => BoxAt CB H c (pb b) ∧ b.files ≠ []) cs bs
theorem RowUp.row {CB : Addr} {H : Hp} {q : Addr} {cs : List Addr} {bs : List BdBox.Box} (h : RowUp CB H q cs bs) : RowAt CB H q (row bs) := by
  refine ⟨cs, h.1, ?_, fun i c b hc hb => ?_⟩
  · unfold BX.row; rw [List.length_map, h.2.1]
  · unfold BX.row at hb
    rw [List.getElem?_map] at hb
    cases e : bs[i]? with
    | none => rw [e] at hb; cases hb
    | some x =>
      rw [e] at hb
      have hb : pb x = b := Option.some.inj hb
      subst hb
      exact (h.2.2 i c x hc e).1
theorem RowUp.same {CB : Addr} {H H' : Hp} {q : Addr} {cs : List Addr} {bs : List BdBox.Box} (s : Same H H') (h : RowUp CB H q cs bs) : RowUp CB H' q cs bs := ⟨s _ _ h.1, h.2.imp fun _ _ _ _ r => ⟨r.1.same s, r.2⟩⟩
theorem RowUp.but {CB CS : Addr} {H H' : Hp} {a d l q : Addr} {r n : Nat} {cs : List Addr} {bs : List BdBox.Box} (s : But a H H') (R : ShelfRaw CS H a r d l n) (h : RowUp CB H q cs bs) : RowUp CB H' q cs bs := by
  obtain ⟨dy, e'⟩ := id R
  exact ⟨s.keep e' h.1 (by intro z; cases z), h.2.imp fun _ _ _ _ r => ⟨r.1.but s R, r.2⟩⟩
theorem RowUp.snoc {CB : Addr} {H : Hp} {q c : Addr} {cs : List Addr} {bs : List BdBox.Box} {b : BdBox.Box} (h : RowUp CB H q cs bs) (hc : BoxAt CB H c (pb b)) (hb : b.files ≠ []) : RowUp CB (upd H q (.lst (cs.map V.ref ++ [V.ref c]))) q (cs ++ [c]) (bs ++ [b]) := by
  have keep : ∀ (c' : Addr) (b' : BdBox.Box), BoxAt CB H c' (pb b') → b'.files ≠ [] → BoxAt CB (upd H q (.lst (cs.map V.ref ++ [V.ref c]))) c' (pb b') := by
    intro c' b' hb' hne
    obtain ⟨dy, fl, e1, e2⟩ := hb'
    refine ⟨dy, fl, by rw [upd_ne (ne_of e1 h.1 (by intro z; cases z))]; exact e1, ?_⟩
    rw [upd_ne (ne_of e2 h.1 (fun z => ?_))]
    · exact e2
    · refine nI_ne_ref ?_ cs (HO.lst.inj z)
      show BdBox.numbersOf b'.files ≠ []
      unfold BdBox.numbersOf
      intro z2
      exact hne (List.map_eq_nil_iff.mp z2)
  refine ⟨by rw [upd_same, List.map_append]; rfl, All2.snoc (h.2.imp fun _ _ _ _ r => ⟨keep _ _ r.1 r.2, r.2⟩) ⟨keep c b hc hb, hb⟩⟩
section
variable {P : Program} {w : World} {K : PySem.W.Frag} {mg : Str → Option Value} {base : Heap} {CF CB CW CS aN : Addr}
theorem scAnew : FnScope ["self", "numbers", "boxes", "begin", "end", "at", "file"] ["self"] (defScope sAnew) := ⟨rfl, rfl, rfl, by decide +kernel, rfl, by decide +kernel, by decide +kernel⟩
theorem ok_Anew (D : DefM K CS "stand_anew" "Shelf.stand_anew" sAnew ["self"]) (T : Txt K mg CF CB CW CS aN) (C1 : CalM P w K mg base 2 CS "in_order" ["self"] (spInOrder CF CS)) (C2 : CalM P w K mg base 3 CS "thicks" ["self"] (spThicks CF CS))
    (C3 : CalI P w K mg base 3 CW "Ways" ["self", "numbers", "thicks", "room", "boxes"] (spWInit CW CB)) (C4 : CalM P w K mg base 3 CW "first" ["self"] (spFirst CW CB)) (C5 : CalI P w K mg base 1 CB "Box" ["self", "number", "files"] (spBInit CB))
    (C6 : CalM P w K mg base 2 CS "told_change" ["self", "boxes"] (spToldC CB CS)) : CalM P w K mg base 5 CS "stand_anew" ["self"] (spAnew CF CB CS) := by
  obtain ⟨f1, fd1, G1, m1, b1⟩ := C1
  obtain ⟨f2, fd2, G2, m2, b2⟩ := C2
  obtain ⟨f3, fd3, G3, M3, g3, b3⟩ := C3
  obtain ⟨f4, fd4, G4, m4, b4⟩ := C4
  obtain ⟨f5, fd5, G5, M5, g5, b5⟩ := C5
  obtain ⟨f6, fd6, G6, m6, b6⟩ := C6
  refine D.cal fun f fd F => F.ok scAnew (fun vs H Q E h => ?_) (fun cdv A outer s H vs Q E hr h => ?_)
  · obtain ⟨a, d, l, room, next, old, fs, rfl, _⟩ := h
    rfl
  · obtain ⟨a, d, l, room, next, old, fs, rfl, R, hrow, hD, hF, hO, hol, hsm, q⟩ := h
    have hr2 : Room 2 (A.deeper (envOfC "Shelf.stand_anew" (defScope sAnew) s.heap.objs.size f cdv)) := hr.mono (by decide)
    have hr3 : Room 3 (A.deeper (envOfC "Shelf.stand_anew" (defScope sAnew) s.heap.objs.size f cdv)) := hr.mono (by decide)
    obtain ⟨dx, ha⟩ := id R
    refine ⟨_, pss_cons (ps_setLc (i := 1) (own := [("file", 6)]) (g := gName 6) (by rfl) scAnew.nd rfl rfl (sw_true rfl rfl rfl (by decide +kernel)) (pi_list (pe_meth0 (pv 0) T.clS m1 G1 hr2 b1 .nil pass0)) (blkOk_by (own := [("file", 6)]) (N := ["self", "numbers", "boxes", "begin", "end", "at", "file"]) (sc := defScope sAnew) (by decide +kernel))
            (fun _ _ _ _ _ => pg_name (i := 6) scAnew.nd rfl (Or.inl rfl)) (fun _ _ _ _ _ => pts_nil) (fun _ _ _ _ _ => by exact pe_fk K (pv 6)))
      (pss_cons (ps_set (i := 2) scAnew.nd rfl (Or.inl rfl) (pe_lst pa_nil))
      (pss_cons (ps_for PassesOwn.never rfl (pi_list (pe_meth0 (pe_make M3 G3 hr (by rfl) g3 b3 .nil pass0 (pa_cons (pv 1) (pa_cons (pe_meth0 (pv 0) T.clS m2 G2 hr3 b2 .nil pass0) (pa_cons (pe_fn (pv 0)) (pa_cons (pe_fn (pv 0)) pa_nil))))) T.clW m4 G4 hr3 b4 .nil pass0))
          (pg_tup rfl (pgs_cons (pg_name (i := 3) scAnew.nd rfl (Or.inl rfl)) (pgs_cons (pg_name (i := 4) scAnew.nd rfl (Or.inl rfl)) (pgs_cons (pg_name (i := 5) scAnew.nd rfl (Or.inl rfl)) pgs_nil))))
        (pss_one (ps_if (pt_cmpR op_isN (pv 5) pe_non (nomark _))
          (pss_cons (ps_expr (pe_bm PySem.F.plainAttrs_list PySem.F.slot_list_append PySem.F.type_list_append mt_append (pv 2) (pa_cons (pe_make M5 G5 hr2 (by rfl) g5 b5 .nil pass0 (pa_cons (pe_fn (pv 0)) (pa_cons (pe_slice sl_list (pv 1) (po_some (pv 3)) (po_some (pv 4))) pa_nil))) pa_nil)))
            (pss_one (ps_fld (pv 0) (pe_op op_add (pe_fn (pv 0)) pe_int) rfl)))
          (pss_one (ps_expr (pe_bm PySem.F.plainAttrs_list PySem.F.slot_list_append PySem.F.type_list_append mt_append (pv 2) (pa_cons (pe_make M5 G5 hr2 (by rfl) g5 b5 .nil pass0 (pa_cons (pe_fld (pe_ix ix_list (pe_fn (pv 0)) (pv 5) (fun _ _ => rfl)) rfl) (pa_cons (pe_slice sl_list (pv 1) (po_some (pv 3)) (po_some (pv 4))) pa_nil))) pa_nil)))))))
      (pss_one (ps_ret (pe_meth (pv 0) T.clS m6 G6 hr2 b6 .nil pass0 (pa_cons (pv 2) pa_nil)))))), ?_⟩
    have hOrd := FilesOk.ord hF
    have W := taken_ok (s := ⟨room, old, next⟩) hF
    have hwe := wayTaken_eq (old := old) hF.fit
    have nlen : (BdBox.numbersOf fs).length = fs.length := by unfold BdBox.numbersOf; rw [List.length_map]
    have hfl := hF.len
    generalize hw : BdBox.wayTaken old room fs = wt at W hwe q
    have W : WayOk room old.length 0 fs wt := W
    -- numbers
    refine ⟨_, rfl, a, dx, _, rfl, ha, fS_not (by decide +kernel) (by decide +kernel) (by decide +kernel) (by decide +kernel), a, d, l, room, next, fs, rfl, R, hD, hOrd, fun H1 p1 as1 s1 hp10 hp1 hA1 => ?_⟩
    refine ⟨p1, rfl, ⟨_, SqL.of hp1⟩, fun nl hnl0 => ?_⟩
    refine lc_it (walk_list (xs := as1.map V.ref)) (fun i H2 => Same H1 H2 ∧ H2 nl = some (.lst ((BdBox.numbersOf (fs.take i)).map nI))) ⟨Same.new hnl0, upd_same⟩ (fun _ _ _ ⟨s2, _⟩ => SqL.of (s2 _ _ hp1)) ?_ ?_
    · rintro i x H2 H3 hi ⟨s2, h2⟩ ⟨rfl, hx⟩
      obtain ⟨c, hc, rfl⟩ := get_ref hx
      obtain ⟨ff, hff, dy, ey⟩ := hA1.get hc
      have hil := lt_of_get hff
      refine ⟨rfl, yes_if ?_⟩
      refine ⟨_, rfl, c, CF, dy, _, _, rfl, s2 _ _ ey, T.clF, T.nF1, fF_number, _, h2, ?_, s2.upd_free hnl0, ?_⟩
      · unfold BdBox.numbersOf
        rw [List.length_map, List.length_map, List.length_take]
        exact small (by omega)
      · unfold BdBox.numbersOf
        rw [upd_same, take_snoc hff, List.map_append, List.map_append]
        rfl
    rintro H2 ⟨s2, h2⟩
    rw [List.length_map, hA1.1, List.take_length] at h2
    have s02 := s1.trans s2
    -- boxes = []
    refine ⟨Nat.zero_le _, fun bl hbl0 => ?_⟩
    have s3 : Same H2 (upd H2 bl (.lst [])) := Same.new hbl0
    have hbl3 : (upd H2 bl (.lst [])) bl = some (.lst []) := upd_same
    generalize (upd H2 bl (.lst [])) = H3 at s3 hbl3
    have s03 := s02.trans s3
    have hblH : H bl = none := s02.free hbl0
    -- Ways(..).first()
    refine ⟨_, rfl, ?_⟩
    refine ⟨_, rfl, a, dx, _, rfl, s03 _ _ ha, fS_not (by decide +kernel) (by decide +kernel) (by decide +kernel) (by decide +kernel), a, d, l, room, next, fs, rfl, R.same s03, hD.same s03, hOrd, fun H4 tl s4 htl0 htl => ?_⟩
    have s04 := s03.trans s4
    refine ⟨_, rfl, a, CS, dx, _, _, rfl, s04 _ _ ha, T.clS, T.nS1, fS_room, _, rfl, a, CS, dx, _, _, rfl, s04 _ _ ha, T.clS, T.nS3, fS_boxes, ?_⟩
    intro x xd nx nxd nex
    have s45 : Same H4 (upd (upd H4 xd (.own x)) x (.ins CW xd [])) := fun b o e => by
      rw [upd_ne (ne_of_none e nx), upd_ne (ne_of_none e nxd)]
      exact e
    refine ⟨x, nl, tl, l, xd, room, old, fs, rfl, upd_same, s45 _ _ (s4 _ _ (s3 _ _ h2)), s45 _ _ htl, hrow.same (s04.trans s45), hF.fit, by omega, hol, hO.once, hsm, fun H5 cd kvs B5 W5 => ⟨rfl, ?_⟩⟩
    have s5 : Same H4 H5 := Same.made nx nxd B5
    have s05 := s04.trans s5
    obtain ⟨nl5, bl5, el5, kl5, wl5, xdx, as5, ws5, O5⟩ := W5.at_
    refine ⟨x, xdx, _, rfl, O5.ob, fW_not (by decide +kernel) (by decide +kernel) (by decide +kernel) (by decide +kernel) (by decide +kernel) (by decide +kernel), x, cd, room, old, fs, kvs, rfl, W5, fun H6 tq ts s6 htq0 htq hTs => ?_⟩
    rw [← hwe] at hTs
    have s06 := s05.trans s6
    have s36 := (s4.trans s5).trans s6
    have nl6 := (s3.trans s36) _ _ h2
    have R6 := R.same s06
    have hrow6 := hrow.same s06
    have tlen : ts.length = wt.length := by rw [hTs.1, trip_len]
    have wlen := way_len W
    -- what stands through the loop
    obtain ⟨dx6, ha6⟩ := id R6
    have hbl6 := s36 _ _ hbl3
    have ntqa : tq ≠ a := ne_of htq ha6 (by intro z; cases z)
    have ntqb : tq ≠ bl := (ne_of_none ((s4.trans s5) _ _ hbl3) htq0).symm
    have nnla : nl ≠ a := ne_of nl6 ha6 (by intro z; cases z)
    have nnlb : nl ≠ bl := ne_of_none h2 hbl0
    have nbla : bl ≠ a := ne_of hbl6 ha6 (by intro z; cases z)
    -- for begin, end, at in ..
    refine ⟨tq, rfl, ⟨_, SqL.of htq⟩, for_it (walk_list (xs := ts.map V.ref)) (fun i σ H7 => ∃ (vb ve va : Option V) (cs : List Addr), σ = [some (.ref a), some (.ref nl), some (.ref bl), vb, ve, va, none] ∧ (∀ b o, H6 b = some o → b ≠ a → b ≠ bl → H7 b = some o) ∧ ShelfRaw CS H7 a room d l (next + BdBox.newIn (wt.take i)) ∧ RowUp CB H7 bl cs (BdBox.boxesBy old next (wt.take i)))
      ⟨none, none, none, [], rfl, fun b o e _ _ => e, R6, hbl6, All2.nil⟩ (fun i σ H7 _ ⟨_, _, _, _, _, k7, _, U7⟩ => SqL.of (k7 _ _ htq ntqa ntqb)) ?_ ?_⟩
    · rintro i xx σ H7 H8 hi ⟨vb, ve, va, cs, rfl, k7, R7, U7⟩ ⟨rfl, hx⟩
      obtain ⟨t, ht, rfl⟩ := get_ref hx
      obtain ⟨tr, htr, hT⟩ := hTs.get ht
      have hil : i < wt.length := by rw [← tlen]; exact lt_of_get ht
      obtain ⟨xw, hxw⟩ := get_of_lt hil
      obtain ⟨w1, w2, w3, w4, w5⟩ := way_at 0 W hxw
      rw [htr] at w5
      have w5 := Option.some.inj w5
      subst w5
      rw [Nat.zero_add] at hT
      have ht7 : H8 t = some (.tup [nI (lenW (wt.take i)), nI (lenW (wt.take i) + xw.2.length), oV xw.1]) := k7 _ _ hT (ne_of hT ha6 (by intro z; cases z)) (ne_of hT hbl6 (by intro z; cases z))
      have nl7 := k7 _ _ nl6 nnla nnlb
      have B7 : But a H H8 := fun b o e hb => k7 b o (s06 _ _ e) hb (ne_of_none e hblH)
      obtain ⟨dx7, ha7⟩ := id R7
      have hcut : cutV ((BdBox.numbersOf fs).map nI) (some (((lenW (wt.take i) : Nat)) : Int)) (some (((lenW (wt.take i) + xw.2.length : Nat)) : Int)) = (BdBox.numbersOf xw.2).map nI := by
        rw [cutV_nat _ (by rw [List.length_map, nlen]; exact w1) (Nat.le_add_right _ _), Nat.add_sub_cancel_left, ← List.map_drop, ← List.map_take]
        congr 1
        have e := numbers_slice fs (lenW (wt.take i)) (lenW (wt.take i) + xw.2.length)
        rw [Nat.add_sub_cancel_left] at e
        rw [← e, slice_take, w2]
      have hnin := newIn_snoc hxw
      have hbby := boxesBy_snoc old hxw next
      have cslen : cs.length ≤ 100000 := by
        rw [U7.2.1]
        have := (told_counts hO (Nat.le_refl _) W).2.2.2
        have h2 : (BdBox.boxesBy old next (wt.take i)).length ≤ (BdBox.boxesBy old next wt).length := by
          have e : wt = wt.take i ++ wt.drop i := (List.take_append_drop _ _).symm
          conv => rhs; rw [e, boxesBy_append, List.length_append]
          omega
        omega
      refine ⟨t, _, rfl, SqT.of ht7, rfl, _, _, rfl, _, _, rfl, _, _, rfl, rfl, ?_⟩
      refine ⟨_, rfl, rfl, _, rfl, ?_⟩
      obtain ⟨xi, xl⟩ := xw
      cases xi with
      | none =>
        refine if_t rfl ?_
        refine ⟨_, rfl, .inl ⟨rfl, _, SqL.of U7.1⟩, _, rfl, a, CS, dx7, _, _, rfl, ha7, T.clS, T.nS4, fS_coming, _, rfl, _, rfl, _, rfl, _, rfl, _, rfl, nl, _, rfl, SqL.of nl7, fun p hp => ?_⟩
        rw [hcut]
        have s8 : Same H8 (upd H8 p (.lst ((BdBox.numbersOf xl).map nI))) := Same.new hp
        have hp8 : (upd H8 p (.lst ((BdBox.numbersOf xl).map nI))) p = some (.lst ((BdBox.numbersOf xl).map nI)) := upd_same
        generalize (upd H8 p (.lst ((BdBox.numbersOf xl).map nI))) = H9 at s8 hp8
        intro c cdd nc ncd nce
        refine ⟨c, cdd, p, _, rfl, upd_same, fun H10 hc10 B10 => ⟨rfl, ?_⟩⟩
        have s10 : Same H9 H10 := Same.made nc ncd B10
        have s810 := s8.trans s10
        obtain ⟨dyc, ec⟩ := hc10
        have U10 := (U7.same s810).snoc (b := ⟨next + BdBox.newIn (wt.take i), xl⟩) ⟨dyc, p, ec, s10 _ _ hp8⟩ w3
        refine ⟨bl, _, _, rfl, rfl, s810 _ _ U7.1, (by rw [List.length_map]; exact small cslen), ?_⟩
        have ha10 := s810 _ _ ha7
        have ha11 : (upd H10 bl (.lst (cs.map V.ref ++ [V.ref c]))) a = some (.ins CS dx7 (fS room d l (((next + BdBox.newIn (wt.take i) : Nat)) : Int))) := by rw [upd_ne nbla.symm]; exact ha10
        refine ⟨_, rfl, a, CS, dx7, _, _, rfl, ha11, T.clS, T.nS4, fS_coming, _, _, rfl, rfl, _, rfl, a, CS, dx7, _, rfl, ha11, T.clS, T.nS4, (by show 4 < 1000; decide), ?_⟩
        refine ⟨_, _, _, cs ++ [c], rfl, fun b o e hb1 hb2 => ?_, ⟨dx7, ?_⟩, ?_⟩
        · rw [upd_ne hb1, upd_ne hb2]
          exact s810 _ _ (k7 b o e hb1 hb2)
        · rw [upd_same, fS_putC, hnin]
          show some (HO.ins CS dx7 (fS room d l (((next + BdBox.newIn (wt.take i) : Nat) : Int) + 1))) = some (HO.ins CS dx7 (fS room d l (((next + (BdBox.newIn (wt.take i) + 1) : Nat)) : Int)))
          congr 3
        · rw [hbby]
          exact RowUp.but (CS := CS) (But.upd) ⟨dx7, ha11⟩ U10
      | some k =>
        refine if_f rfl ?_
        have hkl := w4 k rfl
        obtain ⟨ob, hob⟩ := get_of_lt hkl
        obtain ⟨as0, hl0, hrr⟩ := hrow.but B7 R
        have hrowk : (row old)[k]? = some (pb ob) := by unfold BX.row; rw [List.getElem?_map, hob]; rfl
        obtain ⟨oc, hoc, ody, ofl, oe1, oe2⟩ := hrr.get' hrowk
        refine ⟨_, rfl, .inl ⟨rfl, _, SqL.of U7.1⟩, _, rfl, a, CS, dx7, _, _, rfl, ha7, T.clS, T.nS3, fS_boxes, _, rfl, l, _, _, _, rfl, rfl, SqL.of hl0, atI_nat (by rw [List.getElem?_map, hoc]; rfl), oc, CB, ody, _, _, rfl, oe1, T.clB, T.nB1, fB_number, _, rfl, _, rfl, _, rfl, _, rfl, _, rfl, nl, _, rfl, SqL.of nl7, fun p hp => ?_⟩
        rw [hcut]
        have s8 : Same H8 (upd H8 p (.lst ((BdBox.numbersOf xl).map nI))) := Same.new hp
        have hp8 : (upd H8 p (.lst ((BdBox.numbersOf xl).map nI))) p = some (.lst ((BdBox.numbersOf xl).map nI)) := upd_same
        generalize (upd H8 p (.lst ((BdBox.numbersOf xl).map nI))) = H9 at s8 hp8
        intro c cdd nc ncd nce
        refine ⟨c, cdd, p, _, rfl, upd_same, fun H10 hc10 B10 => ⟨rfl, ?_⟩⟩
        have s10 : Same H9 H10 := Same.made nc ncd B10
        have s810 := s8.trans s10
        obtain ⟨dyc, ec⟩ := hc10
        have U10 := (U7.same s810).snoc (b := ⟨ob.number, xl⟩) ⟨dyc, p, ec, s10 _ _ hp8⟩ w3
        refine ⟨bl, _, _, rfl, rfl, s810 _ _ U7.1, (by rw [List.length_map]; exact small cslen), ?_⟩
        have ha10 := s810 _ _ ha7
        refine ⟨_, _, _, cs ++ [c], rfl, fun b o e hb1 hb2 => ?_, ⟨dx7, ?_⟩, ?_⟩
        · rw [upd_ne hb2]
          exact s810 _ _ (k7 b o e hb1 hb2)
        · rw [upd_ne nbla.symm, hnin]
          exact ha10
        · rw [hbby]
          have e : BdBox.boxesBy old (next + BdBox.newIn (wt.take i)) [(some k, xl)] = [⟨ob.number, xl⟩] := by
            show [(⟨((old[k]?).map fun (b : BdBox.Box) => b.number).getD 0, xl⟩ : BdBox.Box)] = _
            rw [hob]
            rfl
          rw [e]
          exact U10
    · rintro σ H7 ⟨vb, ve, va, cs, rfl, k7, R7, U7⟩
      rw [List.length_map, tlen, List.take_length] at R7 U7
      obtain ⟨dx7, ha7⟩ := id R7
      have B7 : But a H H7 := fun b o e hb => k7 b o (s06 _ _ e) hb (ne_of_none e hblH)
      obtain ⟨t1, t2, t3, t4⟩ := told_counts hO (Nat.le_refl _) W
      obtain ⟨i1, i2, i3, i4⟩ := boxesBy_ok hO (Nat.le_refl _) W
      have rl : (row (BdBox.boxesBy old next wt)).length = wt.length := by unfold BX.row; rw [List.length_map, t4]
      have rlo : (row old).length = old.length := by unfold BX.row; rw [List.length_map]
      refine ⟨_, rfl, a, dx7, _, rfl, ha7, fS_not (by decide +kernel) (by decide +kernel) (by decide +kernel) (by decide +kernel), _, rfl, a, d, l, bl, room, _, row old, row (BdBox.boxesBy old next wt), rfl, R7, hrow.but B7 R, U7.row, hsm, ?_, by omega, by omega, fun H8 p B8 R8 hp0 hp8 => ?_⟩
      · rw [sumLen_row, i1]
        omega
      · refine q H8 p bl (B7.trans B8) R8 ((U7.row).but B8 R7) ?_ ?_
        · cases e : H p with
          | none => rfl
          | some o =>
            by_cases z : p = a
            · subst z
              rw [ha7] at hp0
              cases hp0
            · rw [B7 p o e z] at hp0
              cases hp0
        · rw [hp8, rl, t1, ← rl, told_changed hO W, told_moved hO (Nat.le_refl _) W, movedBy_sum, rl]
end
end BW

namespace BW
open PySem PySem.Spec PyProof.Rows L2 BX
theorem packWay_get (s : BdBox.Shelf) (i : Nat) : (BdBox.packWay s)[i]? = ((BdBox.fewest s)[i]?).map fun c => (some i, c) := by
  unfold BdBox.packWay
  rw [List.getElem?_map, List.getElem?_zipIdx, Option.map_map]
  cases (BdBox.fewest s)[i]? with
  | none => rfl
  | some c => simp
theorem packWay_len (s : BdBox.Shelf) : (BdBox.packWay s).length = (BdBox.fewest s).length := by
  unfold BdBox.packWay
  rw [List.length_map, List.length_zipIdx]
def spPack (CF CB CS : Addr) : Sp := fun vs H Q _ => ∃ (a d l : Addr) (s : BdBox.Shelf), vs = [.ref a] ∧ ShelfRaw CS H a s.room d l s.next ∧ RowAt CB H l (row s.boxes) ∧ DictAt CF H d s.files ∧ SOk s ∧ s.boxes.length ≤ 100 ∧ sumLen (row s.boxes) ≤ 1000 ∧
  ∀ (H' : Hp) (p l' : Addr), But a H H' → ShelfRaw CS H' a s.room d l' s.next → RowAt CB H' l' (row s.packed.boxes) → H p = none →
    H' p = some (.lst [nI (BdBox.fewest s).length, nI (BdBox.changedBy s.boxes (BdBox.packWay s)), nI (BdBox.movedBy s.boxes (BdBox.packWay s)), nI (BdBox.newIn (BdBox.packWay s))]) → Q (.ref p) H'
section
variable {P : Program} {w : World} {K : PySem.W.Frag} {mg : Str → Option Value} {base : Heap} {CF CB CW CS aN : Addr}
theorem scPack : FnScope ["self", "numbers", "boxes", "begin", "box", "many", "file"] ["self"] (defScope sPack) := ⟨rfl, rfl, rfl, by decide +kernel, rfl, by decide +kernel, by decide +kernel⟩
theorem ok_Pack (D : DefM K CS "pack" "Shelf.pack" sPack ["self"]) (T : Txt K mg CF CB CW CS aN) (C1 : CalM P w K mg base 2 CS "in_order" ["self"] (spInOrder CF CS)) (C2 : CalM P w K mg base 3 CS "thicks" ["self"] (spThicks CF CS))
    (C3 : CalF P w K mg base 1 "filled" ["thicks", "room"] spFilled) (C5 : CalI P w K mg base 1 CB "Box" ["self", "number", "files"] (spBInit CB))
    (C6 : CalM P w K mg base 2 CS "told_change" ["self", "boxes"] (spToldC CB CS)) : CalM P w K mg base 5 CS "pack" ["self"] (spPack CF CB CS) := by
  obtain ⟨f1, fd1, G1, m1, b1⟩ := C1
  obtain ⟨f2, fd2, G2, m2, b2⟩ := C2
  obtain ⟨f3, fd3, G3, g3, k3, b3⟩ := C3
  obtain ⟨f5, fd5, G5, M5, g5, b5⟩ := C5
  obtain ⟨f6, fd6, G6, m6, b6⟩ := C6
  refine D.cal fun f fd F => F.ok scPack (fun vs H Q E h => ?_) (fun cdv A outer s H vs Q E hr h => ?_)
  · obtain ⟨a, d, l, sh, rfl, _⟩ := h
    rfl
  · obtain ⟨a, d, l, sh, rfl, R, hrow, hD, hS, hol, hsm, q⟩ := h
    have hr1 : Room 1 (A.deeper (envOfC "Shelf.pack" (defScope sPack) s.heap.objs.size f cdv)) := hr.mono (by decide)
    have hr2 : Room 2 (A.deeper (envOfC "Shelf.pack" (defScope sPack) s.heap.objs.size f cdv)) := hr.mono (by decide)
    have hr3 : Room 3 (A.deeper (envOfC "Shelf.pack" (defScope sPack) s.heap.objs.size f cdv)) := hr.mono (by decide)
    obtain ⟨dx, ha⟩ := id R
    refine ⟨_, pss_cons (ps_setLc (i := 1) (own := [("file", 6)]) (g := gName 6) (by rfl) scPack.nd rfl rfl (sw_true rfl rfl rfl (by decide +kernel)) (pi_list (pe_meth0 (pv 0) T.clS m1 G1 hr2 b1 .nil pass0)) (blkOk_by (own := [("file", 6)]) (N := ["self", "numbers", "boxes", "begin", "box", "many", "file"]) (sc := defScope sPack) (by decide +kernel))
            (fun _ _ _ _ _ => pg_name (i := 6) scPack.nd rfl (Or.inl rfl)) (fun _ _ _ _ _ => pts_nil) (fun _ _ _ _ _ => by exact pe_fk K (pv 6)))
      (pss_cons (ps_set (i := 2) scPack.nd rfl (Or.inl rfl) (pe_lst pa_nil))
      (pss_cons (ps_set (i := 3) scPack.nd rfl (Or.inl rfl) pe_int)
      (pss_cons (ps_for PassesOwn.never rfl (pi_zip (by rfl) T.zip (pa_cons (pe_fn (pv 0)) (pa_cons (pe_call G3 hr1 (by rfl) g3 k3 b3 .nil pass0 (pa_cons (pe_meth0 (pv 0) T.clS m2 G2 hr3 b2 .nil pass0) (pa_cons (pe_fn (pv 0)) pa_nil))) pa_nil)))
          (pg_tup rfl (pgs_cons (pg_name (i := 4) scPack.nd rfl (Or.inl rfl)) (pgs_cons (pg_name (i := 5) scPack.nd rfl (Or.inl rfl)) pgs_nil)))
        (pss_cons (ps_expr (pe_bm PySem.F.plainAttrs_list PySem.F.slot_list_append PySem.F.type_list_append mt_append (pv 2) (pa_cons (pe_make M5 G5 hr2 (by rfl) g5 b5 .nil pass0 (pa_cons (pe_fn (pv 4)) (pa_cons (pe_slice sl_list (pv 1) (po_some (pv 3)) (po_some (pe_op op_add (pv 3) (pv 5)))) pa_nil))) pa_nil)))
          (pss_one (ps_set (i := 3) scPack.nd rfl (Or.inl rfl) (pe_op op_add (pv 3) (pv 5))))))
      (pss_one (ps_ret (pe_meth (pv 0) T.clS m6 G6 hr2 b6 .nil pass0 (pa_cons (pv 2) pa_nil))))))), ?_⟩
    have hF := hS.files
    have hO := hS.old
    have hOrd := FilesOk.ord hF
    have W := packWay_ok hS
    have hnew := packWay_new sh
    have plen := packWay_len sh
    have pget := packWay_get sh
    have hfew := fewest_len hS
    have hfc : fillC sh.room (sh.files.map fun f => f.thick) = (BdBox.fewest sh).map List.length := fillC_eq hF.fit (fun f hf => (hF.each f hf).2.2.1)
    have epk : sh.packed.boxes = BdBox.boxesBy sh.boxes sh.next (BdBox.packWay sh) := rfl
    rw [epk] at q
    have nlen : (BdBox.numbersOf sh.files).length = sh.files.length := by unfold BdBox.numbersOf; rw [List.length_map]
    have hfl := hF.len
    generalize BdBox.packWay sh = wt at W hnew plen pget q
    generalize BdBox.fewest sh = few at plen pget hfew hfc q
    -- numbers
    refine ⟨_, rfl, a, dx, _, rfl, ha, fS_not (by decide +kernel) (by decide +kernel) (by decide +kernel) (by decide +kernel), a, d, l, sh.room, sh.next, sh.files, rfl, R, hD, hOrd, fun H1 p1 as1 s1 hp10 hp1 hA1 => ?_⟩
    refine ⟨p1, rfl, ⟨_, SqL.of hp1⟩, fun nl hnl0 => ?_⟩
    refine lc_it (walk_list (xs := as1.map V.ref)) (fun i H2 => Same H1 H2 ∧ H2 nl = some (.lst ((BdBox.numbersOf (sh.files.take i)).map nI))) ⟨Same.new hnl0, upd_same⟩ (fun _ _ _ ⟨s2, _⟩ => SqL.of (s2 _ _ hp1)) ?_ ?_
    · rintro i x H2 H3 hi ⟨s2, h2⟩ ⟨rfl, hx⟩
      obtain ⟨c, hc, rfl⟩ := get_ref hx
      obtain ⟨ff, hff, dy, ey⟩ := hA1.get hc
      have hil := lt_of_get hff
      refine ⟨rfl, yes_if ?_⟩
      refine ⟨_, rfl, c, CF, dy, _, _, rfl, s2 _ _ ey, T.clF, T.nF1, fF_number, _, h2, ?_, s2.upd_free hnl0, ?_⟩
      · unfold BdBox.numbersOf
        rw [List.length_map, List.length_map, List.length_take]
        exact small (by omega)
      · unfold BdBox.numbersOf
        rw [upd_same, take_snoc hff, List.map_append, List.map_append]
        rfl
    rintro H2 ⟨s2, h2⟩
    rw [List.length_map, hA1.1, List.take_length] at h2
    have s02 := s1.trans s2
    -- boxes = []
    refine ⟨Nat.zero_le _, fun bl hbl0 => ?_⟩
    have s3 : Same H2 (upd H2 bl (.lst [])) := Same.new hbl0
    have hbl3 : (upd H2 bl (.lst [])) bl = some (.lst []) := upd_same
    generalize (upd H2 bl (.lst [])) = H3 at s3 hbl3
    have s03 := s02.trans s3
    have hblH : H bl = none := s02.free hbl0
    -- zip(self.boxes, filled(..))
    refine ⟨_, rfl, a, CS, dx, _, _, rfl, s03 _ _ ha, T.clS, T.nS3, fS_boxes, ?_⟩
    refine ⟨_, rfl, a, dx, _, rfl, s03 _ _ ha, fS_not (by decide +kernel) (by decide +kernel) (by decide +kernel) (by decide +kernel), a, d, l, sh.room, sh.next, sh.files, rfl, R.same s03, hD.same s03, hOrd, fun H4 tl s4 htl0 htl => ?_⟩
    have s04 := s03.trans s4
    refine ⟨_, rfl, a, CS, dx, _, _, rfl, s04 _ _ ha, T.clS, T.nS1, fS_room, tl, sh.room, _, rfl, htl, fun t ht => ?_, (by rw [List.length_map]; omega), fun H6 tq s5 htq0 htq => ?_⟩
    · obtain ⟨ff, hff, rfl⟩ := List.mem_map.mp ht
      exact (hF.each ff hff).2.2
    have s06 := s04.trans s5
    have s36 := s4.trans s5
    rw [hfc] at htq
    have nl6 := (s3.trans s36) _ _ h2
    have R6 := R.same s06
    obtain ⟨as0, hl0, hrr0⟩ := hrow.same s06
    have rlo : (row sh.boxes).length = sh.boxes.length := by unfold BX.row; rw [List.length_map]
    obtain ⟨dx6, ha6⟩ := id R6
    have hbl6 := s36 _ _ hbl3
    have ntqa : tq ≠ a := ne_of htq ha6 (by intro z; cases z)
    have ntqb : tq ≠ bl := (ne_of_none (s4 _ _ hbl3) htq0).symm
    have nnla : nl ≠ a := ne_of nl6 ha6 (by intro z; cases z)
    have nnlb : nl ≠ bl := ne_of_none h2 hbl0
    have nbla : bl ≠ a := ne_of hbl6 ha6 (by intro z; cases z)
    have nla : l ≠ a := ne_of hl0 ha6 (by intro z; cases z)
    have nlb : l ≠ bl := by
      obtain ⟨as', hl', _⟩ := id hrow
      exact ne_of_none hl' hblH
    refine ⟨l, tq, _, _, rfl, SqL.of hl0, SqL.of htq, for_it (walk_zip (xs := as0.map V.ref) (ys := (few.map List.length).map nI) (n := few.length) (by rw [List.length_map, List.length_map, List.length_map, hrr0.1, rlo]; omega))
      (fun i σ H7 => ∃ (vb vm : Option V) (cs : List Addr), σ = [some (.ref a), some (.ref nl), some (.ref bl), some (nI (lenW (wt.take i))), vb, vm, none] ∧ (∀ b o, H6 b = some o → b ≠ a → b ≠ bl → H7 b = some o) ∧ ShelfRaw CS H7 a sh.room d l sh.next ∧ RowUp CB H7 bl cs (BdBox.boxesBy sh.boxes sh.next (wt.take i)))
      ⟨none, none, [], rfl, fun b o e _ _ => e, R6, hbl6, All2.nil⟩ (fun i σ H7 _ ⟨_, _, _, _, k7, _, U7⟩ => ⟨SqL.of (k7 _ _ hl0 nla nlb), SqL.of (k7 _ _ htq ntqa ntqb)⟩) ?_ ?_⟩
    · rintro i xx σ H7 H8 hi ⟨vb, vm, cs, rfl, k7, R7, U7⟩ ⟨t, y1, y2, rfl, ht0, rfl, e1, e2⟩
      have s78 : Same H7 (upd H7 t (.tup [y1, y2])) := Same.new ht0
      have ht8 : (upd H7 t (.tup [y1, y2])) t = some (.tup [y1, y2]) := upd_same
      generalize (upd H7 t (.tup [y1, y2])) = H8 at s78 ht8
      obtain ⟨oc, hoc, rfl⟩ := get_ref e1
      have e2 : ((few.map List.length).map nI)[i]? = some y2 := e2
      rw [List.getElem?_map, List.getElem?_map] at e2
      obtain ⟨ch, hch⟩ := get_of_lt hi
      rw [hch] at e2
      have e2 : nI ch.length = y2 := Option.some.inj e2
      subst e2
      have hxw : wt[i]? = some (some i, ch) := by rw [pget, hch]; rfl
      obtain ⟨w1, w2, w3, w4, w5⟩ := way_at 0 W hxw
      have hkl := w4 i rfl
      obtain ⟨ob, hob⟩ := get_of_lt hkl
      have hrowk : (row sh.boxes)[i]? = some (pb ob) := by unfold BX.row; rw [List.getElem?_map, hob]; rfl
      have B7 : But a H H8 := fun b o e hb => s78 _ _ (k7 b o (s06 _ _ e) hb (ne_of_none e hblH))
      obtain ⟨bb, hbb, hBA⟩ := hrr0.get hoc
      rw [hrowk] at hbb
      have hbb := Option.some.inj hbb
      subst hbb
      have hBA8 : BoxAt CB H8 oc (pb ob) := by
        obtain ⟨as', hl', hr'⟩ := hrow.but B7 R
        obtain ⟨as2, hl2, hr2⟩ := id hrow
        have e3 := s06 _ _ hl2
        rw [hl0] at e3
        have e4 := HO.lst.inj (Option.some.inj e3)
        have e5 : as0 = as2 := by
          have inj : ∀ {u v : List Addr}, u.map V.ref = v.map V.ref → u = v := by
            intro u
            induction u with
            | nil => intro v h; cases v with
              | nil => rfl
              | cons _ _ => cases h
            | cons x u ih => intro v h; cases v with
              | nil => cases h
              | cons y v =>
                have h1 := (List.cons.inj h).1
                have h2 := (List.cons.inj h).2
                cases h1
                rw [ih h2]
          exact inj e4
        subst e5
        obtain ⟨bb2, hbb2, hBA2⟩ := hr2.get hoc
        rw [hrowk] at hbb2
        have hbb2 := Option.some.inj hbb2
        subst hbb2
        exact hBA2.but B7 R
      obtain ⟨ody, ofl, oe1, oe2⟩ := hBA8
      have nl8 := s78 _ _ (k7 _ _ nl6 nnla nnlb)
      obtain ⟨dx7, ha7⟩ := id R7
      have ha8 := s78 _ _ ha7
      have U8 := U7.same s78
      have hcut : cutV ((BdBox.numbersOf sh.files).map nI) (some (((lenW (wt.take i) : Nat)) : Int)) (some ((((lenW (wt.take i) : Nat)) : Int) + ((ch.length : Nat) : Int))) = (BdBox.numbersOf ch).map nI := by
        have ec : ((((lenW (wt.take i) : Nat)) : Int) + ((ch.length : Nat) : Int)) = (((lenW (wt.take i) + ch.length : Nat)) : Int) := by omega
        rw [ec, cutV_nat _ (by rw [List.length_map, nlen]; exact w1) (Nat.le_add_right _ _), Nat.add_sub_cancel_left, ← List.map_drop, ← List.map_take]
        congr 1
        have e := numbers_slice sh.files (lenW (wt.take i)) (lenW (wt.take i) + ch.length)
        rw [Nat.add_sub_cancel_left] at e
        rw [← e, slice_take, w2]
      have hbby := boxesBy_snoc sh.boxes hxw sh.next
      have cslen : cs.length ≤ 100000 := by
        rw [U7.2.1]
        have := (told_counts hO (Nat.le_refl _) W).2.2.2
        have h2 : (BdBox.boxesBy sh.boxes sh.next (wt.take i)).length ≤ (BdBox.boxesBy sh.boxes sh.next wt).length := by
          have e : wt = wt.take i ++ wt.drop i := (List.take_append_drop _ _).symm
          conv => rhs; rw [e, boxesBy_append, List.length_append]
          omega
        have := way_len W
        omega
      refine ⟨t, _, rfl, SqT.of ht8, rfl, _, _, rfl, _, _, rfl, rfl, ?_⟩
      refine ⟨_, rfl, .inl ⟨rfl, _, SqL.of U8.1⟩, _, rfl, oc, CB, ody, _, _, rfl, oe1, T.clB, T.nB1, fB_number, _, rfl, _, rfl, _, rfl, _, rfl, _, rfl, _, _, rfl, rfl, _, rfl, nl, _, rfl, SqL.of nl8, fun p hp => ?_⟩
      rw [hcut]
      have s8 : Same H8 (upd H8 p (.lst ((BdBox.numbersOf ch).map nI))) := Same.new hp
      have hp8 : (upd H8 p (.lst ((BdBox.numbersOf ch).map nI))) p = some (.lst ((BdBox.numbersOf ch).map nI)) := upd_same
      generalize (upd H8 p (.lst ((BdBox.numbersOf ch).map nI))) = H9 at s8 hp8
      intro c cdd nc ncd nce
      refine ⟨c, cdd, p, _, rfl, upd_same, fun H10 hc10 B10 => ⟨rfl, ?_⟩⟩
      have s10 : Same H9 H10 := Same.made nc ncd B10
      have s810 := s8.trans s10
      obtain ⟨dyc, ec⟩ := hc10
      have U10 := (U8.same s810).snoc (b := ⟨ob.number, ch⟩) ⟨dyc, p, ec, s10 _ _ hp8⟩ w3
      refine ⟨bl, _, _, rfl, rfl, s810 _ _ U8.1, (by rw [List.length_map]; exact small cslen), ?_⟩
      refine ⟨_, rfl, _, rfl, _, _, rfl, rfl, ?_⟩
      refine ⟨some (.ref oc), some (nI ch.length), cs ++ [c], ?_, fun b o e hb1 hb2 => ?_, ⟨dx7, ?_⟩, ?_⟩
      · rw [lenW_snoc hxw]
        show ([some (V.ref a), some (V.ref nl), some (V.ref bl), some (V.int ((((lenW (wt.take i) : Nat)) : Int) + ((ch.length : Nat) : Int))), some (V.ref oc), some (nI ch.length), none] : List (Option V)) = _
        have ec : ((((lenW (wt.take i) : Nat)) : Int) + ((ch.length : Nat) : Int)) = (((lenW (wt.take i) + ch.length : Nat)) : Int) := by omega
        rw [ec]
      · rw [upd_ne hb2]
        exact s810 _ _ (s78 _ _ (k7 b o e hb1 hb2))
      · rw [upd_ne nbla.symm]
        exact s810 _ _ ha8
      · rw [hbby]
        have e : BdBox.boxesBy sh.boxes (sh.next + BdBox.newIn (wt.take i)) [(some i, ch)] = [⟨ob.number, ch⟩] := by
          show [(⟨((sh.boxes[i]?).map fun (b : BdBox.Box) => b.number).getD 0, ch⟩ : BdBox.Box)] = _
          rw [hob]
          rfl
        rw [e]
        exact U10
    · rintro σ H7 ⟨vb, vm, cs, rfl, k7, R7, U7⟩
      rw [← plen, List.take_length] at U7
      obtain ⟨dx7, ha7⟩ := id R7
      have B7 : But a H H7 := fun b o e hb => k7 b o (s06 _ _ e) hb (ne_of_none e hblH)
      obtain ⟨t1, t2, t3, t4⟩ := told_counts hO (Nat.le_refl _) W
      obtain ⟨i1, i2, i3, i4⟩ := boxesBy_ok hO (Nat.le_refl _) W
      have rl : (row (BdBox.boxesBy sh.boxes sh.next wt)).length = wt.length := by unfold BX.row; rw [List.length_map, t4]
      have wlen := way_len W
      refine ⟨_, rfl, a, dx7, _, rfl, ha7, fS_not (by decide +kernel) (by decide +kernel) (by decide +kernel) (by decide +kernel), _, rfl, a, d, l, bl, sh.room, _, row sh.boxes, row (BdBox.boxesBy sh.boxes sh.next wt), rfl, R7, hrow.but B7 R, U7.row, hsm, ?_, by omega, by omega, fun H8 p B8 R8 hp0 hp8 => ?_⟩
      · rw [sumLen_row, i1]
        omega
      · refine q H8 p bl (B7.trans B8) R8 ((U7.row).but B8 R7) ?_ ?_
        · cases e : H p with
          | none => rfl
          | some o =>
            by_cases z : p = a
            · subst z
              rw [ha7] at hp0
              cases hp0
            · rw [B7 p o e z] at hp0
              cases hp0
        · rw [hp8, t1, ← plen, ← rl, told_changed hO W, told_moved hO (Nat.le_refl _) W, movedBy_sum, rl]
end
end BW

namespace BW
open PySem PySem.Spec PyProof.Rows L2 BX
abbrev sBegun : Stmt := topS 35
abbrev sIsThick : Stmt := topS 36
abbrev sPut : Stmt := topS 37
abbrev sTake : Stmt := topS 38
abbrev sGrow : Stmt := topS 39
/-- a shelf of the specification stands at a -/
def ShelfOk (CF CB CS : Addr) (H : Hp) (a : Addr) (s : BdBox.Shelf) : Prop := ∃ d l, ShelfRaw CS H a s.room d l s.next ∧ RowAt CB H l (row s.boxes) ∧ DictAt CF H d s.files ∧ SOk s
/-- all stands but objects' fields and dicts -/
def KeepL (H H' : Hp) : Prop := ∀ b o, H b = some o → (∀ C dx fs, o ≠ .ins C dx fs) → (∀ kvs, o ≠ .dK kvs) → H' b = some o
theorem _root_.L2.Same.keepL {H H' : Hp} (s : Same H H') : KeepL H H' := fun b o e _ _ => s b o e
theorem KeepL.trans {H H1 H2 : Hp} (s : KeepL H H1) (t : KeepL H1 H2) : KeepL H H2 := fun b o e h1 h2 => t b o (s b o e h1 h2) h1 h2
theorem But.keepL {CS : Addr} {H H' : Hp} {a d l : Addr} {r n : Nat} (s : But a H H') (R : ShelfRaw CS H a r d l n) : KeepL H H' := fun b o e h1 _ => by
  obtain ⟨dx, ha⟩ := R
  exact s.keep ha e (h1 _ _ _)
theorem ShelfOk.same {CF CB CS : Addr} {H H' : Hp} {a : Addr} {s : BdBox.Shelf} (q : Same H H') (S : ShelfOk CF CB CS H a s) : ShelfOk CF CB CS H' a s := by
  obtain ⟨d, l, h1, h2, h3, h4⟩ := S
  exact ⟨d, l, h1.same q, h2.same q, h3.same q, h4⟩
theorem boxes_len : ∀ {bs : List BdBox.Box}, (∀ b ∈ bs, b.files ≠ []) → bs.length ≤ (bs.flatMap fun b => b.files).length
  | [], _ => Nat.zero_le _
  | b :: bs, h => by
    have ih := boxes_len (bs := bs) (fun c hc => h c (List.mem_cons_of_mem _ hc))
    have hp := List.length_pos_iff.mpr (h b List.mem_cons_self)
    rw [List.flatMap_cons, List.length_append, List.length_cons]
    omega
theorem _root_.BX.SOk.ol {s : BdBox.Shelf} (S : SOk s) : s.boxes.length ≤ 32 := Nat.le_trans (boxes_len (fun b hb => (S.boxes b hb).1)) S.files.len
theorem _root_.BX.SOk.sm {s : BdBox.Shelf} (S : SOk s) : sumLen (row s.boxes) ≤ 32 := by
  rw [sumLen_row]
  exact S.files.len
theorem ShelfOk.rest {CF CB CS : Addr} {H : Hp} {a : Addr} {s : BdBox.Shelf} (S : ShelfOk CF CB CS H a s) : ∃ d l, Rest CF CB CS H a d l s.room s.next s.boxes s.files := by
  obtain ⟨d, l, h1, h2, h3, h4⟩ := S
  exact ⟨d, l, h1, h2, h3, FilesOk.ord h4.files, h4.old.once, by have := h4.sm; omega, by have := h4.ol; omega, fun b hb f hf => List.mem_flatMap.mpr ⟨b, hb, hf⟩⟩
/-- what a call of the specification answers and leaves -/
def After (CF CB CS : Addr) (H : Hp) (a : Addr) (s : BdBox.Shelf) (c : BoxSpec.Call) (Q : VK) : Prop := ∀ (H' : Hp) (p : Addr), ShelfOk CF CB CS H' a (BoxSpec.does s c).2 → KeepL H H' → H p = none → H' p = some (.lst ((Neutral.told c (BoxSpec.does s c).1).map V.int)) → Q (.ref p) H'
theorem told_says (c : BoxSpec.Call) (z : Int) : Neutral.told c (BdAns.says z) = [z] := by cases c <;> rfl
theorem After.refuse {CF CB CS : Addr} {H : Hp} {a : Addr} {s : BdBox.Shelf} {c : BoxSpec.Call} {Q : VK} {z : Int} (h : After CF CB CS H a s c Q) (S : ShelfOk CF CB CS H a s) (e : BoxSpec.does s c = (BdAns.says z, s)) : ∀ p, H p = none → Q (.ref p) (upd H p (.lst [.int z])) := fun p hp => by
  refine h _ p ?_ (Same.new hp).keepL hp ?_
  · rw [e]
    exact S.same (Same.new hp)
  · rw [e, told_says, upd_same]
    rfl
theorem fileOf_iff (s : BdBox.Shelf) (n : Nat) : (BoxSpec.fileOf s n).isSome = true ↔ ∃ f ∈ s.files, f.number = n := by
  unfold BoxSpec.fileOf
  rw [List.find?_isSome]
  simp
def spBegun (CF CB CS : Addr) : Sp := fun vs H Q _ => ∃ (r : Nat), vs = [nI r] ∧ ((r = 0 ∨ 10000 < r) → Q .non H) ∧ (¬ (r = 0 ∨ 10000 < r) → ∀ (H' : Hp) (a : Addr), Same H H' → H a = none → ShelfOk CF CB CS H' a ⟨r, [], 0⟩ → Q (.ref a) H')
def spIsThick (CS : Addr) : Sp := fun vs H Q _ => ∃ (a d l : Addr) (room next t : Nat), vs = [.ref a, nI t] ∧ ShelfRaw CS H a room d l next ∧ Q (.bl (decide (1 ≤ t ∧ t ≤ room))) H
def spPut (CF CB CS : Addr) : Sp := fun vs H Q _ => ∃ (a : Addr) (s : BdBox.Shelf) (f k t : Nat), vs = [.ref a, nI f, nI k, nI t] ∧ ShelfOk CF CB CS H a s ∧ After CF CB CS H a s (.put f k t) Q
def spTake (CF CB CS : Addr) : Sp := fun vs H Q _ => ∃ (a : Addr) (s : BdBox.Shelf) (f : Nat), vs = [.ref a, nI f] ∧ ShelfOk CF CB CS H a s ∧ After CF CB CS H a s (.take f) Q
def spGrow (CF CB CS : Addr) : Sp := fun vs H Q _ => ∃ (a : Addr) (s : BdBox.Shelf) (f t : Nat), vs = [.ref a, nI f, nI t] ∧ ShelfOk CF CB CS H a s ∧ After CF CB CS H a s (.grow f t) Q
/-- the files stand anew: what the calls that change them end with -/
theorem anew_end {CF CB CS : Addr} {H H1 H2 : Hp} {a d l l' p : Addr} {s : BdBox.Shelf} {fs : List BdBox.BFile} {c : BoxSpec.Call} {Q : VK} (q : After CF CB CS H a s c Q) (S : SOk s) (F : FilesOk s.room fs) (e : BoxSpec.does s c = BoxSpec.anew s fs)
    (ht : ∀ z nums, Neutral.told c (BdAns.tells z nums) = z :: nums) (K1 : KeepL H H1) (R1 : ShelfRaw CS H1 a s.room d l s.next) (D1 : DictAt CF H1 d fs) (hp0 : H p = none) (B : But a H1 H2) (R2 : ShelfRaw CS H2 a s.room d l' (s.next + BdBox.newIn (BdBox.wayTaken s.boxes s.room fs)))
    (W2 : RowAt CB H2 l' (row (BdBox.boxesBy s.boxes s.next (BdBox.wayTaken s.boxes s.room fs))))
    (hp : H2 p = some (.lst [nI (BdBox.wayTaken s.boxes s.room fs).length, nI (BdBox.changedBy s.boxes (BdBox.wayTaken s.boxes s.room fs)), nI (BdBox.movedBy s.boxes (BdBox.wayTaken s.boxes s.room fs)), nI (BdBox.newIn (BdBox.wayTaken s.boxes s.room fs))])) : Q (.ref p) H2 := by
  obtain ⟨A1, A2⟩ := anew_ok S F
  refine q H2 p ?_ (K1.trans (B.keepL R1)) hp0 ?_
  · rw [e]
    refine ⟨d, l', R2, W2, ?_, A1⟩
    show DictAt CF H2 d (s.anew fs).files
    rw [A2]
    exact D1.but B R1
  · rw [hp, e]
    show _ = some (HO.lst ((Neutral.told c (BdAns.tells _ _)).map V.int))
    rw [ht]
    rfl
section
variable {P : Program} {w : World} {K : PySem.W.Frag} {mg : Str → Option Value} {base : Heap} {CF CB CW CS aN : Addr}
theorem scBegun : FnScope ["room"] ["room"] (defScope sBegun) := ⟨rfl, rfl, rfl, by decide +kernel, rfl, by decide +kernel, by decide +kernel⟩
theorem ok_Begun (D : DefF K mg "begun" sBegun ["room"]) (T : Txt K mg CF CB CW CS aN) (C1 : CalI P w K mg base 1 CS "Shelf" ["self", "room"] (spSInit CS)) : CalF P w K mg base 3 "begun" ["room"] (spBegun CF CB CS) := by
  obtain ⟨f1, fd1, G1, M1, g1, b1⟩ := C1
  refine D.cal fun f fd F => F.ok scBegun (fun vs H Q E h => ?_) (fun cdv A outer s H vs Q E hr h => ?_)
  · obtain ⟨r, rfl, _⟩ := h
    rfl
  · obtain ⟨r, rfl, q1, q2⟩ := h
    obtain ⟨uB, mB, rB⟩ := T.cROOM
    refine ⟨_, pss_cons (ps_if (PW.pt (pw_or (pt_cmpR op_lt (pv 0) pe_int (nomark _)) (pw_or1 (pt_cmpR op_gt (pv 0) (pe_glob rfl mB rB) (nomark _))))) (pss_one (ps_ret pe_non)) pss_nil)
      (pss_one (ps_ret (pe_make M1 G1 hr (by rfl) g1 b1 .nil pass0 (pa_cons (pv 0) pa_nil)))), ?_⟩
    refine ⟨_, rfl, _, _, rfl, rfl, _, rfl, ?_⟩
    by_cases c1 : r = 0
    · refine if_t (decide_eq_true (by omega)) ?_
      refine if_t rfl ?_
      exact q1 (.inl c1)
    · refine if_f (decide_eq_false (by omega)) ?_
      refine ⟨_, rfl, _, _, rfl, rfl, _, rfl, ?_⟩
      by_cases c2 : 10000 < r
      · refine if_t (decide_eq_true (by omega)) ?_
        exact q1 (.inr c2)
      · refine if_f (decide_eq_false (by omega)) ?_
        refine ⟨_, rfl, ?_⟩
        intro x xd nx nxd nex
        refine ⟨x, xd, r, rfl, upd_same, fun H1 d l B1 R1 hd hl => ⟨rfl, ?_⟩⟩
        have s1 : Same H H1 := Same.made nx nxd B1
        refine q2 (by omega) H1 x s1 nx ⟨d, l, R1, ⟨[], hl, All2.nil⟩, ⟨[], hd, List.Perm.refl _, fun p hp => by simp at hp⟩, begun_ok (by omega)⟩
theorem scIsThick : FnScope ["shelf", "thick"] ["shelf", "thick"] (defScope sIsThick) := ⟨rfl, rfl, rfl, by decide +kernel, rfl, by decide +kernel, by decide +kernel⟩
theorem ok_IsThick (D : DefF K mg "is_thick" sIsThick ["shelf", "thick"]) (T : Txt K mg CF CB CW CS aN) : CalF P w K mg base 1 "is_thick" ["shelf", "thick"] (spIsThick CS) := by
  refine D.cal fun f fd F => F.ok scIsThick (fun vs H Q E h => ?_) (fun cdv A outer s H vs Q E hr h => ?_)
  · obtain ⟨a, d, l, room, next, t, rfl, _⟩ := h
    rfl
  · obtain ⟨a, d, l, room, next, t, rfl, ⟨dx, ha⟩, q⟩ := h
    refine ⟨_, pss_one (ps_ret (pe_and (pe_cmpR op_le pe_int (pv 1) (nomark _)) (pe_one (pe_cmpR op_le (pv 1) (pe_fn (pv 0)) (nomark _))))), ?_⟩
    refine ⟨_, rfl, _, _, rfl, rfl, _, rfl, ?_⟩
    by_cases c1 : 1 ≤ t
    · refine if_t (decide_eq_true (by omega)) ?_
      refine ⟨_, rfl, _, rfl, a, CS, dx, _, _, rfl, ha, T.clS, T.nS1, fS_room, _, _, rfl, rfl, ?_⟩
      have e : decide ((t : Int) ≤ (room : Int)) = decide (1 ≤ t ∧ t ≤ room) := by
        rw [decide_eq_decide]
        omega
      show Q (.bl (decide ((t : Int) ≤ (room : Int)))) H
      rw [e]
      exact q
    · refine if_f (decide_eq_false (by omega)) ?_
      have e : decide (1 ≤ t ∧ t ≤ room) = false := decide_eq_false (by omega)
      rw [e] at q
      exact q
theorem scPut : FnScope ["shelf", "number", "key", "thick"] ["shelf", "number", "key", "thick"] (defScope sPut) := ⟨rfl, rfl, rfl, by decide +kernel, rfl, by decide +kernel, by decide +kernel⟩
theorem ok_Put (D : DefF K mg "put" sPut ["shelf", "number", "key", "thick"]) (T : Txt K mg CF CB CW CS aN) (C1 : CalF P w K mg base 1 "is_thick" ["shelf", "thick"] (spIsThick CS)) (C2 : CalI P w K mg base 1 CF "File" ["self", "number", "key", "thick"] (spFInit CF))
    (C3 : CalM P w K mg base 5 CS "stand_anew" ["self"] (spAnew CF CB CS)) : CalF P w K mg base 6 "put" ["shelf", "number", "key", "thick"] (spPut CF CB CS) := by
  obtain ⟨f1, fd1, G1, g1, k1, b1⟩ := C1
  obtain ⟨f2, fd2, G2, M2, g2, b2⟩ := C2
  obtain ⟨f3, fd3, G3, m3, b3⟩ := C3
  refine D.cal fun f fd F => F.ok scPut (fun vs H Q E h => ?_) (fun cdv A outer s H vs Q E hr h => ?_)
  · obtain ⟨a, sh, n, k, t, rfl, _⟩ := h
    rfl
  · obtain ⟨a, sh, n, k, t, rfl, S, q⟩ := h
    have hu := hu_of hr
    have hr1 : Room 1 (A.deeper (envOfC "put" (defScope sPut) s.heap.objs.size f cdv)) := hr.mono (by decide)
    have hr2 : Room 2 (A.deeper (envOfC "put" (defScope sPut) s.heap.objs.size f cdv)) := hr.mono (by decide)
    obtain ⟨u1, n1, r1⟩ := T.cLAST
    obtain ⟨u2, n2, r2⟩ := T.cKEYS
    obtain ⟨u3, n3, r3⟩ := T.cWRONG
    obtain ⟨u4, n4, r4⟩ := T.cTHERE
    obtain ⟨u5, n5, r5⟩ := T.cMOST
    obtain ⟨u6, n6, r6⟩ := T.cFULL
    refine ⟨_, pss_cons (ps_if (PW.pt (pw_or (pt_cmpR op_gt (pv 1) (pe_glob rfl n1 r1) (nomark _)) (pw_or (pt_cmpR op_ge (pv 2) (pe_glob rfl n2 r2) (nomark _)) (pw_or1 (pt_not (pt_val (pe_call G1 hr1 (by rfl) g1 k1 b1 .nil pass0 (pa_cons (pv 0) (pa_cons (pv 3) pa_nil)))))))))
        (pss_one (ps_ret (pe_lst (pa_cons (pe_glob rfl n3 r3) pa_nil)))) pss_nil)
      (pss_cons (ps_if (pt_cmp (pc_din hu (pv 1) (pe_fn (pv 0)))) (pss_one (ps_ret (pe_lst (pa_cons (pe_glob rfl n4 r4) pa_nil)))) pss_nil)
      (pss_cons (ps_if (pt_cmpR op_ge (pe_callB call_lenD (by rfl) T.len PySem.boot_len (pa_cons (pe_fn (pv 0)) pa_nil)) (pe_glob rfl n5 r5) (nomark _)) (pss_one (ps_ret (pe_lst (pa_cons (pe_glob rfl n6 r6) pa_nil)))) pss_nil)
      (pss_cons (ps_dput hu (pe_fn (pv 0)) (pv 1) (pe_make M2 G2 hr2 (by rfl) g2 b2 .nil pass0 (pa_cons (pv 1) (pa_cons (pv 2) (pa_cons (pv 3) pa_nil)))) rfl)
      (pss_one (ps_ret (pe_meth0 (pv 0) T.clS m3 G3 hr b3 .nil pass0)))))), ?_⟩
    obtain ⟨d, l, R, hrow, hD, hS⟩ := id S
    obtain ⟨dx, ha⟩ := id R
    have wrong : (BdBox.BFILES ≤ n ∨ BdBox.KEYS ≤ k ∨ t = 0 ∨ sh.room < t) → ∀ p, H p = none → Q (.ref p) (upd H p (.lst [.int (-1)])) := fun h => q.refuse S (by
      show (if BdBox.BFILES ≤ n ∨ BdBox.KEYS ≤ k ∨ t = 0 ∨ sh.room < t then (BdAns.says (-1), sh) else _) = _
      rw [if_pos h])
    refine ⟨_, rfl, _, _, rfl, rfl, _, rfl, ?_⟩
    by_cases c1 : 16383 < n
    · refine if_t (decide_eq_true (by omega)) ?_
      refine if_t rfl ?_
      exact ⟨by show 1 ≤ sizeLine; decide, wrong (.inl (show 16384 ≤ n from c1))⟩
    refine if_f (decide_eq_false (by omega)) ?_
    refine ⟨_, rfl, _, _, rfl, rfl, _, rfl, ?_⟩
    by_cases c2 : 18446744073709551616 ≤ k
    · refine if_t (decide_eq_true (by omega)) ?_
      refine if_t rfl ?_
      exact ⟨by show 1 ≤ sizeLine; decide, wrong (.inr (.inl (show 2 ^ 64 ≤ k from c2)))⟩
    refine if_f (decide_eq_false (by omega)) ?_
    refine ⟨_, rfl, _, rfl, a, d, l, sh.room, sh.next, t, rfl, R, _, rfl, ?_⟩
    by_cases c3 : 1 ≤ t ∧ t ≤ sh.room
    · refine if_f (by rw [decide_eq_true c3]; rfl) ?_
      have hok : ¬ (BdBox.BFILES ≤ n ∨ BdBox.KEYS ≤ k ∨ t = 0 ∨ sh.room < t) := by
        rintro (h | h | h | h)
        · exact c1 h
        · exact c2 h
        · omega
        · omega
      have edoes : BoxSpec.does sh (.put n k t) = if (BoxSpec.fileOf sh n).isSome = true then (BdAns.says (-8), sh) else if BdBox.STANDING ≤ sh.files.length then (BdAns.says (-6), sh) else BoxSpec.anew sh (BdBox.putFile ⟨n, k, t⟩ sh.files) := by
        show (if BdBox.BFILES ≤ n ∨ BdBox.KEYS ≤ k ∨ t = 0 ∨ sh.room < t then (BdAns.says (-1), sh) else _) = _
        rw [if_neg hok]
      obtain ⟨kvs, hd, hklen, hfind, hnone⟩ := dict_at hD hS.files.nd
      refine ⟨_, rfl, _, rfl, a, CS, dx, _, _, rfl, ha, T.clS, T.nS2, fS_files, d, _, rfl, DGet.k (k := nK n) hd, _, rfl, ?_⟩
      by_cases c4 : ∃ g ∈ sh.files, g.number = n
      · obtain ⟨g, hg, hgn⟩ := c4
        obtain ⟨cc, hc1, hc2⟩ := hfind g hg
        rw [hgn] at hc1
        refine if_t (by rw [hc1]; rfl) ?_
        refine ⟨by show 1 ≤ sizeLine; decide, q.refuse S ?_⟩
        rw [edoes, if_pos ((fileOf_iff sh n).mpr ⟨g, hg, hgn⟩)]
      · have hno : ∀ g ∈ sh.files, g.number ≠ n := fun g hg e => c4 ⟨g, hg, e⟩
        have hv := hnone n hno
        refine if_f (by rw [hv]; rfl) ?_
        rw [if_neg (fun z => c4 ((fileOf_iff sh n).mp z))] at edoes
        refine ⟨_, rfl, a, CS, dx, _, _, rfl, ha, T.clS, T.nS2, fS_files, d, kvs, rfl, hd, _, _, rfl, rfl, _, rfl, ?_⟩
        by_cases c5 : 32 ≤ sh.files.length
        · refine if_t (decide_eq_true (by omega)) ?_
          refine ⟨by show 1 ≤ sizeLine; decide, q.refuse S ?_⟩
          rw [edoes, if_pos (show BdBox.STANDING ≤ sh.files.length from c5)]
        · refine if_f (decide_eq_false (by omega)) ?_
          rw [if_neg (fun (z : BdBox.STANDING ≤ sh.files.length) => c5 z)] at edoes
          -- the file comes
          refine ⟨_, rfl, _, rfl, _, rfl, ?_⟩
          intro x xd nx nxd nex
          refine ⟨x, xd, _, _, _, rfl, upd_same, fun H1 hx1 B1 => ⟨rfl, ?_⟩⟩
          have s1 : Same H H1 := Same.made nx nxd B1
          have ha1 := s1 _ _ ha
          have hd1 := s1 _ _ hd
          refine ⟨_, rfl, a, CS, dx, _, _, rfl, ha1, T.clS, T.nS2, fS_files, _, rfl, d, _, rfl, DPut.k (k := nK n) hd1 (small (by omega)), ?_⟩
          have nad : a ≠ d := ne_of ha hd (by intro z; cases z)
          have nxd2 : x ≠ d := by
            intro z
            subst z
            rw [nx] at hd
            cases hd
          have nxa : x ≠ a := by
            intro z
            subst z
            rw [nx] at ha
            cases ha
          have R2 : ShelfRaw CS (upd H1 d (.dK (putK kvs (nK n) (.ref x)))) a sh.room d l sh.next := ⟨dx, by rw [upd_ne nad]; exact ha1⟩
          have K2 : KeepL H (upd H1 d (.dK (putK kvs (nK n) (.ref x)))) := fun b o e h1 h2 => by
            rw [upd_ne (ne_of e hd (h2 _))]
            exact s1 _ _ e
          have row2 : RowAt CB (upd H1 d (.dK (putK kvs (nK n) (.ref x)))) l (row sh.boxes) := by
            obtain ⟨as, e1, e2⟩ := hrow
            refine ⟨as, K2 _ _ e1 (by intro _ _ _ z; cases z) (by intro _ z; cases z), e2.imp fun c b _ _ r => ?_⟩
            obtain ⟨dy, fl, r1, r2⟩ := r
            exact ⟨dy, fl, by rw [upd_ne (ne_of r1 hd (by intro z; cases z))]; exact s1 _ _ r1, K2 _ _ r2 (by intro _ _ _ z; cases z) (by intro _ z; cases z)⟩
          have D2 : DictAt CF (upd H1 d (.dK (putK kvs (nK n) (.ref x)))) d (BdBox.putFile ⟨n, k, t⟩ sh.files) := by
            obtain ⟨ps, e1, e2, e3⟩ := hD
            have ek : kvs = ps.map fun p => (nK p.1.number, V.ref p.2) := by
              rw [hd] at e1
              exact HO.dK.inj (Option.some.inj e1)
            refine ⟨ps ++ [(⟨n, k, t⟩, x)], ?_, ?_, fun p hp => ?_⟩
            · rw [upd_same, putK_new _ hv, ek, List.map_append]
              rfl
            · rw [List.map_append]
              refine (e2.append_right _).trans ?_
              exact List.perm_append_comm.trans (put_perm _ _).symm
            · rcases List.mem_append.mp hp with hp | hp
              · obtain ⟨dy, ey⟩ := e3 p hp
                exact ⟨dy, by rw [upd_ne (ne_of ey hd (by intro z; cases z))]; exact s1 _ _ ey⟩
              · have hp := List.mem_singleton.mp hp
                subst hp
                obtain ⟨dy, ey⟩ := hx1
                exact ⟨dy, by rw [upd_ne nxd2]; exact ey⟩
          have F2 : FilesOk sh.room (BdBox.putFile ⟨n, k, t⟩ sh.files) := put_ok hS.files ⟨by show n < 16384; omega, by show k < 2 ^ 64; omega, c3.1, c3.2⟩ hno (by omega)
          have free2 : ∀ p, (upd H1 d (.dK (putK kvs (nK n) (.ref x)))) p = none → H p = none := fun p e => by
            by_cases z : p = d
            · subst z; rw [upd_same] at e; cases e
            · rw [upd_ne z] at e; exact s1.free e
          generalize (upd H1 d (.dK (putK kvs (nK n) (.ref x)))) = H2 at R2 K2 row2 D2 free2
          obtain ⟨dx2, ha2⟩ := id R2
          refine ⟨_, rfl, a, dx2, _, rfl, ha2, fS_not (by decide +kernel) (by decide +kernel) (by decide +kernel) (by decide +kernel), a, d, l, sh.room, sh.next, sh.boxes, _, rfl, R2, row2, D2, F2, hS.old, (by have := hS.ol; omega), (by have := hS.sm; omega), fun H3 p l' B3 R3 W3 hp0 hp3 => ?_⟩
          exact anew_end q hS F2 edoes (fun z nums => by show z :: (nums ++ []) = _; rw [List.append_nil]) K2 R2 D2 (free2 p hp0) B3 R3 W3 hp3
    · refine if_t (by rw [decide_eq_false c3]; rfl) ?_
      exact ⟨by show 1 ≤ sizeLine; decide, wrong (.inr (.inr (by omega)))⟩
end
end BW

namespace BW
open PySem PySem.Spec PyProof.Rows L2 BX
theorem drop_ps : ∀ (ps : List (BdBox.BFile × Addr)) (n : Nat), dropK (ps.map fun p => (nK p.1.number, V.ref p.2)) (nK n) = (ps.filter fun p => p.1.number != n).map fun p => (nK p.1.number, V.ref p.2)
  | [], _ => rfl
  | p :: ps, n => by
    have ih := drop_ps ps n
    unfold dropK at ih ⊢
    rw [List.map_cons, List.filter_cons, List.filter_cons, ih]
    by_cases c : p.1.number = n
    · rw [if_neg (by rw [c]; simp), if_neg (by rw [c]; simp)]
    · rw [if_pos (by simpa using fun q => c (nK_inj.mp q)), if_pos (by simpa using c)]
      rfl
def grown (n t : Nat) (f : BdBox.BFile) : BdBox.BFile := if f.number = n then { f with thick := t } else f
theorem grown_num (n t : Nat) (f : BdBox.BFile) : (grown n t f).number = f.number := by unfold grown; split <;> rfl
theorem fF_putT {n k t u : Int} : putF "thick" (.int u) (fF n k t) = fF n k u := (put_past (by decide +kernel)).trans (congrArg _ ((put_past (by decide +kernel)).trans (congrArg _ put_here)))
section
variable {P : Program} {w : World} {K : PySem.W.Frag} {mg : Str → Option Value} {base : Heap} {CF CB CW CS aN : Addr}
theorem scTake : FnScope ["shelf", "number"] ["shelf", "number"] (defScope sTake) := ⟨rfl, rfl, rfl, by decide +kernel, rfl, by decide +kernel, by decide +kernel⟩
theorem ok_Take (D : DefF K mg "take" sTake ["shelf", "number"]) (T : Txt K mg CF CB CW CS aN) (C3 : CalM P w K mg base 5 CS "stand_anew" ["self"] (spAnew CF CB CS)) : CalF P w K mg base 6 "take" ["shelf", "number"] (spTake CF CB CS) := by
  obtain ⟨f3, fd3, G3, m3, b3⟩ := C3
  refine D.cal fun f fd F => F.ok scTake (fun vs H Q E h => ?_) (fun cdv A outer s H vs Q E hr h => ?_)
  · obtain ⟨a, sh, n, rfl, _⟩ := h
    rfl
  · obtain ⟨a, sh, n, rfl, S, q⟩ := h
    have hu := hu_of hr
    obtain ⟨u1, n1, r1⟩ := T.cLAST
    obtain ⟨u3, n3, r3⟩ := T.cWRONG
    obtain ⟨u4, n4, r4⟩ := T.cNONE
    refine ⟨_, pss_cons (ps_if (pt_cmpR op_gt (pv 1) (pe_glob rfl n1 r1) (nomark _)) (pss_one (ps_ret (pe_lst (pa_cons (pe_glob rfl n3 r3) pa_nil)))) pss_nil)
      (pss_cons (ps_if (pt_cmp (pc_dnotin hu (pv 1) (pe_fn (pv 0)))) (pss_one (ps_ret (pe_lst (pa_cons (pe_glob rfl n4 r4) pa_nil)))) pss_nil)
      (pss_cons (ps_expr (pe_dpop1 (pe_fn (pv 0)) (pv 1) ⟨rfl, rfl, rfl, rfl⟩))
      (pss_one (ps_ret (pe_meth0 (pv 0) T.clS m3 G3 hr b3 .nil pass0))))), ?_⟩
    obtain ⟨d, l, R, hrow, hD, hS⟩ := id S
    obtain ⟨dx, ha⟩ := id R
    obtain ⟨kvs, hd, hklen, hfind, hnone⟩ := dict_at hD hS.files.nd
    refine ⟨_, rfl, _, _, rfl, rfl, _, rfl, ?_⟩
    by_cases c1 : 16383 < n
    · refine if_t (decide_eq_true (by omega)) ?_
      exact ⟨by show 1 ≤ sizeLine; decide, q.refuse S (by
        show (if BdBox.BFILES ≤ n then (BdAns.says (-1), sh) else _) = _
        rw [if_pos (show BdBox.BFILES ≤ n from c1)])⟩
    refine if_f (decide_eq_false (by omega)) ?_
    have edoes : BoxSpec.does sh (.take n) = if (BoxSpec.fileOf sh n).isNone = true then (BdAns.says (-4), sh) else BoxSpec.anew sh (BdBox.withoutFile n sh.files) := by
      show (if BdBox.BFILES ≤ n then (BdAns.says (-1), sh) else _) = _
      rw [if_neg (fun (z : BdBox.BFILES ≤ n) => c1 z)]
    refine ⟨_, rfl, _, rfl, a, CS, dx, _, _, rfl, ha, T.clS, T.nS2, fS_files, d, _, rfl, DGet.k (k := nK n) hd, _, rfl, ?_⟩
    by_cases c4 : ∃ g ∈ sh.files, g.number = n
    · have hsome := (fileOf_iff sh n).mpr c4
      obtain ⟨g, hg, hgn⟩ := c4
      obtain ⟨cc, hc1, hc2⟩ := hfind g hg
      rw [hgn] at hc1
      refine if_f (by rw [hc1]; rfl) ?_
      rw [if_neg (by intro z; rw [Option.isNone_iff_eq_none] at z; rw [z] at hsome; cases hsome)] at edoes
      refine ⟨_, rfl, a, CS, dx, _, _, rfl, ha, T.clS, T.nS2, fS_files, d, rfl, .inl ⟨_, .inl hd⟩, _, rfl, kvs, nK n, _, hd, rfl, hc1, ?_⟩
      have nad : a ≠ d := ne_of ha hd (by intro z; cases z)
      have R2 : ShelfRaw CS (upd H d (.dK (dropK kvs (nK n)))) a sh.room d l sh.next := ⟨dx, by rw [upd_ne nad]; exact ha⟩
      have K2 : KeepL H (upd H d (.dK (dropK kvs (nK n)))) := fun b o e h1 h2 => by
        rw [upd_ne (ne_of e hd (h2 _))]
        exact e
      have row2 : RowAt CB (upd H d (.dK (dropK kvs (nK n)))) l (row sh.boxes) := by
        obtain ⟨as, e1, e2⟩ := hrow
        refine ⟨as, K2 _ _ e1 (by intro _ _ _ z; cases z) (by intro _ z; cases z), e2.imp fun c b _ _ r => ?_⟩
        obtain ⟨dy, fl, r1, r2⟩ := r
        exact ⟨dy, fl, by rw [upd_ne (ne_of r1 hd (by intro z; cases z))]; exact r1, K2 _ _ r2 (by intro _ _ _ z; cases z) (by intro _ z; cases z)⟩
      have D2 : DictAt CF (upd H d (.dK (dropK kvs (nK n)))) d (BdBox.withoutFile n sh.files) := by
        obtain ⟨ps, e1, e2, e3⟩ := hD
        have ek : kvs = ps.map fun p => (nK p.1.number, V.ref p.2) := by
          rw [hd] at e1
          exact HO.dK.inj (Option.some.inj e1)
        refine ⟨ps.filter fun p => p.1.number != n, ?_, ?_, fun p hp => ?_⟩
        · rw [upd_same, ek, drop_ps]
        · have e : (ps.filter fun p => p.1.number != n).map (fun p => p.1) = (ps.map (fun p => p.1)).filter (fun f => f.number != n) := by
            rw [List.filter_map]
            rfl
          rw [e]
          exact e2.filter _
        · obtain ⟨dy, ey⟩ := e3 p (List.mem_filter.mp hp).1
          exact ⟨dy, by rw [upd_ne (ne_of ey hd (by intro z; cases z))]; exact ey⟩
      have F2 : FilesOk sh.room (BdBox.withoutFile n sh.files) := without_ok hS.files n
      have free2 : ∀ p, (upd H d (.dK (dropK kvs (nK n)))) p = none → H p = none := fun p e => by
        by_cases z : p = d
        · subst z; rw [upd_same] at e; cases e
        · rw [upd_ne z] at e; exact e
      generalize (upd H d (.dK (dropK kvs (nK n)))) = H2 at R2 K2 row2 D2 free2
      obtain ⟨dx2, ha2⟩ := id R2
      refine ⟨_, rfl, a, dx2, _, rfl, ha2, fS_not (by decide +kernel) (by decide +kernel) (by decide +kernel) (by decide +kernel), a, d, l, sh.room, sh.next, sh.boxes, _, rfl, R2, row2, D2, F2, hS.old, (by have := hS.ol; omega), (by have := hS.sm; omega), fun H3 p l' B3 R3 W3 hp0 hp3 => ?_⟩
      exact anew_end q hS F2 edoes (fun z nums => by show z :: (nums ++ []) = _; rw [List.append_nil]) K2 R2 D2 (free2 p hp0) B3 R3 W3 hp3
    · have hv := hnone n (fun g hg e => c4 ⟨g, hg, e⟩)
      refine if_t (by rw [hv]; rfl) ?_
      refine ⟨by show 1 ≤ sizeLine; decide, q.refuse S ?_⟩
      rw [edoes, if_pos]
      cases e : BoxSpec.fileOf sh n with
      | none => rfl
      | some g => exact absurd ((fileOf_iff sh n).mp (by rw [e]; rfl)) c4
theorem scGrow : FnScope ["shelf", "number", "thick"] ["shelf", "number", "thick"] (defScope sGrow) := ⟨rfl, rfl, rfl, by decide +kernel, rfl, by decide +kernel, by decide +kernel⟩
theorem ok_Grow (D : DefF K mg "grow" sGrow ["shelf", "number", "thick"]) (T : Txt K mg CF CB CW CS aN) (C1 : CalF P w K mg base 1 "is_thick" ["shelf", "thick"] (spIsThick CS)) (C3 : CalM P w K mg base 5 CS "stand_anew" ["self"] (spAnew CF CB CS)) : CalF P w K mg base 6 "grow" ["shelf", "number", "thick"] (spGrow CF CB CS) := by
  obtain ⟨f1, fd1, G1, g1, k1, b1⟩ := C1
  obtain ⟨f3, fd3, G3, m3, b3⟩ := C3
  refine D.cal fun f fd F => F.ok scGrow (fun vs H Q E h => ?_) (fun cdv A outer s H vs Q E hr h => ?_)
  · obtain ⟨a, sh, n, t, rfl, _⟩ := h
    rfl
  · obtain ⟨a, sh, n, t, rfl, S, q⟩ := h
    have hu := hu_of hr
    have hr1 : Room 1 (A.deeper (envOfC "grow" (defScope sGrow) s.heap.objs.size f cdv)) := hr.mono (by decide)
    obtain ⟨u1, n1, r1⟩ := T.cLAST
    obtain ⟨u3, n3, r3⟩ := T.cWRONG
    obtain ⟨u4, n4, r4⟩ := T.cNONE
    refine ⟨_, pss_cons (ps_if (PW.pt (pw_or (pt_cmpR op_gt (pv 1) (pe_glob rfl n1 r1) (nomark _)) (pw_or1 (pt_not (pt_val (pe_call G1 hr1 (by rfl) g1 k1 b1 .nil pass0 (pa_cons (pv 0) (pa_cons (pv 2) pa_nil))))))))
        (pss_one (ps_ret (pe_lst (pa_cons (pe_glob rfl n3 r3) pa_nil)))) pss_nil)
      (pss_cons (ps_if (pt_cmp (pc_dnotin hu (pv 1) (pe_fn (pv 0)))) (pss_one (ps_ret (pe_lst (pa_cons (pe_glob rfl n4 r4) pa_nil)))) pss_nil)
      (pss_cons (ps_fld (pe_dget hu (pe_fn (pv 0)) (pv 1) (fun _ _ => rfl)) (pv 2) rfl)
      (pss_one (ps_ret (pe_meth0 (pv 0) T.clS m3 G3 hr b3 .nil pass0))))), ?_⟩
    obtain ⟨d, l, R, hrow, hD, hS⟩ := id S
    obtain ⟨dx, ha⟩ := id R
    obtain ⟨kvs, hd, hklen, hfind, hnone⟩ := dict_at hD hS.files.nd
    have wrong : (BdBox.BFILES ≤ n ∨ t = 0 ∨ sh.room < t) → ∀ p, H p = none → Q (.ref p) (upd H p (.lst [.int (-1)])) := fun h => q.refuse S (by
      show (if BdBox.BFILES ≤ n ∨ t = 0 ∨ sh.room < t then (BdAns.says (-1), sh) else _) = _
      rw [if_pos h])
    refine ⟨_, rfl, _, _, rfl, rfl, _, rfl, ?_⟩
    by_cases c1 : 16383 < n
    · refine if_t (decide_eq_true (by omega)) ?_
      refine if_t rfl ?_
      exact ⟨by show 1 ≤ sizeLine; decide, wrong (.inl (show 16384 ≤ n from c1))⟩
    refine if_f (decide_eq_false (by omega)) ?_
    refine ⟨_, rfl, _, rfl, a, d, l, sh.room, sh.next, t, rfl, R, _, rfl, ?_⟩
    by_cases c3 : 1 ≤ t ∧ t ≤ sh.room
    · refine if_f (by rw [decide_eq_true c3]; rfl) ?_
      have hok : ¬ (BdBox.BFILES ≤ n ∨ t = 0 ∨ sh.room < t) := by
        rintro (h | h | h)
        · exact c1 h
        · omega
        · omega
      have edoes : BoxSpec.does sh (.grow n t) = if (BoxSpec.fileOf sh n).isNone = true then (BdAns.says (-4), sh) else BoxSpec.anew sh (BdBox.grownFile n t sh.files) := by
        show (if BdBox.BFILES ≤ n ∨ t = 0 ∨ sh.room < t then (BdAns.says (-1), sh) else _) = _
        rw [if_neg hok]
      refine ⟨_, rfl, _, rfl, a, CS, dx, _, _, rfl, ha, T.clS, T.nS2, fS_files, d, _, rfl, DGet.k (k := nK n) hd, _, rfl, ?_⟩
      by_cases c4 : ∃ g ∈ sh.files, g.number = n
      · have hsome := (fileOf_iff sh n).mpr c4
        obtain ⟨g, hg, hgn⟩ := c4
        obtain ⟨cc, hc1, dy, ey⟩ := hfind g hg
        have hc1' := hc1
        rw [hgn] at hc1
        refine if_f (by rw [hc1]; rfl) ?_
        rw [if_neg (by intro z; rw [Option.isNone_iff_eq_none] at z; rw [z] at hsome; cases hsome)] at edoes
        refine ⟨_, rfl, _, rfl, a, CS, dx, _, _, rfl, ha, T.clS, T.nS2, fS_files, _, rfl, d, .ref cc, rfl, (by rw [← hc1]; exact DGet.k (k := nK n) hd), cc, CF, dy, _, rfl, ey, T.clF, T.nF3, (by show 3 < 1000; decide), ?_⟩
        have nac : a ≠ cc := (ne_of ey ha fS_ne_fF).symm
        have ndc : d ≠ cc := (ne_of ey hd (by intro z; cases z)).symm
        have R2 : ShelfRaw CS (upd H cc (.ins CF dy (putF "thick" (nI t) (fF g.number g.key g.thick)))) a sh.room d l sh.next := ⟨dx, by rw [upd_ne nac]; exact ha⟩
        have K2 : KeepL H (upd H cc (.ins CF dy (putF "thick" (nI t) (fF g.number g.key g.thick)))) := fun b o e h1 h2 => by
          rw [upd_ne (ne_of e ey (h1 _ _ _))]
          exact e
        have row2 : RowAt CB (upd H cc (.ins CF dy (putF "thick" (nI t) (fF g.number g.key g.thick)))) l (row sh.boxes) := by
          obtain ⟨as, e1, e2⟩ := hrow
          refine ⟨as, K2 _ _ e1 (by intro _ _ _ z; cases z) (by intro _ z; cases z), e2.imp fun c b _ _ r => ?_⟩
          obtain ⟨dz, fl, r1, r2⟩ := r
          refine ⟨dz, fl, ?_, K2 _ _ r2 (by intro _ _ _ z; cases z) (by intro _ z; cases z)⟩
          rw [upd_ne (ne_of r1 ey (fun z => by
            have h3 := (HO.ins.inj z).2.2
            have h4 := congrArg List.length h3
            simp [fB, fF] at h4))]
          exact r1
        have D2 : DictAt CF (upd H cc (.ins CF dy (putF "thick" (nI t) (fF g.number g.key g.thick)))) d (BdBox.grownFile n t sh.files) := by
          obtain ⟨ps, e1, e2, e3⟩ := hD
          have ek : kvs = ps.map fun p => (nK p.1.number, V.ref p.2) := by
            rw [hd] at e1
            exact HO.dK.inj (Option.some.inj e1)
          have ndp : (ps.map (fun p => p.1.number)).Nodup := by
            have := (e2.map (fun f => f.number)).nodup_iff.mpr hS.files.nd
            rw [List.map_map] at this
            exact this
          refine ⟨ps.map fun p => (grown n t p.1, p.2), ?_, ?_, fun p hp => ?_⟩
          · rw [upd_ne ndc, hd, ek, List.map_map]
            congr 2
            apply List.map_congr_left
            intro p _
            show _ = (nK (grown n t p.1).number, V.ref p.2)
            rw [grown_num]
          · rw [List.map_map]
            have e : (ps.map ((fun (p : BdBox.BFile × Addr) => p.1) ∘ fun p => (grown n t p.1, p.2))) = (ps.map (fun p => p.1)).map (grown n t) := by
              rw [List.map_map]
              rfl
            rw [e]
            exact e2.map _
          · obtain ⟨p0, hp0, rfl⟩ := List.mem_map.mp hp
            obtain ⟨dz, ez⟩ := e3 p0 hp0
            by_cases c : p0.2 = cc
            · have hez := ez
              rw [c, ey] at hez
              have h5 := HO.ins.inj (Option.some.inj hez)
              have h6 := h5.2.2
              have hnum : p0.1.number = n := by
                have h7 := congrArg (fun l => List.lookup ("number" : Str) l) h6
                simp only [fF_number] at h7
                have := V.int.inj (Option.some.inj h7)
                omega
              have heq : p0.1 = g := num_uniq hS.files.nd (e2.mem_iff.mp (List.mem_map.mpr ⟨p0, hp0, rfl⟩)) hg (by rw [hnum, hgn])
              refine ⟨dy, ?_⟩
              show upd H cc _ p0.2 = _
              rw [c, upd_same, fF_putT]
              unfold grown
              rw [if_pos hnum, heq]
            · have hnum : ¬ p0.1.number = n := by
                intro z
                have h7 := dict_find ndp hp0
                rw [← ek, z, hc1] at h7
                exact c (V.ref.inj (Option.some.inj h7)).symm
              refine ⟨dz, ?_⟩
              show upd H cc _ p0.2 = _
              rw [upd_ne c]
              unfold grown
              rw [if_neg hnum]
              exact ez
        have F2 : FilesOk sh.room (BdBox.grownFile n t sh.files) := grown_ok hS.files n t c3
        have free2 : ∀ p, (upd H cc (.ins CF dy (putF "thick" (nI t) (fF g.number g.key g.thick)))) p = none → H p = none := fun p e => by
          by_cases z : p = cc
          · subst z; rw [upd_same] at e; cases e
          · rw [upd_ne z] at e; exact e
        generalize (upd H cc (.ins CF dy (putF "thick" (nI t) (fF g.number g.key g.thick)))) = H2 at R2 K2 row2 D2 free2
        obtain ⟨dx2, ha2⟩ := id R2
        refine ⟨_, rfl, a, dx2, _, rfl, ha2, fS_not (by decide +kernel) (by decide +kernel) (by decide +kernel) (by decide +kernel), a, d, l, sh.room, sh.next, sh.boxes, _, rfl, R2, row2, D2, F2, hS.old, (by have := hS.ol; omega), (by have := hS.sm; omega), fun H3 p l' B3 R3 W3 hp0 hp3 => ?_⟩
        exact anew_end q hS F2 edoes (fun z nums => by show z :: (nums ++ []) = _; rw [List.append_nil]) K2 R2 D2 (free2 p hp0) B3 R3 W3 hp3
      · have hv := hnone n (fun g hg e => c4 ⟨g, hg, e⟩)
        refine if_t (by rw [hv]; rfl) ?_
        refine ⟨by show 1 ≤ sizeLine; decide, q.refuse S ?_⟩
        rw [edoes, if_pos]
        cases e : BoxSpec.fileOf sh n with
        | none => rfl
        | some g => exact absurd ((fileOf_iff sh n).mp (by rw [e]; rfl)) c4
    · refine if_t (by rw [decide_eq_false c3]; rfl) ?_
      exact ⟨by show 1 ≤ sizeLine; decide, wrong (.inr (by omega))⟩
end
end BW

namespace BW
open PySem PySem.Spec PyProof.Rows L2 BX
abbrev sCount : Stmt := topS 40
abbrev sWhere : Stmt := topS 41
abbrev sBox : Stmt := topS 42
abbrev sFiles : Stmt := topS 43
abbrev sSeek : Stmt := topS 44
def spCount (CF CB CS : Addr) : Sp := fun vs H Q _ => ∃ (a : Addr) (s : BdBox.Shelf), vs = [.ref a] ∧ ShelfOk CF CB CS H a s ∧ After CF CB CS H a s .count Q
def spWhere (CF CB CS : Addr) : Sp := fun vs H Q _ => ∃ (a : Addr) (s : BdBox.Shelf) (f : Nat), vs = [.ref a, nI f] ∧ ShelfOk CF CB CS H a s ∧ After CF CB CS H a s (.where_ f) Q
def spBox (CF CB CS : Addr) : Sp := fun vs H Q _ => ∃ (a : Addr) (s : BdBox.Shelf) (f : Nat), vs = [.ref a, nI f] ∧ ShelfOk CF CB CS H a s ∧ After CF CB CS H a s (.box f) Q
def spFiles (CF CB CS : Addr) : Sp := fun vs H Q _ => ∃ (a : Addr) (s : BdBox.Shelf) (f : Nat), vs = [.ref a, nI f] ∧ ShelfOk CF CB CS H a s ∧ After CF CB CS H a s (.files f) Q
def spSeek (CF CB CS : Addr) : Sp := fun vs H Q _ => ∃ (a : Addr) (s : BdBox.Shelf) (f : Nat), vs = [.ref a, nI f] ∧ ShelfOk CF CB CS H a s ∧ After CF CB CS H a s (.seek f) Q
/-- an answer that leaves the shelf -/
theorem After.same {CF CB CS : Addr} {H H1 : Hp} {a p : Addr} {s : BdBox.Shelf} {c : BoxSpec.Call} {Q : VK} {xs : List V} (h : After CF CB CS H a s c Q) (S : ShelfOk CF CB CS H a s) (e : (BoxSpec.does s c).2 = s) (s1 : Same H H1) (hp0 : H p = none) (hp : H1 p = some (.lst xs)) (ex : xs = (Neutral.told c (BoxSpec.does s c).1).map V.int) : Q (.ref p) H1 := by
  refine h _ p ?_ s1.keepL hp0 (by rw [hp, ex])
  rw [e]
  exact S.same s1
theorem boxOf_some {old : List BdBox.Box} {n : Nat} {b : BdBox.Box} (hb : b ∈ old) (hn : n ∈ BdBox.numbersOf b.files) : ∃ i, BdBox.boxOf old n = some i := by
  cases e : BdBox.boxOf old n with
  | some i => exact ⟨i, rfl⟩
  | none =>
    unfold BdBox.boxOf at e
    rw [List.findIdx?_eq_none_iff] at e
    have := e b hb
    rw [List.contains_eq_mem] at this
    simp [hn] at this
theorem find_file {fl : List BdBox.BFile} {n : Nat} (h : n ∈ BdBox.numbersOf fl) : ∃ k, (fl.findIdx? fun (g : BdBox.BFile) => g.number == n) = some k := by
  cases e : (fl.findIdx? fun (g : BdBox.BFile) => g.number == n) with
  | some k => exact ⟨k, rfl⟩
  | none =>
    rw [List.findIdx?_eq_none_iff] at e
    unfold BdBox.numbersOf at h
    obtain ⟨g, hg, hgn⟩ := List.mem_map.mp h
    have := e g hg
    rw [hgn] at this
    simp at this
theorem shelf_box {s : BdBox.Shelf} {f : BdBox.BFile} (h : f ∈ s.files) : ∃ b ∈ s.boxes, f ∈ b.files := List.mem_flatMap.mp h
section
variable {P : Program} {w : World} {K : PySem.W.Frag} {mg : Str → Option Value} {base : Heap} {CF CB CW CS aN : Addr}
theorem scCount : FnScope ["shelf"] ["shelf"] (defScope sCount) := ⟨rfl, rfl, rfl, by decide +kernel, rfl, by decide +kernel, by decide +kernel⟩
theorem ok_Count (D : DefF K mg "count" sCount ["shelf"]) (T : Txt K mg CF CB CW CS aN) (C1 : CalM P w K mg base 3 CS "thicks" ["self"] (spThicks CF CS)) : CalF P w K mg base 4 "count" ["shelf"] (spCount CF CB CS) := by
  obtain ⟨f1, fd1, G1, m1, b1⟩ := C1
  refine D.cal fun f fd F => F.ok scCount (fun vs H Q E h => ?_) (fun cdv A outer s H vs Q E hr h => ?_)
  · obtain ⟨a, sh, rfl, _⟩ := h
    rfl
  · obtain ⟨a, sh, rfl, S, q⟩ := h
    obtain ⟨d, l, R⟩ := S.rest
    obtain ⟨dx, ha⟩ := id R.raw
    obtain ⟨as, hl, hlen, _⟩ := R.box
    obtain ⟨kvs, hd, hklen, _, _⟩ := dict_at R.dict R.ord.nd
    refine ⟨_, pss_one (ps_ret (pe_lst (pa_cons (pe_callB call_len_seq (by rfl) T.len PySem.boot_len (pa_cons (pe_fn (pv 0)) pa_nil)) (pa_cons (pe_callB call_lenD (by rfl) T.len PySem.boot_len (pa_cons (pe_fn (pv 0)) pa_nil))
      (pa_cons (pe_callB (cr_sum rfl) (by rfl) T.sum (by decide +kernel) (pa_cons (pe_meth0 (pv 0) T.clS m1 G1 hr b1 .nil pass0) pa_nil)) (pa_cons (pe_fn (pv 0)) pa_nil)))))), ?_⟩
    refine ⟨_, rfl, a, CS, dx, _, _, rfl, ha, T.clS, T.nS3, fS_boxes, l, _, rfl, .inl (SqL.of hl), _, rfl, a, CS, dx, _, _, rfl, ha, T.clS, T.nS2, fS_files, d, kvs, rfl, hd, ?_⟩
    refine ⟨_, rfl, a, dx, _, rfl, ha, fS_not (by decide +kernel) (by decide +kernel) (by decide +kernel) (by decide +kernel), a, d, l, sh.room, sh.next, sh.files, rfl, R.raw, R.dict, R.ord, fun H1 p1 s1 hp10 hp1 => ?_⟩
    refine ⟨p1, sh.files.map (fun f => (f.thick : Int)), rfl, SqL.of (by rw [hp1, List.map_map, List.map_map]; rfl), ?_⟩
    refine ⟨_, rfl, a, CS, dx, _, _, rfl, s1 _ _ ha, T.clS, T.nS4, fS_coming, (by show 4 ≤ sizeLine; decide), fun p hp => ?_⟩
    refine q.same S rfl (s1.trans (Same.new hp)) (s1.free hp) upd_same ?_
    rw [thick_sum, List.length_map, hlen, hklen]
    rfl
theorem scWhere : FnScope ["shelf", "number"] ["shelf", "number"] (defScope sWhere) := ⟨rfl, rfl, rfl, by decide +kernel, rfl, by decide +kernel, by decide +kernel⟩
theorem ok_Where (D : DefF K mg "where" sWhere ["shelf", "number"]) (T : Txt K mg CF CB CW CS aN) (C1 : CalM P w K mg base 2 CS "where" ["self", "number"] (spWhereM CF CB CS)) : CalF P w K mg base 3 "where" ["shelf", "number"] (spWhere CF CB CS) := by
  obtain ⟨f1, fd1, G1, m1, b1⟩ := C1
  refine D.cal fun f fd F => F.ok scWhere (fun vs H Q E h => ?_) (fun cdv A outer s H vs Q E hr h => ?_)
  · obtain ⟨a, sh, n, rfl, _⟩ := h
    rfl
  · obtain ⟨a, sh, n, rfl, S, q⟩ := h
    have hu := hu_of hr
    obtain ⟨d, l, R⟩ := S.rest
    obtain ⟨dx, ha⟩ := id R.raw
    obtain ⟨kvs, hd, hklen, hfind, hnone⟩ := dict_at R.dict R.ord.nd
    obtain ⟨u1, n1, r1⟩ := T.cLAST
    obtain ⟨u3, n3, r3⟩ := T.cWRONG
    obtain ⟨u4, n4, r4⟩ := T.cNONE
    refine ⟨_, pss_cons (ps_if (pt_cmpR op_gt (pv 1) (pe_glob rfl n1 r1) (nomark _)) (pss_one (ps_ret (pe_lst (pa_cons (pe_glob rfl n3 r3) pa_nil)))) pss_nil)
      (pss_cons (ps_if (pt_cmp (pc_dnotin hu (pv 1) (pe_fn (pv 0)))) (pss_one (ps_ret (pe_lst (pa_cons (pe_glob rfl n4 r4) pa_nil)))) pss_nil)
      (pss_one (ps_ret (pe_op op_cat (pe_lst (pa_cons pe_int pa_nil)) (pe_meth (pv 0) T.clS m1 G1 hr b1 .nil pass0 (pa_cons (pv 1) pa_nil)))))), ?_⟩
    refine ⟨_, rfl, _, _, rfl, rfl, _, rfl, ?_⟩
    by_cases c1 : 16383 < n
    · refine if_t (decide_eq_true (by omega)) ?_
      exact ⟨by show 1 ≤ sizeLine; decide, q.refuse S (by
        show (if BdBox.BFILES ≤ n then (BdAns.says (-1), sh) else _) = _
        rw [if_pos (show BdBox.BFILES ≤ n from c1)])⟩
    refine if_f (decide_eq_false (by omega)) ?_
    have edoes : BoxSpec.does sh (.where_ n) = (match BoxSpec.whereIs sh n with
      | some l => BdAns.tells 0 (BdAns.ints l)
      | none => BdAns.says (-4), sh) := by
      show (if BdBox.BFILES ≤ n then (BdAns.says (-1), sh) else _) = _
      rw [if_neg (fun (z : BdBox.BFILES ≤ n) => c1 z)]
      rfl
    refine ⟨_, rfl, _, rfl, a, CS, dx, _, _, rfl, ha, T.clS, T.nS2, fS_files, d, _, rfl, DGet.k (k := nK n) hd, _, rfl, ?_⟩
    by_cases c4 : ∃ g ∈ sh.files, g.number = n
    · obtain ⟨g, hg, hgn⟩ := c4
      obtain ⟨cc, hc1, hc2⟩ := hfind g hg
      rw [hgn] at hc1
      refine if_f (by rw [hc1]; rfl) ?_
      obtain ⟨b0, hb0, hgb⟩ := shelf_box hg
      obtain ⟨i, hi⟩ := boxOf_some (n := n) hb0 (by unfold BdBox.numbersOf; exact List.mem_map.mpr ⟨g, hgb, hgn⟩)
      obtain ⟨b, hbi, hnb⟩ := boxOf_lt hi
      obtain ⟨k, hk⟩ := find_file hnb
      have ew : BoxSpec.whereIs sh n = some [b.number, i, k, BdBox.thickness (b.files.take k)] := by
        unfold BoxSpec.whereIs
        rw [hi]
        show (sh.boxes[i]?).bind _ = _
        rw [hbi]
        show Option.map _ _ = _
        rw [hk]
        rfl
      rw [ew] at edoes
      refine ⟨(by show 1 ≤ sizeLine; decide), fun p0 hp0 => ?_⟩
      have s1 : Same H (upd H p0 (.lst [.int 0])) := Same.new hp0
      have hp01 : (upd H p0 (.lst [.int 0])) p0 = some (.lst [.int 0]) := upd_same
      generalize (upd H p0 (.lst [.int 0])) = H1 at s1 hp01
      refine ⟨_, rfl, a, dx, _, rfl, s1 _ _ ha, fS_not (by decide +kernel) (by decide +kernel) (by decide +kernel) (by decide +kernel), _, rfl, a, d, l, sh.room, sh.next, n, i, k, sh.boxes, sh.files, b, rfl, R.same s1, hi, hbi, hk, fun H2 p2 s2 hp20 hp2 => ?_⟩
      refine ⟨p0, p2, _, _, rfl, rfl, s2 _ _ hp01, hp2, (by show 5 ≤ sizeLine; decide), fun p hp => ?_⟩
      have s02 := s1.trans s2
      refine q.same S (by rw [edoes]) (s02.trans (Same.new hp)) (s02.free hp) upd_same ?_
      rw [edoes]
      rfl
    · have hv := hnone n (fun g hg e => c4 ⟨g, hg, e⟩)
      refine if_t (by rw [hv]; rfl) ?_
      refine ⟨by show 1 ≤ sizeLine; decide, q.refuse S ?_⟩
      have ew : BoxSpec.whereIs sh n = none := by
        unfold BoxSpec.whereIs
        rw [boxOf_none]
        · rfl
        · intro b hb z
          unfold BdBox.numbersOf at z
          obtain ⟨g, hg, e⟩ := List.mem_map.mp z
          exact c4 ⟨g, List.mem_flatMap.mpr ⟨b, hb, hg⟩, e⟩
      rw [edoes, ew]
theorem scBox : FnScope ["shelf", "at"] ["shelf", "at"] (defScope sBox) := ⟨rfl, rfl, rfl, by decide +kernel, rfl, by decide +kernel, by decide +kernel⟩
theorem ok_Box (D : DefF K mg "box" sBox ["shelf", "at"]) (T : Txt K mg CF CB CW CS aN) (C1 : CalM P w K mg base 2 CS "box_told" ["self", "at"] (spBoxTold CF CB CS)) : CalF P w K mg base 3 "box" ["shelf", "at"] (spBox CF CB CS) := by
  obtain ⟨f1, fd1, G1, m1, b1⟩ := C1
  refine D.cal fun f fd F => F.ok scBox (fun vs H Q E h => ?_) (fun cdv A outer s H vs Q E hr h => ?_)
  · obtain ⟨a, sh, n, rfl, _⟩ := h
    rfl
  · obtain ⟨a, sh, n, rfl, S, q⟩ := h
    obtain ⟨d, l, R⟩ := S.rest
    obtain ⟨dx, ha⟩ := id R.raw
    obtain ⟨as, hl, hlen, _⟩ := R.box
    obtain ⟨u4, n4, r4⟩ := T.cNONE
    have hS : SOk sh := by obtain ⟨_, _, _, _, _, h⟩ := S; exact h
    refine ⟨_, pss_cons (ps_if (pt_cmpR op_ge (pv 1) (pe_callB call_len_seq (by rfl) T.len PySem.boot_len (pa_cons (pe_fn (pv 0)) pa_nil)) (nomark _)) (pss_one (ps_ret (pe_lst (pa_cons (pe_glob rfl n4 r4) pa_nil)))) pss_nil)
      (pss_one (ps_ret (pe_meth (pv 0) T.clS m1 G1 hr b1 .nil pass0 (pa_cons (pv 1) pa_nil)))), ?_⟩
    refine ⟨_, rfl, _, rfl, a, CS, dx, _, _, rfl, ha, T.clS, T.nS3, fS_boxes, l, _, rfl, .inl (SqL.of hl), _, _, rfl, rfl, _, rfl, ?_⟩
    rw [List.length_map, hlen]
    have edoes : BoxSpec.does sh (.box n) = (match sh.boxes[n]? with
      | some b => BdAns.tells (b.files.length : Int) (BdAns.ints [b.number, ((b.files.head?).map fun (f : BdBox.BFile) => f.number).getD 0, sh.room - BdBox.thickness b.files])
      | none => BdAns.says (-4), sh) := rfl
    by_cases c1 : sh.boxes.length ≤ n
    · refine if_t (decide_eq_true (by omega)) ?_
      refine ⟨by show 1 ≤ sizeLine; decide, q.refuse S ?_⟩
      rw [edoes, List.getElem?_eq_none_iff.mpr c1]
    · refine if_f (decide_eq_false (by omega)) ?_
      obtain ⟨b, hb⟩ := get_of_lt (l := sh.boxes) (i := n) (by omega)
      have hbb := hS.boxes b (List.mem_of_getElem? hb)
      obtain ⟨f0, hf0⟩ : ∃ f0, b.files.head? = some f0 := by
        cases e : b.files with
        | nil => exact absurd e hbb.1
        | cons x y => exact ⟨x, rfl⟩
      rw [hb] at edoes
      refine ⟨_, rfl, a, dx, _, rfl, ha, fS_not (by decide +kernel) (by decide +kernel) (by decide +kernel) (by decide +kernel), _, rfl, a, d, l, sh.room, sh.next, n, sh.boxes, sh.files, b, f0, rfl, R, hb, hf0, fun H2 p2 s2 hp20 hp2 => ?_⟩
      refine q.same S (by rw [edoes]) s2 hp20 hp2 ?_
      rw [edoes]
      show _ = [V.int _, V.int _, V.int _, V.int _]
      rw [hf0]
      have e1 : ((sh.room : Int) - ((BdBox.thickness b.files : Nat) : Int)) = ((sh.room - BdBox.thickness b.files : Nat) : Int) := by omega
      rw [e1]
      rfl
theorem scFiles : FnScope ["shelf", "at"] ["shelf", "at"] (defScope sFiles) := ⟨rfl, rfl, rfl, by decide +kernel, rfl, by decide +kernel, by decide +kernel⟩
theorem ok_Files (D : DefF K mg "files" sFiles ["shelf", "at"]) (T : Txt K mg CF CB CW CS aN) : CalF P w K mg base 1 "files" ["shelf", "at"] (spFiles CF CB CS) := by
  refine D.cal fun f fd F => F.ok scFiles (fun vs H Q E h => ?_) (fun cdv A outer s H vs Q E hr h => ?_)
  · obtain ⟨a, sh, n, rfl, _⟩ := h
    rfl
  · obtain ⟨a, sh, n, rfl, S, q⟩ := h
    obtain ⟨d, l, R⟩ := S.rest
    obtain ⟨dx, ha⟩ := id R.raw
    obtain ⟨as, hl, hlen, hbox⟩ := R.box
    obtain ⟨u4, n4, r4⟩ := T.cNONE
    refine ⟨_, pss_cons (ps_if (pt_cmpR op_ge (pv 1) (pe_callB call_len_seq (by rfl) T.len PySem.boot_len (pa_cons (pe_fn (pv 0)) pa_nil)) (nomark _)) (pss_one (ps_ret (pe_lst (pa_cons (pe_glob rfl n4 r4) pa_nil)))) pss_nil)
      (pss_one (ps_ret (pe_op op_cat (pe_lst (pa_cons (pe_callB call_len_seq (by rfl) T.len PySem.boot_len (pa_cons (pe_fld (pe_ix ix_list (pe_fn (pv 0)) (pv 1) (fun _ _ => rfl)) rfl) pa_nil)) pa_nil)) (pe_fld (pe_ix ix_list (pe_fn (pv 0)) (pv 1) (fun _ _ => rfl)) rfl)))), ?_⟩
    refine ⟨_, rfl, _, rfl, a, CS, dx, _, _, rfl, ha, T.clS, T.nS3, fS_boxes, l, _, rfl, .inl (SqL.of hl), _, _, rfl, rfl, _, rfl, ?_⟩
    rw [List.length_map, hlen]
    have edoes : BoxSpec.does sh (.files n) = (match sh.boxes[n]? with
      | some b => BdAns.shows (BdBox.numbersOf b.files)
      | none => BdAns.says (-4), sh) := rfl
    by_cases c1 : sh.boxes.length ≤ n
    · refine if_t (decide_eq_true (by omega)) ?_
      refine ⟨by show 1 ≤ sizeLine; decide, q.refuse S ?_⟩
      rw [edoes, List.getElem?_eq_none_iff.mpr c1]
    · refine if_f (decide_eq_false (by omega)) ?_
      obtain ⟨b, hb⟩ := get_of_lt (l := sh.boxes) (i := n) (by omega)
      obtain ⟨c, dy, fl, hc, e1, e2⟩ := hbox n b hb
      rw [hb] at edoes
      have hat : atI (as.map V.ref) (n : Int) = some (.ref c) := atI_nat (by rw [List.getElem?_map, hc]; rfl)
      refine ⟨_, rfl, a, CS, dx, _, _, rfl, ha, T.clS, T.nS3, fS_boxes, _, rfl, l, _, _, _, rfl, rfl, SqL.of hl, hat, c, CB, dy, _, _, rfl, e1, T.clB, T.nB2, fB_files, fl, _, rfl, .inl (SqL.of e2), (by show 1 ≤ sizeLine; decide), fun p0 hp0 => ?_⟩
      have s1 : Same H (upd H p0 (.lst [V.int (((BdBox.numbersOf b.files).map nI).length : Int)])) := Same.new hp0
      have hp01 : (upd H p0 (.lst [V.int (((BdBox.numbersOf b.files).map nI).length : Int)])) p0 = some (.lst [V.int (((BdBox.numbersOf b.files).map nI).length : Int)]) := upd_same
      generalize (upd H p0 (.lst [V.int (((BdBox.numbersOf b.files).map nI).length : Int)])) = H1 at s1 hp01
      have hbl := R.boxlen (List.mem_of_getElem? hb)
      have enl : (BdBox.numbersOf b.files).length = b.files.length := by unfold BdBox.numbersOf; rw [List.length_map]
      refine ⟨_, rfl, a, CS, dx, _, _, rfl, s1 _ _ ha, T.clS, T.nS3, fS_boxes, _, rfl, l, _, _, _, rfl, rfl, SqL.of (s1 _ _ hl), hat, c, CB, dy, _, _, rfl, s1 _ _ e1, T.clB, T.nB2, fB_files, p0, fl, _, _, rfl, rfl, hp01, s1 _ _ e2, ?_, fun p hp => ?_⟩
      · rw [List.length_singleton, List.length_map, enl]
        exact smallE (by omega)
      · refine q.same S (by rw [edoes]) (s1.trans (Same.new hp)) (s1.free hp) upd_same ?_
        rw [edoes]
        show [V.int _] ++ _ = (((BdBox.numbersOf b.files).length : Int) :: ([] ++ BdAns.ints (BdBox.numbersOf b.files))).map V.int
        rw [List.length_map, List.nil_append, List.map_cons]
        unfold BdAns.ints
        rw [List.map_map]
        rfl
theorem scSeek : FnScope ["shelf", "key"] ["shelf", "key"] (defScope sSeek) := ⟨rfl, rfl, rfl, by decide +kernel, rfl, by decide +kernel, by decide +kernel⟩
theorem ok_Seek (D : DefF K mg "seek" sSeek ["shelf", "key"]) (T : Txt K mg CF CB CW CS aN) (C1 : CalM P w K mg base 3 CS "seek" ["self", "key"] (spSeekM CF CB CS)) : CalF P w K mg base 4 "seek" ["shelf", "key"] (spSeek CF CB CS) := by
  obtain ⟨f1, fd1, G1, m1, b1⟩ := C1
  refine D.cal fun f fd F => F.ok scSeek (fun vs H Q E h => ?_) (fun cdv A outer s H vs Q E hr h => ?_)
  · obtain ⟨a, sh, n, rfl, _⟩ := h
    rfl
  · obtain ⟨a, sh, n, rfl, S, q⟩ := h
    obtain ⟨d, l, R⟩ := S.rest
    obtain ⟨dx, ha⟩ := id R.raw
    obtain ⟨u1, n1, r1⟩ := T.cKEYS
    obtain ⟨u3, n3, r3⟩ := T.cWRONG
    refine ⟨_, pss_cons (ps_if (pt_cmpR op_ge (pv 1) (pe_glob rfl n1 r1) (nomark _)) (pss_one (ps_ret (pe_lst (pa_cons (pe_glob rfl n3 r3) pa_nil)))) pss_nil)
      (pss_one (ps_ret (pe_meth (pv 0) T.clS m1 G1 hr b1 .nil pass0 (pa_cons (pv 1) pa_nil)))), ?_⟩
    refine ⟨_, rfl, _, _, rfl, rfl, _, rfl, ?_⟩
    by_cases c2 : 18446744073709551616 ≤ n
    · refine if_t (decide_eq_true (by omega)) ?_
      exact ⟨by show 1 ≤ sizeLine; decide, q.refuse S (by
        show (if BdBox.KEYS ≤ n then (BdAns.says (-1), sh) else _) = _
        rw [if_pos (show BdBox.KEYS ≤ n from c2)])⟩
    refine if_f (decide_eq_false (by omega)) ?_
    have edoes : BoxSpec.does sh (.seek n) = (BdAns.tells ((BoxSpec.seekIn sh n).1 : Int) [match (BoxSpec.seekIn sh n).2 with
      | some i => (i : Int)
      | none => -1], sh) := by
      show (if BdBox.KEYS ≤ n then (BdAns.says (-1), sh) else _) = _
      rw [if_neg (fun (z : BdBox.KEYS ≤ n) => c2 z)]
      rfl
    have esk : BoxSpec.seekIn sh n = (lessN sh.files n, (sh.files[lessN sh.files n]?).bind fun (f : BdBox.BFile) => BdBox.boxOf sh.boxes f.number) := rfl
    rw [esk] at edoes
    refine ⟨_, rfl, a, dx, _, rfl, ha, fS_not (by decide +kernel) (by decide +kernel) (by decide +kernel) (by decide +kernel), _, rfl, a, d, l, sh.room, sh.next, n, sh.boxes, sh.files, rfl, R, fun g hg => ?_, fun H2 p2 r s2 hp20 hr2 hp2 => ?_⟩
    · obtain ⟨b0, hb0, hgb⟩ := shelf_box hg
      exact boxOf_some hb0 (by unfold BdBox.numbersOf; exact List.mem_map.mpr ⟨g, hgb, rfl⟩)
    · refine q.same S (by rw [edoes]) s2 hp20 hp2 ?_
      rw [edoes]
      rcases hr2 with ⟨h1, rfl⟩ | ⟨g, i, h1, h2, rfl⟩
      · rw [h1]
        rfl
      · rw [h1]
        show _ = [V.int _, V.int (match BdBox.boxOf sh.boxes g.number with | some i => (i : Int) | none => -1)]
        rw [h2]
        rfl
end
end BW

namespace BW
open PySem PySem.Spec PyProof.Rows L2 BX
abbrev sAsked : Stmt := topS 45
abbrev sAnswered : Stmt := topS 46
/-- a call's number and its numbers -/
def encC : BoxSpec.Call → Int × List Nat
  | .begin_ r => (1, [r])
  | .put f k t => (2, [f, k, t])
  | .take f => (3, [f])
  | .grow f t => (4, [f, t])
  | .count => (5, [])
  | .where_ f => (6, [f])
  | .box i => (7, [i])
  | .files i => (8, [i])
  | .seek k => (9, [k])
  | .least => (10, [])
  | .pack => (11, [])
def isAsk : BoxSpec.Call → Prop
  | .begin_ _ => False
  | .put _ _ _ => False
  | .take _ => False
  | .grow _ _ => False
  | _ => True
def isBegin : BoxSpec.Call → Prop
  | .begin_ _ => True
  | _ => False
def spAsked (CF CB CS : Addr) : Sp := fun vs H Q _ => ∃ (a nl : Addr) (s : BdBox.Shelf) (c : BoxSpec.Call), vs = [.ref a, .int (encC c).1, .ref nl] ∧ H nl = some (.lst ((encC c).2.map nI)) ∧ isAsk c ∧ ShelfOk CF CB CS H a s ∧ After CF CB CS H a s c Q
/-- no shelf, or a shelf -/
def StateAt (CF CB CS : Addr) (H : Hp) (v : V) : BoxSpec.State → Prop
  | none => v = .non
  | some s => ∃ a, v = .ref a ∧ ShelfOk CF CB CS H a s
def spAnswered (CF CB CS : Addr) : Sp := fun vs H Q _ => ∃ (v : V) (nl : Addr) (x : BoxSpec.State) (c : BoxSpec.Call), vs = [v, .int (encC c).1, .ref nl] ∧ H nl = some (.lst ((encC c).2.map nI)) ∧ ¬ isBegin c ∧ StateAt CF CB CS H v x ∧
  ∀ (H' : Hp) (p : Addr), StateAt CF CB CS H' v (BoxSpec.step x c).1 → KeepL H H' → H p = none → H' p = some (.lst ((Neutral.told c (BoxSpec.step x c).2).map V.int)) → Q (.ref p) H'
section
variable {P : Program} {w : World} {K : PySem.W.Frag} {mg : Str → Option Value} {base : Heap} {CF CB CW CS aN : Addr}
theorem scAsked : FnScope ["shelf", "word", "numbers"] ["shelf", "word", "numbers"] (defScope sAsked) := ⟨rfl, rfl, rfl, by decide +kernel, rfl, by decide +kernel, by decide +kernel⟩
theorem ok_Asked (D : DefF K mg "asked" sAsked ["shelf", "word", "numbers"]) (T : Txt K mg CF CB CW CS aN) (C1 : CalF P w K mg base 4 "count" ["shelf"] (spCount CF CB CS)) (C2 : CalF P w K mg base 3 "where" ["shelf", "number"] (spWhere CF CB CS)) (C3 : CalF P w K mg base 3 "box" ["shelf", "at"] (spBox CF CB CS))
    (C4 : CalF P w K mg base 1 "files" ["shelf", "at"] (spFiles CF CB CS)) (C5 : CalF P w K mg base 4 "seek" ["shelf", "key"] (spSeek CF CB CS)) (C6 : CalF P w K mg base 1 "filled" ["thicks", "room"] spFilled) (C7 : CalM P w K mg base 3 CS "thicks" ["self"] (spThicks CF CS))
    (C8 : CalM P w K mg base 5 CS "pack" ["self"] (spPack CF CB CS)) : CalF P w K mg base 6 "asked" ["shelf", "word", "numbers"] (spAsked CF CB CS) := by
  obtain ⟨f1, fd1, G1, g1, k1, b1⟩ := C1
  obtain ⟨f2, fd2, G2, g2, k2, b2⟩ := C2
  obtain ⟨f3, fd3, G3, g3, k3, b3⟩ := C3
  obtain ⟨f4, fd4, G4, g4, k4, b4⟩ := C4
  obtain ⟨f5, fd5, G5, g5, k5, b5⟩ := C5
  obtain ⟨f6, fd6, G6, g6, k6, b6⟩ := C6
  obtain ⟨f7, fd7, G7, m7, b7⟩ := C7
  obtain ⟨f8, fd8, G8, m8, b8⟩ := C8
  refine D.cal fun f fd F => F.ok scAsked (fun vs H Q E h => ?_) (fun cdv A outer s H vs Q E hr h => ?_)
  · obtain ⟨a, nl, sh, c, rfl, _⟩ := h
    rfl
  · obtain ⟨a, nl, sh, c, rfl, hnl, hc, S, q⟩ := h
    have hr1 : Room 1 (A.deeper (envOfC "asked" (defScope sAsked) s.heap.objs.size f cdv)) := hr.mono (by decide)
    have hr3 : Room 3 (A.deeper (envOfC "asked" (defScope sAsked) s.heap.objs.size f cdv)) := hr.mono (by decide)
    have hr4 : Room 4 (A.deeper (envOfC "asked" (defScope sAsked) s.heap.objs.size f cdv)) := hr.mono (by decide)
    obtain ⟨u1, n1, r1⟩ := T.cCOUNT
    obtain ⟨u2, n2, r2⟩ := T.cWHERE
    obtain ⟨u3, n3, r3⟩ := T.cBOXS
    obtain ⟨u4, n4, r4⟩ := T.cFILES
    obtain ⟨u5, n5, r5⟩ := T.cSEEK
    obtain ⟨u6, n6, r6⟩ := T.cLEAST
    refine ⟨_, pss_cons (ps_if (pt_cmpR op_eq (pv 1) (pe_glob rfl n1 r1) (nomark _)) (pss_one (ps_ret (pe_call G1 hr4 (by rfl) g1 k1 b1 .nil pass0 (pa_cons (pv 0) pa_nil)))) pss_nil)
      (pss_cons (ps_if (pt_cmpR op_eq (pv 1) (pe_glob rfl n2 r2) (nomark _)) (pss_one (ps_ret (pe_call G2 hr3 (by rfl) g2 k2 b2 .nil pass0 (pa_cons (pv 0) (pa_cons (pe_ix ix_list (pv 2) pe_int (fun _ _ => rfl)) pa_nil))))) pss_nil)
      (pss_cons (ps_if (pt_cmpR op_eq (pv 1) (pe_glob rfl n3 r3) (nomark _)) (pss_one (ps_ret (pe_call G3 hr3 (by rfl) g3 k3 b3 .nil pass0 (pa_cons (pv 0) (pa_cons (pe_ix ix_list (pv 2) pe_int (fun _ _ => rfl)) pa_nil))))) pss_nil)
      (pss_cons (ps_if (pt_cmpR op_eq (pv 1) (pe_glob rfl n4 r4) (nomark _)) (pss_one (ps_ret (pe_call G4 hr1 (by rfl) g4 k4 b4 .nil pass0 (pa_cons (pv 0) (pa_cons (pe_ix ix_list (pv 2) pe_int (fun _ _ => rfl)) pa_nil))))) pss_nil)
      (pss_cons (ps_if (pt_cmpR op_eq (pv 1) (pe_glob rfl n5 r5) (nomark _)) (pss_one (ps_ret (pe_call G5 hr4 (by rfl) g5 k5 b5 .nil pass0 (pa_cons (pv 0) (pa_cons (pe_ix ix_list (pv 2) pe_int (fun _ _ => rfl)) pa_nil))))) pss_nil)
      (pss_cons (ps_if (pt_cmpR op_eq (pv 1) (pe_glob rfl n6 r6) (nomark _)) (pss_one (ps_ret (pe_lst (pa_cons (pe_callB call_len_seq (by rfl) T.len PySem.boot_len (pa_cons (pe_call G6 hr1 (by rfl) g6 k6 b6 .nil pass0 (pa_cons (pe_meth0 (pv 0) T.clS m7 G7 hr3 b7 .nil pass0) (pa_cons (pe_fn (pv 0)) pa_nil))) pa_nil)) pa_nil)))) pss_nil)
      (pss_one (ps_ret (pe_meth0 (pv 0) T.clS m8 G8 hr b8 .nil pass0)))))))), ?_⟩
    obtain ⟨d, l, R⟩ := S.rest
    obtain ⟨dx, ha⟩ := id R.raw
    have hS : SOk sh := by obtain ⟨_, _, _, _, _, h⟩ := S; exact h
    cases c with
    | begin_ r => exact hc.elim
    | put f k t => exact hc.elim
    | take f => exact hc.elim
    | grow f t => exact hc.elim
    | count =>
      refine ⟨_, rfl, rfl, _, rfl, if_t rfl ?_⟩
      exact ⟨_, rfl, a, sh, rfl, S, q⟩
    | where_ n =>
      refine ⟨_, rfl, rfl, _, rfl, if_f rfl ?_⟩
      refine ⟨_, rfl, rfl, _, rfl, if_t rfl ?_⟩
      exact ⟨_, rfl, _, rfl, nl, _, _, nI n, rfl, rfl, SqL.of hnl, at_of (j := 0) rfl rfl, a, sh, n, rfl, S, q⟩
    | box n =>
      refine ⟨_, rfl, rfl, _, rfl, if_f rfl ?_⟩
      refine ⟨_, rfl, rfl, _, rfl, if_f rfl ?_⟩
      refine ⟨_, rfl, rfl, _, rfl, if_t rfl ?_⟩
      exact ⟨_, rfl, _, rfl, nl, _, _, nI n, rfl, rfl, SqL.of hnl, at_of (j := 0) rfl rfl, a, sh, n, rfl, S, q⟩
    | files n =>
      refine ⟨_, rfl, rfl, _, rfl, if_f rfl ?_⟩
      refine ⟨_, rfl, rfl, _, rfl, if_f rfl ?_⟩
      refine ⟨_, rfl, rfl, _, rfl, if_f rfl ?_⟩
      refine ⟨_, rfl, rfl, _, rfl, if_t rfl ?_⟩
      exact ⟨_, rfl, _, rfl, nl, _, _, nI n, rfl, rfl, SqL.of hnl, at_of (j := 0) rfl rfl, a, sh, n, rfl, S, q⟩
    | seek n =>
      refine ⟨_, rfl, rfl, _, rfl, if_f rfl ?_⟩
      refine ⟨_, rfl, rfl, _, rfl, if_f rfl ?_⟩
      refine ⟨_, rfl, rfl, _, rfl, if_f rfl ?_⟩
      refine ⟨_, rfl, rfl, _, rfl, if_f rfl ?_⟩
      refine ⟨_, rfl, rfl, _, rfl, if_t rfl ?_⟩
      exact ⟨_, rfl, _, rfl, nl, _, _, nI n, rfl, rfl, SqL.of hnl, at_of (j := 0) rfl rfl, a, sh, n, rfl, S, q⟩
    | least =>
      refine ⟨_, rfl, rfl, _, rfl, if_f rfl ?_⟩
      refine ⟨_, rfl, rfl, _, rfl, if_f rfl ?_⟩
      refine ⟨_, rfl, rfl, _, rfl, if_f rfl ?_⟩
      refine ⟨_, rfl, rfl, _, rfl, if_f rfl ?_⟩
      refine ⟨_, rfl, rfl, _, rfl, if_f rfl ?_⟩
      refine ⟨_, rfl, rfl, _, rfl, if_t rfl ?_⟩
      refine ⟨_, rfl, a, dx, _, rfl, ha, fS_not (by decide +kernel) (by decide +kernel) (by decide +kernel) (by decide +kernel), a, d, l, sh.room, sh.next, sh.files, rfl, R.raw, R.dict, R.ord, fun H1 p1 s1 hp10 hp1 => ?_⟩
      refine ⟨_, rfl, a, CS, dx, _, _, rfl, s1 _ _ ha, T.clS, T.nS1, fS_room, p1, sh.room, _, rfl, hp1, fun t ht => ?_, (by rw [List.length_map]; have := hS.files.len; omega), fun H2 p2 s2 hp20 hp2 => ?_⟩
      · obtain ⟨ff, hff, rfl⟩ := List.mem_map.mp ht
        exact (hS.files.each ff hff).2.2
      · refine ⟨p2, _, rfl, .inl (SqL.of hp2), (by show 1 ≤ sizeLine; decide), fun p hp => ?_⟩
        have s02 := s1.trans s2
        refine q.same S rfl (s02.trans (Same.new hp)) (s02.free hp) upd_same ?_
        rw [fillC_eq hS.files.fit (fun f hf => (hS.files.each f hf).2.2.1), List.length_map, List.length_map]
        rfl
    | pack =>
      refine ⟨_, rfl, rfl, _, rfl, if_f rfl ?_⟩
      refine ⟨_, rfl, rfl, _, rfl, if_f rfl ?_⟩
      refine ⟨_, rfl, rfl, _, rfl, if_f rfl ?_⟩
      refine ⟨_, rfl, rfl, _, rfl, if_f rfl ?_⟩
      refine ⟨_, rfl, rfl, _, rfl, if_f rfl ?_⟩
      refine ⟨_, rfl, rfl, _, rfl, if_f rfl ?_⟩
      refine ⟨_, rfl, a, dx, _, rfl, ha, fS_not (by decide +kernel) (by decide +kernel) (by decide +kernel) (by decide +kernel), a, d, l, sh, rfl, R.raw, R.row, R.dict, hS, R.ol, R.sm, fun H1 p l' B R1 W1 hp0 hp => ?_⟩
      obtain ⟨A1, A2⟩ := packed_ok hS
      refine q H1 p ⟨d, l', R1, W1, ?_, A1⟩ (B.keepL R.raw) hp0 hp
      show DictAt CF H1 d sh.packed.files
      rw [A2]
      exact R.dict.but B R.raw
theorem scAnswered : FnScope ["shelf", "word", "numbers"] ["shelf", "word", "numbers"] (defScope sAnswered) := ⟨rfl, rfl, rfl, by decide +kernel, rfl, by decide +kernel, by decide +kernel⟩
theorem ok_Answered (D : DefF K mg "answered" sAnswered ["shelf", "word", "numbers"]) (T : Txt K mg CF CB CW CS aN) (C1 : CalF P w K mg base 6 "put" ["shelf", "number", "key", "thick"] (spPut CF CB CS)) (C2 : CalF P w K mg base 6 "take" ["shelf", "number"] (spTake CF CB CS)) (C3 : CalF P w K mg base 6 "grow" ["shelf", "number", "thick"] (spGrow CF CB CS))
    (C4 : CalF P w K mg base 6 "asked" ["shelf", "word", "numbers"] (spAsked CF CB CS)) : CalF P w K mg base 7 "answered" ["shelf", "word", "numbers"] (spAnswered CF CB CS) := by
  obtain ⟨f1, fd1, G1, g1, k1, b1⟩ := C1
  obtain ⟨f2, fd2, G2, g2, k2, b2⟩ := C2
  obtain ⟨f3, fd3, G3, g3, k3, b3⟩ := C3
  obtain ⟨f4, fd4, G4, g4, k4, b4⟩ := C4
  refine D.cal fun f fd F => F.ok scAnswered (fun vs H Q E h => ?_) (fun cdv A outer s H vs Q E hr h => ?_)
  · obtain ⟨v, nl, x, c, rfl, _⟩ := h
    rfl
  · obtain ⟨v, nl, x, c, rfl, hnl, hc, S, q⟩ := h
    obtain ⟨u1, n1, r1⟩ := T.cNOSHELF
    obtain ⟨u2, n2, r2⟩ := T.cPUT
    obtain ⟨u3, n3, r3⟩ := T.cTAKE
    obtain ⟨u4, n4, r4⟩ := T.cGROW
    refine ⟨_, pss_cons (ps_if (pt_cmpR op_isN (pv 0) pe_non (nomark _)) (pss_one (ps_ret (pe_lst (pa_cons (pe_glob rfl n1 r1) pa_nil)))) pss_nil)
      (pss_cons (ps_if (pt_cmpR op_eq (pv 1) (pe_glob rfl n2 r2) (nomark _)) (pss_one (ps_ret (pe_call G1 hr (by rfl) g1 k1 b1 .nil pass0 (pa_cons (pv 0) (pa_cons (pe_ix ix_list (pv 2) pe_int (fun _ _ => rfl)) (pa_cons (pe_ix ix_list (pv 2) pe_int (fun _ _ => rfl)) (pa_cons (pe_ix ix_list (pv 2) pe_int (fun _ _ => rfl)) pa_nil))))))) pss_nil)
      (pss_cons (ps_if (pt_cmpR op_eq (pv 1) (pe_glob rfl n3 r3) (nomark _)) (pss_one (ps_ret (pe_call G2 hr (by rfl) g2 k2 b2 .nil pass0 (pa_cons (pv 0) (pa_cons (pe_ix ix_list (pv 2) pe_int (fun _ _ => rfl)) pa_nil))))) pss_nil)
      (pss_cons (ps_if (pt_cmpR op_eq (pv 1) (pe_glob rfl n4 r4) (nomark _)) (pss_one (ps_ret (pe_call G3 hr (by rfl) g3 k3 b3 .nil pass0 (pa_cons (pv 0) (pa_cons (pe_ix ix_list (pv 2) pe_int (fun _ _ => rfl)) (pa_cons (pe_ix ix_list (pv 2) pe_int (fun _ _ => rfl)) pa_nil)))))) pss_nil)
      (pss_one (ps_ret (pe_call G4 hr (by rfl) g4 k4 b4 .nil pass0 (pa_cons (pv 0) (pa_cons (pv 1) (pa_cons (pv 2) pa_nil))))))))), ?_⟩
    cases x with
    | none =>
      have S : v = .non := S
      subst S
      refine ⟨_, rfl, rfl, _, rfl, if_t rfl ?_⟩
      refine ⟨(by show 1 ≤ sizeLine; decide), fun p hp => ?_⟩
      have e : BoxSpec.step none c = (none, BdAns.says (-9)) := by
        cases c with
        | begin_ r => exact absurd trivial hc
        | _ => rfl
      refine q _ p ?_ (Same.new hp).keepL hp ?_
      · rw [e]
        rfl
      · rw [e, told_says, upd_same]
        rfl
    | some sh =>
      obtain ⟨a, rfl, S⟩ := S
      refine ⟨_, rfl, rfl, _, rfl, if_f rfl ?_⟩
      have e : BoxSpec.step (some sh) c = (some (BoxSpec.does sh c).2, (BoxSpec.does sh c).1) := by
        cases c with
        | begin_ r => exact absurd trivial hc
        | _ => rfl
      have q2 : After CF CB CS H a sh c Q := fun H' p h1 h2 h3 h4 => by
        refine q H' p ?_ h2 h3 ?_
        · rw [e]
          exact ⟨a, rfl, h1⟩
        · rw [e]
          exact h4
      cases c with
      | begin_ r => exact absurd trivial hc
      | put ff k t =>
        refine ⟨_, rfl, rfl, _, rfl, if_t rfl ?_⟩
        exact ⟨_, rfl, _, rfl, nl, _, _, nI ff, rfl, rfl, SqL.of hnl, at_of (j := 0) rfl rfl, _, rfl, nl, _, _, nI k, rfl, rfl, SqL.of hnl, at_of (j := 1) rfl rfl, _, rfl, nl, _, _, nI t, rfl, rfl, SqL.of hnl, at_of (j := 2) rfl rfl, a, sh, ff, k, t, rfl, S, q2⟩
      | take ff =>
        refine ⟨_, rfl, rfl, _, rfl, if_f rfl ?_⟩
        refine ⟨_, rfl, rfl, _, rfl, if_t rfl ?_⟩
        exact ⟨_, rfl, _, rfl, nl, _, _, nI ff, rfl, rfl, SqL.of hnl, at_of (j := 0) rfl rfl, a, sh, ff, rfl, S, q2⟩
      | grow ff t =>
        refine ⟨_, rfl, rfl, _, rfl, if_f rfl ?_⟩
        refine ⟨_, rfl, rfl, _, rfl, if_f rfl ?_⟩
        refine ⟨_, rfl, rfl, _, rfl, if_t rfl ?_⟩
        exact ⟨_, rfl, _, rfl, nl, _, _, nI ff, rfl, rfl, SqL.of hnl, at_of (j := 0) rfl rfl, _, rfl, nl, _, _, nI t, rfl, rfl, SqL.of hnl, at_of (j := 1) rfl rfl, a, sh, ff, t, rfl, S, q2⟩
      | _ =>
        refine ⟨_, rfl, rfl, _, rfl, if_f rfl ?_⟩
        refine ⟨_, rfl, rfl, _, rfl, if_f rfl ?_⟩
        refine ⟨_, rfl, rfl, _, rfl, if_f rfl ?_⟩
        exact ⟨_, rfl, _, rfl, _, rfl, a, nl, sh, _, rfl, hnl, trivial, S, q2⟩
end
end BW

namespace BW
open PySem PySem.Spec PyProof.Rows L2 BX
abbrev sAnswers : Stmt := topS 47
def spAnswers (K : PySem.W.Frag) : Sp := fun vs H Q _ => ∃ (a : Addr) (ns : List Int), vs = [.ref a] ∧ SqL K H a (ns.map V.int) ∧ PyWqaibv.answers_asked ns = true ∧
  ∀ (H' : Hp) (p : Addr), H' p = some (.lst ((PyWqaibv.answers ns).map V.int)) → Q (.ref p) H'
theorem enc_eq (c : BoxSpec.Call) : encC c = (((encN c).1 : Int), (encN c).2) := by cases c <;> rfl
/-- no list, no object of one's own, no dict stands at q -/
structure Odd (H : Hp) (q : Addr) : Prop where
  l : ∀ xs, H q ≠ some (.lst xs)
  i : ∀ C dx fs, H q ≠ some (.ins C dx fs)
  d : ∀ kvs, H q ≠ some (.dK kvs)
theorem ShelfOk.swap {CF CB CS : Addr} {H : Hp} {a q : Addr} {o : HO} {s : BdBox.Shelf} (h : ShelfOk CF CB CS H a s) (hq : Odd H q) : ShelfOk CF CB CS (upd H q o) a s := by
  obtain ⟨d, l, ⟨dx, h1⟩, ⟨as, h2, h3⟩, ⟨ps, h4, h5, h6⟩, h7⟩ := h
  have kl : ∀ b xs, H b = some (.lst xs) → upd H q o b = some (.lst xs) := fun b xs e => by
    rw [upd_ne]
    · exact e
    · intro z; subst z; exact hq.l _ e
  have ki : ∀ b C dx fs, H b = some (.ins C dx fs) → upd H q o b = some (.ins C dx fs) := fun b C dx fs e => by
    rw [upd_ne]
    · exact e
    · intro z; subst z; exact hq.i _ _ _ e
  refine ⟨d, l, ⟨dx, ki _ _ _ _ h1⟩, ⟨as, kl _ _ h2, h3.imp fun c b _ _ r => ?_⟩, ⟨ps, ?_, h5, fun p hp => ?_⟩, h7⟩
  · obtain ⟨dy, fl, r1, r2⟩ := r
    exact ⟨dy, fl, ki _ _ _ _ r1, kl _ _ r2⟩
  · rw [upd_ne]
    · exact h4
    · intro z; subst z; exact hq.d _ h4
  · obtain ⟨dy, ey⟩ := h6 p hp
    exact ⟨dy, ki _ _ _ _ ey⟩
theorem StateAt.swap {CF CB CS : Addr} {H : Hp} {q : Addr} {o : HO} {v : V} {x : BoxSpec.State} (h : StateAt CF CB CS H v x) (hq : Odd H q) : StateAt CF CB CS (upd H q o) v x := by
  cases x with
  | none => exact h
  | some s =>
    obtain ⟨a, e, h⟩ := h
    exact ⟨a, e, h.swap hq⟩
theorem odd_rng {H : Hp} {q : Addr} : Odd (upd H q (.rng 0 0)) q := by
  refine ⟨fun xs e => ?_, fun C dx fs e => ?_, fun kvs e => ?_⟩ <;> rw [upd_same] at e <;> cases e
theorem odd_frz {H : Hp} {q : Addr} {o : Obj} {u : HO} (h : H q = some (.frz o u)) : Odd H q := by
  refine ⟨fun xs e => ?_, fun C dx fs e => ?_, fun kvs e => ?_⟩ <;> rw [h] at e <;> cases e
theorem StateAt.same {CF CB CS : Addr} {H H' : Hp} {v : V} {x : BoxSpec.State} (s : Same H H') (h : StateAt CF CB CS H v x) : StateAt CF CB CS H' v x := by
  cases x with
  | none => exact h
  | some sh =>
    obtain ⟨a, e, h⟩ := h
    exact ⟨a, e, h.same s⟩
/-- the calls, apart from q -/
def CallsAt (K : PySem.W.Frag) (q : Addr) (H : Hp) (a : Addr) (xs : List V) : Prop := (a ≠ q ∧ Rd H a (.lst xs)) ∨
    ∀ H' : Hp, SqL K H' a xs
theorem CallsAt.seq {K : PySem.W.Frag} {q a : Addr} {H : Hp} {xs : List V} (h : CallsAt K q H a xs) : SqL K H a xs := by
  rcases h with ⟨_, h⟩ | h
  · exact .inl h
  · exact h H
theorem CallsAt.keepL {K : PySem.W.Frag} {q a : Addr} {H H' : Hp} {xs : List V} (k : KeepL H H') (h : CallsAt K q H a xs) : CallsAt K q H' a xs := by
  rcases h with ⟨h0, h | ⟨o, h⟩⟩ | h
  · exact .inl ⟨h0, .inl (k _ _ h (by intro _ _ _ z; cases z) (by intro _ z; cases z))⟩
  · exact .inl ⟨h0, .inr ⟨o, k _ _ h (by intro _ _ _ z; cases z) (by intro _ z; cases z)⟩⟩
  · exact .inr h
theorem CallsAt.upd {K : PySem.W.Frag} {q a : Addr} {H : Hp} {o : HO} {xs : List V} (h : CallsAt K q H a xs) : CallsAt K q (upd H q o) a xs := by
  rcases h with ⟨h0, h | ⟨o', h⟩⟩ | h
  · exact .inl ⟨h0, .inl (by rw [upd_ne h0]; exact h)⟩
  · exact .inl ⟨h0, .inr ⟨o', by rw [upd_ne h0]; exact h⟩⟩
  · exact .inr h
theorem upd_self {H : Hp} {q : Addr} {o : HO} (h : H q = some o) : upd H q o = H := by
  funext b
  by_cases c : b = q
  · subst c; rw [upd_same, h]
  · rw [upd_ne c]
theorem num_at (c : BoxSpec.Call) : atI ([0, 1, 3, 1, 2, 0, 1, 1, 1, 1, 0, 0].map V.int) ((encN c).1 : Int) = some (nI (encN c).2.length) := by
  cases c <;> exact at_of (j := _) rfl rfl
theorem answers_end {Kf : PySem.W.Frag} {KK : Ends} {a fq p : Addr} {v w : V} {at' bh : V} {vn : Option V} {od : Obj} {out told : List Int} {H4 : Hp}
    (hf : H4 fq = some (.frz od (.lst (out.map V.int)))) (hp : H4 p = some (.lst (told.map V.int))) (hz : out.length + 1 + told.length ≤ 10000000)
    (h : KK.nx [some (.ref a), some v, some (.ref fq), some bh, some w, some bh, vn, some (.ref p)] (upd H4 fq (.lst ((out ++ (told.length : Int) :: told).map V.int)))) :
    tSeq (tDrop (tBM Kf "list" rAppend (tVar 2) (tCons (tCB (fun xs H_1 Q => ∃ p ys, xs = [V.ref p] ∧ (SqL Kf H_1 p ys ∨ SqT Kf H_1 p ys) ∧ Q (V.int ys.length) H_1) (tCons (tVar 7) tNil)) tNil)))
      (tSeq (tDrop (tBM Kf "list" rExtend (tVar 2) (tCons (tVar 7) tNil))) (tAsg (tVar 5) (gName 3))) KK [some (.ref a), some v, some (.ref fq), some at', some w, some bh, vn, some (.ref p)] (upd H4 fq (.lst (out.map V.int))) := by
  have hne : p ≠ fq := by
    intro z; subst z
    rw [hf] at hp; cases hp
  have hp1 : (upd H4 fq (.lst (out.map V.int))) p = some (.lst (told.map V.int)) := by rw [upd_ne hne]; exact hp
  have hz2 : 10000000 < sizeLine := by decide
  refine ⟨_, rfl, .inl ⟨rfl, _, SqL.of upd_same⟩, ?_⟩
  refine ⟨_, rfl, p, _, rfl, .inl (SqL.of hp1), ?_⟩
  refine ⟨fq, _, _, rfl, rfl, upd_same, (by rw [List.length_map]; omega), ?_⟩
  rw [upd_upd]
  have e1 : out.map V.int ++ [V.int ((told.map V.int).length : Nat)] = (out ++ [(told.length : Int)]).map V.int := by
    rw [List.map_append, List.length_map]
    rfl
  rw [e1]
  refine ⟨_, rfl, .inl ⟨rfl, _, SqL.of upd_same⟩, ?_⟩
  refine ⟨_, rfl, fq, p, _, _, rfl, rfl, upd_same, (by rw [upd_ne hne]; exact hp), (by rw [List.length_map, List.length_map, List.length_append]; show _ + 1 + _ ≤ _; omega), ?_⟩
  rw [upd_upd, ← List.map_append, List.append_assoc]
  exact ⟨_, rfl, h⟩
section
variable {P : Program} {w : World} {K : PySem.W.Frag} {mg : Str → Option Value} {base : Heap} {CF CB CW CS aN : Addr}
theorem scAnswers : FnScope ["calls", "shelf", "found", "at", "word", "behind", "numbers", "told"] ["calls"] (defScope sAnswers) := ⟨rfl, rfl, rfl, by decide +kernel, rfl, by decide +kernel, by decide +kernel⟩
theorem ok_Answers {f : Addr} {fd : FuncData} (F : Fun K "answers" "answers" sAnswers f fd) (T : Txt K mg CF CB CW CS aN) (C1 : CalF P w K mg base 7 "answered" ["shelf", "word", "numbers"] (spAnswered CF CB CS)) (C2 : CalF P w K mg base 3 "begun" ["room"] (spBegun CF CB CS)) :
    FnOk P w K mg base CX0 8 f fd ["calls"] (spAnswers K) := by
  obtain ⟨f1, fd1, G1, g1, k1, b1⟩ := C1
  obtain ⟨f2, fd2, G2, g2, k2, b2⟩ := C2
  refine F.ok scAnswers (fun vs H Q E h => ?_) (fun cdv A outer s H vs Q E hr h => ?_)
  · obtain ⟨a, ns, rfl, _⟩ := h
    rfl
  · obtain ⟨a, ns, rfl, hS, hask, q⟩ := h
    have hr3 : Room 3 (A.deeper (envOfC "answers" (defScope sAnswers) s.heap.objs.size f cdv)) := hr.mono (by decide)
    obtain ⟨u1, n1, r1⟩ := T.cBEGIN
    obtain ⟨u2, n2, r2⟩ := T.cWRONG
    refine ⟨_, pss_cons (ps_set (i := 1) scAnswers.nd rfl (Or.inl rfl) pe_non)
      (pss_cons (ps_set (i := 2) scAnswers.nd rfl (Or.inl rfl) (pe_lst pa_nil))
      (pss_cons (ps_set (i := 3) scAnswers.nd rfl (Or.inl rfl) pe_int)
      (pss_cons (ps_while PassesOwn.never (pt_cmpR op_lt (pv 3) (pe_callB call_len_seq (by rfl) T.len PySem.boot_len (pa_cons (pv 0) pa_nil)) (nomark _))
        (pss_cons (ps_set (i := 4) scAnswers.nd rfl (Or.inl rfl) (pe_ix ix_list (pv 0) (pv 3) (fun _ _ => rfl)))
        (pss_cons (ps_set (i := 5) scAnswers.nd rfl (Or.inl rfl) (pe_op op_add (pe_op op_add (pv 3) pe_int) (pe_ix ix_tup (pe_glob (v := .ref aN) rfl T.cNUM rfl) (pv 4) (fun _ _ => rfl))))
        (pss_cons (ps_set (i := 6) scAnswers.nd rfl (Or.inl rfl) (pe_slice sl_list (pv 0) (po_some (pe_op op_add (pv 3) pe_int)) (po_some (pv 5))))
        (pss_cons (ps_lock (ps_if (pt_cmpR op_ne (pv 4) (pe_glob rfl n1 r1) (nomark _))
            (pss_one (ps_set (i := 7) scAnswers.nd rfl (Or.inl rfl) (pe_call G1 hr (by rfl) g1 k1 b1 .nil pass0 (pa_cons (pv 1) (pa_cons (pv 4) (pa_cons (pv 6) pa_nil))))))
            (pss_one (ps_if (pt_cmpR op_isN (pe_call G2 hr3 (by rfl) g2 k2 b2 .nil pass0 (pa_cons (pe_ix ix_list (pv 6) pe_int (fun _ _ => rfl)) pa_nil)) pe_non (nomark _))
              (pss_one (ps_set (i := 7) scAnswers.nd rfl (Or.inl rfl) (pe_lst (pa_cons (pe_glob rfl n2 r2) pa_nil))))
              (pss_cons (ps_set (i := 1) scAnswers.nd rfl (Or.inl rfl) (pe_call G2 hr3 (by rfl) g2 k2 b2 .nil pass0 (pa_cons (pe_ix ix_list (pv 6) pe_int (fun _ _ => rfl)) pa_nil)))
                (pss_one (ps_set (i := 7) scAnswers.nd rfl (Or.inl rfl) (pe_lst (pa_cons pe_int pa_nil)))))))))
        (pss_cons (ps_expr (pe_bm PySem.F.plainAttrs_list PySem.F.slot_list_append PySem.F.type_list_append mt_append (pv 2) (pa_cons (pe_callB call_len_seq (by rfl) T.len PySem.boot_len (pa_cons (pv 7) pa_nil)) pa_nil)))
        (pss_cons (ps_expr (pe_bm PySem.F.plainAttrs_list PySem.F.slot_list_extend PySem.F.type_list_extend mt_extend (pv 2) (pa_cons (pv 7) pa_nil)))
        (pss_one (ps_set (i := 3) scAnswers.nd rfl (Or.inl rfl) (pv 5))))))))))
      (pss_one (ps_ret (pv 2)))))), ?_⟩
    obtain ⟨cs, hflat, hans, hshort⟩ := asked_flat hask
    rw [hans] at q
    -- shelf = None, found = [], at = 0
    refine ⟨Nat.zero_le _, fun fq hfq => ?_⟩
    have hC0 : CallsAt K fq (upd H fq (.lst [])) a (ns.map V.int) := by
      rcases hS with h | h
      · have hne : a ≠ fq := by
          rcases h with h | ⟨o, h⟩
          · exact ne_of_none h hfq
          · exact ne_of_none h hfq
        refine .inl ⟨hne, ?_⟩
        rcases h with h | ⟨o, h⟩
        · exact .inl (by rw [upd_ne hne]; exact h)
        · exact .inr ⟨o, by rw [upd_ne hne]; exact h⟩
      · exact .inr fun _ => .inr h
    refine ⟨fun m σ H1 => ∃ (pre rest : List BoxSpec.Call) (x : BoxSpec.State) (v : V) (out : List Int) (vw vb vn vt : Option V),
        σ = [some (.ref a), some v, some (.ref fq), some (nI (flat pre).length), vw, vb, vn, vt] ∧ cs = pre ++ rest ∧ H1 fq = some (.lst (out.map V.int)) ∧ StateAt CF CB CS (upd H1 fq (.rng 0 0)) v x ∧ CallsAt K fq H1 a (ns.map V.int) ∧ run none cs = out ++ run x rest ∧ m = rest.length,
      ⟨_, [], cs, none, .non, [], none, none, none, none, rfl, rfl, upd_same, rfl, hC0, rfl, rfl⟩, ?_⟩
    rintro m σ H1 ⟨pre, rest, x, v, out, vw, vb, vn, vt, rfl, hcs, hf1, hst, hC, hrun, rfl⟩
    have hns : ns = flat pre ++ flat rest := by
      rw [hflat, hcs]
      unfold flat
      rw [List.flatMap_append]
    refine ⟨_, rfl, _, rfl, a, _, rfl, .inl hC.seq, _, _, rfl, rfl, _, rfl, ?_⟩
    rw [List.length_map]
    cases rest with
    | nil =>
      have el : ns.length = (flat pre).length := by
        rw [hns]
        show (flat pre ++ []).length = _
        rw [List.append_nil]
      refine if_f (decide_eq_false (by omega)) ?_
      refine ⟨_, rfl, q H1 fq ?_⟩
      rw [hf1, hrun]
      show _ = some (HO.lst ((out ++ []).map V.int))
      rw [List.append_nil]
    | cons c rest =>
      have hns2 : ns = flat pre ++ (((encN c).1 : Int) :: ((encN c).2.map fun (n : Nat) => (n : Int)) ++ flat rest) := hns
      have hlen : (flat pre).length + 1 + (encN c).2.length ≤ ns.length := by
        rw [hns2]
        simp only [List.length_append, List.length_cons, List.length_map]
        omega
      refine if_t (decide_eq_true (by omega)) ?_
      refine ⟨_, fun σ' H' z => z, ?_⟩
      -- word, behind, numbers
      have hword : ns[(flat pre).length]? = some ((encN c).1 : Int) := by
        rw [hns2, List.getElem?_append_right (Nat.le_refl _), Nat.sub_self]
        rfl
      refine ⟨_, rfl, _, rfl, a, _, _, _, rfl, rfl, hC.seq, atI_nat (by rw [List.getElem?_map, hword]; rfl), ?_⟩
      refine ⟨_, rfl, _, _, rfl, rfl, _, rfl, aN, _, _, _, rfl, rfl, T.tNUM H1, num_at c, _, _, rfl, rfl, ?_⟩
      refine ⟨_, rfl, _, rfl, _, _, rfl, rfl, _, rfl, _, rfl, _, rfl, a, _, rfl, hC.seq, fun nl hnl => ?_⟩
      have hcut : cutV (ns.map V.int) (some (((((flat pre).length : Nat)) : Int) + 1)) (some (((((flat pre).length : Nat)) : Int) + 1 + (((encN c).2.length : Nat) : Int))) = (encN c).2.map nI := by
        have e1 : (((((flat pre).length : Nat)) : Int) + 1) = (((flat pre).length + 1 : Nat) : Int) := by omega
        have e2 : ((((flat pre).length + 1 : Nat) : Int) + (((encN c).2.length : Nat) : Int)) = (((flat pre).length + 1 + (encN c).2.length : Nat) : Int) := by omega
        rw [e1, e2, cutV_nat _ (by rw [List.length_map]; exact hlen) (by omega), Nat.add_sub_cancel_left, ← List.map_drop, ← List.map_take]
        have e3 : (ns.drop ((flat pre).length + 1)).take (encN c).2.length = (encN c).2.map fun (n : Nat) => (n : Int) := by
          rw [hns2, ← List.drop_drop, List.drop_left' rfl]
          show (((encN c).2.map fun (n : Nat) => (n : Int)) ++ flat rest).take (encN c).2.length = _
          rw [List.take_left' (by rw [List.length_map])]
        rw [e3, List.map_map]
        rfl
      rw [hcut]
      have s2 : Same H1 (upd H1 nl (.lst ((encN c).2.map nI))) := Same.new hnl
      have hnl2 : (upd H1 nl (.lst ((encN c).2.map nI))) nl = some (.lst ((encN c).2.map nI)) := upd_same
      have nnf : nl ≠ fq := (ne_of_none hf1 hnl).symm
      have hst2 : StateAt CF CB CS (upd (upd H1 nl (.lst ((encN c).2.map nI))) fq (.rng 0 0)) v x := by
        refine hst.same (fun b o e => ?_)
        by_cases z : b = fq
        · subst z
          rw [upd_same] at e ⊢
          exact e
        · rw [upd_ne z] at e ⊢
          exact s2 _ _ e
      have hf2 := s2 _ _ hf1
      have hC2 := hC.keepL s2.keepL
      generalize (upd H1 nl (.lst ((encN c).2.map nI))) = H2 at s2 hnl2 hst2 hf2 hC2
      -- found is locked while the call is answered
      refine ⟨fq, _, hf2, True.intro, fun od => ?_⟩
      have hst3 : StateAt CF CB CS (upd H2 fq (.frz od (.lst (out.map V.int)))) v x := by
        have := hst2.swap (o := .frz od (.lst (out.map V.int))) odd_rng
        rw [upd_upd] at this
        exact this
      have hf3 : (upd H2 fq (.frz od (.lst (out.map V.int)))) fq = some (.frz od (.lst (out.map V.int))) := upd_same
      have hC3 : CallsAt K fq (upd H2 fq (.frz od (.lst (out.map V.int)))) a (ns.map V.int) := hC2.upd
      have hnl3 : (upd H2 fq (.frz od (.lst (out.map V.int)))) nl = some (.lst ((encN c).2.map nI)) := by rw [upd_ne nnf]; exact hnl2
      generalize (upd H2 fq (.frz od (.lst (out.map V.int)))) = H3 at hst3 hf3 hC3 hnl3
      have hdone : run none cs = out ++ (((Neutral.told c (BoxSpec.step x c).2).length : Int) :: Neutral.told c (BoxSpec.step x c).2) ++ run (BoxSpec.step x c).1 rest := by
        rw [hrun, List.append_assoc]
        rfl
      have hsz1 : out.length + 1 + (Neutral.told c (BoxSpec.step x c).2).length ≤ 10000000 := by
        rw [hdone] at hshort
        simp only [List.length_append, List.length_cons] at hshort
        omega
      have hat : ((flat pre).length : Int) + 1 + ((encN c).2.length : Int) = (((flat (pre ++ [c])).length : Nat) : Int) := by
        unfold flat
        rw [List.flatMap_append, List.length_append]
        show _ = (((List.flatMap flat1 pre).length + (flat1 c ++ []).length : Nat) : Int)
        rw [List.append_nil]
        unfold flat1
        rw [List.length_cons, List.length_map]
        omega
      have hslot : ∀ (v' : V) (p : Addr), [some (V.ref a), some v', some (V.ref fq), some (V.int (((flat pre).length : Int) + 1 + ((encN c).2.length : Int))), some (V.int ((encN c).1 : Int)), some (V.int (((flat pre).length : Int) + 1 + ((encN c).2.length : Int))), some (V.ref nl), some (V.ref p)] =
          [some (V.ref a), some v', some (V.ref fq), some (nI (flat (pre ++ [c])).length), some (V.int ((encN c).1 : Int)), some (V.int (((flat pre).length : Int) + 1 + ((encN c).2.length : Int))), some (V.ref nl), some (V.ref p)] := fun v' p => congrArg (fun z => [some (V.ref a), some v', some (V.ref fq), some (V.int z), some (V.int ((encN c).1 : Int)), some (V.int (((flat pre).length : Int) + 1 + ((encN c).2.length : Int))), some (V.ref nl), some (V.ref p)]) hat
      have hcs' : cs = (pre ++ [c]) ++ rest := by rw [hcs, List.append_assoc]; rfl
      by_cases hb : isBegin c
      · cases c with
        | begin_ r =>
          refine ⟨_, rfl, rfl, _, rfl, if_f rfl ?_⟩
          refine ⟨_, rfl, nl, _, _, nI r, rfl, rfl, SqL.of hnl3, at_of (j := 0) rfl rfl, r, rfl, fun hr0 => ?_, fun hr0 => ?_⟩
          · refine ⟨rfl, _, rfl, if_t rfl ?_⟩
            refine ⟨by show 1 ≤ sizeLine; decide, fun p hp => ?_⟩
            have e : BoxSpec.step x (.begin_ r) = (x, BdAns.says (-1)) := if_pos hr0
            rw [e] at hdone hsz1
            have hp4 : (upd H3 p (.lst [.int (-1)])) fq = some (.frz od (.lst (out.map V.int))) := by rw [upd_ne (ne_of_none hf3 hp)]; exact hf3
            refine ⟨hp4, answers_end hp4 upd_same hsz1 ?_⟩
            refine ⟨rest.length, Nat.lt_succ_self _, pre ++ [.begin_ r], rest, x, v, _, _, _, _, _, hslot v p, hcs', upd_same, ?_, (hC3.keepL (Same.new hp).keepL).upd, hdone, rfl⟩
            rw [upd_upd]
            exact (hst3.same (Same.new hp)).swap (odd_frz hp4)
          · intro H4 sa s4 hsa hok
            refine ⟨rfl, _, rfl, if_f rfl ?_⟩
            have hf4 := s4 _ _ hf3
            refine ⟨_, rfl, nl, _, _, nI r, rfl, rfl, SqL.of (s4 _ _ hnl3), at_of (j := 0) rfl rfl, r, rfl, fun hr1 => absurd hr1 hr0, fun _ H5 sb s5 hsb hok5 => ?_⟩
            have hf5 := s5 _ _ hf4
            refine ⟨by show 1 ≤ sizeLine; decide, fun p hp => ?_⟩
            have e : BoxSpec.step x (.begin_ r) = (some ⟨r, [], 0⟩, BdAns.says 0) := if_neg hr0
            rw [e] at hdone hsz1
            have hf6 : (upd H5 p (.lst [.int 0])) fq = some (.frz od (.lst (out.map V.int))) := by rw [upd_ne (ne_of_none hf5 hp)]; exact hf5
            refine ⟨hf6, answers_end hf6 upd_same hsz1 ?_⟩
            refine ⟨rest.length, Nat.lt_succ_self _, pre ++ [.begin_ r], rest, some ⟨r, [], 0⟩, .ref sb, _, _, _, _, _, hslot (.ref sb) p, hcs', upd_same, ?_, (((hC3.keepL s4.keepL).keepL s5.keepL).keepL (Same.new hp).keepL).upd, hdone, rfl⟩
            rw [upd_upd]
            have st6 : StateAt CF CB CS (upd H5 p (.lst [.int 0])) (.ref sb) (some ⟨r, [], 0⟩) := ⟨sb, rfl, hok5.same (Same.new hp)⟩
            exact st6.swap (odd_frz hf6)
        | _ => exact absurd hb id
      · refine ⟨_, rfl, rfl, _, rfl, if_t ?_ ?_⟩
        · cases c with
          | begin_ r => exact absurd trivial hb
          | _ => rfl
        have e := enc_eq c
        refine ⟨_, rfl, _, rfl, _, rfl, v, nl, x, c, ?_, ?_, hb, hst3, fun H4 p hst4 k4 hp0 hp4 => ?_⟩
        · rw [e]; rfl
        · rw [e]; exact hnl3
        have hf4 : H4 fq = some (.frz od (.lst (out.map V.int))) := k4 _ _ hf3 (by intro _ _ _ z; cases z) (by intro _ z; cases z)
        refine ⟨hf4, answers_end hf4 hp4 hsz1 ?_⟩
        refine ⟨rest.length, Nat.lt_succ_self _, pre ++ [c], rest, (BoxSpec.step x c).1, v, _, _, _, _, _, hslot v p, hcs', upd_same, ?_, (hC3.keepL k4).upd, hdone, rfl⟩
        rw [upd_upd]
        exact hst4.swap (odd_frz hf4)
end
end BW

namespace BW
open PySem PySem.Spec PyProof.Rows L2 BX
section
variable {P : Program} {w : World} {K : PySem.W.Frag} {h : Heap} {mg : Str → Option Value} {CF CB CW CS aN C f : Addr} {od an : Option Addr} {sl : Array (Option Value)} {oc kV dc pm cd ct : Value}
/-! ### the facts by which the text is known, in bundles -/
theorem d_const {n : Str} {i : Int} {t : Tok} (X : K.In h) (G : h.Ns mainGlobals mg) (e : PySem.W.nsIn K mainGlobals n = some (some (.int i t))) : ∃ u, mg n = some u ∧ RelV (.int i) u := ⟨_, PySem.W.mg_of X G e, t, rfl⟩
theorem d_no {n : Str} (e : PySem.W.findIn K (.ref C) n = some none) : NoAttr K C n := e
theorem d_nums {t0 t1 t2 t3 t4 t5 t6 t7 t8 t9 t10 t11 : Tok} {n : Nat} (l : K.lookup aN = some ⟨.type "tuple", od, .seq #[.int 0 t0, .int 1 t1, .int 3 t2, .int 1 t3, .int 2 t4, .int 0 t5, .int 1 t6, .int 1 t7, .int 1 t8, .int 1 t9, .int 0 t10, .int 0 t11] n, sl⟩) :
    ∀ H : Hp, SqT K H aN ([0, 1, 3, 1, 2, 0, 1, 1, 1, 1, 0, 0].map V.int) := fun H => .inr ⟨_, _, n, l, rfl, rfl, (by show 12 ≤ sizeLine; decide),
    .cons ⟨_, rfl⟩ (.cons ⟨_, rfl⟩ (.cons ⟨_, rfl⟩ (.cons ⟨_, rfl⟩ (.cons ⟨_, rfl⟩ (.cons ⟨_, rfl⟩ (.cons ⟨_, rfl⟩ (.cons ⟨_, rfl⟩ (.cons ⟨_, rfl⟩ (.cons ⟨_, rfl⟩ (.cons ⟨_, rfl⟩ (.cons ⟨_, rfl⟩ .nil)))))))))))⟩
theorem d_FInit (X : K.In h) (G : h.Ns mainGlobals mg) (a : PySem.W.findIn K (.ref C) "__init__" = some (some (.ref f))) (i : PySem.W.isFn K (.ref f) = true) (l : K.lookup f = some ⟨oc, od, .func (PySem.W.fnOf "__init__" "File.__init__" (defArgs sFInit) (defBody sFInit) (defScope sFInit) .none kV dc pm an cd ct), sl⟩) (c : PySem.W.codeIn K cd "File.__init__" = true) (k : PySem.W.keepIn K (.ref f) = true) (mk : PySem.W.makesIn K C = true) (kc : PySem.W.keepIn K (.ref C) = true) (aC : PySem.W.nsIn K mainGlobals "File" = some (some (.ref C))) : DefI K mg C "File" "File.__init__" sFInit ["self", "number", "key", "thick"] :=
  ⟨_, _, fun_mk (st := sFInit) l c k, ⟨mk, a, i, kc⟩, PySem.W.mg_of X G aC, (fun_mk (st := sFInit) l c k).binds (ps := ["self", "number", "key", "thick"]) fun _ _ _ _ _ _ us hl => match us, hl with | [_, _, _, _], _ => rfl⟩
theorem d_Rank (a : PySem.W.findIn K (.ref C) "rank" = some (some (.ref f))) (i : PySem.W.isFn K (.ref f) = true) (l : K.lookup f = some ⟨oc, od, .func (PySem.W.fnOf "rank" "File.rank" (defArgs sRank) (defBody sRank) (defScope sRank) .none kV dc pm an cd ct), sl⟩) (c : PySem.W.codeIn K cd "File.rank" = true) (k : PySem.W.keepIn K (.ref f) = true) : DefM K C "rank" "File.rank" sRank ["self"] :=
  ⟨_, _, fun_mk (st := sRank) l c k, ⟨a, i, k⟩, (fun_mk (st := sRank) l c k).binds (ps := ["self"]) fun _ _ _ _ _ _ us hl => match us, hl with | [_], _ => rfl⟩
theorem d_BInit (X : K.In h) (G : h.Ns mainGlobals mg) (a : PySem.W.findIn K (.ref C) "__init__" = some (some (.ref f))) (i : PySem.W.isFn K (.ref f) = true) (l : K.lookup f = some ⟨oc, od, .func (PySem.W.fnOf "__init__" "Box.__init__" (defArgs sBInit) (defBody sBInit) (defScope sBInit) .none kV dc pm an cd ct), sl⟩) (c : PySem.W.codeIn K cd "Box.__init__" = true) (k : PySem.W.keepIn K (.ref f) = true) (mk : PySem.W.makesIn K C = true) (kc : PySem.W.keepIn K (.ref C) = true) (aC : PySem.W.nsIn K mainGlobals "Box" = some (some (.ref C))) : DefI K mg C "Box" "Box.__init__" sBInit ["self", "number", "files"] :=
  ⟨_, _, fun_mk (st := sBInit) l c k, ⟨mk, a, i, kc⟩, PySem.W.mg_of X G aC, (fun_mk (st := sBInit) l c k).binds (ps := ["self", "number", "files"]) fun _ _ _ _ _ _ us hl => match us, hl with | [_, _, _], _ => rfl⟩
theorem d_Place (X : K.In h) (G : h.Ns mainGlobals mg) (a : PySem.W.nsIn K mainGlobals "place_by_file" = some (some (.ref f))) (l : K.lookup f = some ⟨oc, od, .func (PySem.W.fnOf "place_by_file" "place_by_file" (defArgs sPlace) (defBody sPlace) (defScope sPlace) .none kV dc pm an cd ct), sl⟩) (c : PySem.W.codeIn K cd "place_by_file" = true) (k : PySem.W.keepIn K (.ref f) = true) : DefF K mg "place_by_file" sPlace ["boxes"] :=
  ⟨_, _, fun_mk (st := sPlace) l c k, PySem.W.mg_of X G a, (fun_mk (st := sPlace) l c k).binds (ps := ["boxes"]) fun _ _ _ _ _ _ us hl => match us, hl with | [_], _ => rfl⟩
theorem d_Moved (X : K.In h) (G : h.Ns mainGlobals mg) (a : PySem.W.nsIn K mainGlobals "moved_files" = some (some (.ref f))) (l : K.lookup f = some ⟨oc, od, .func (PySem.W.fnOf "moved_files" "moved_files" (defArgs sMoved) (defBody sMoved) (defScope sMoved) .none kV dc pm an cd ct), sl⟩) (c : PySem.W.codeIn K cd "moved_files" = true) (k : PySem.W.keepIn K (.ref f) = true) : DefF K mg "moved_files" sMoved ["before", "boxes"] :=
  ⟨_, _, fun_mk (st := sMoved) l c k, PySem.W.mg_of X G a, (fun_mk (st := sMoved) l c k).binds (ps := ["before", "boxes"]) fun _ _ _ _ _ _ us hl => match us, hl with | [_, _], _ => rfl⟩
theorem d_Bbf (X : K.In h) (G : h.Ns mainGlobals mg) (a : PySem.W.nsIn K mainGlobals "box_by_file" = some (some (.ref f))) (l : K.lookup f = some ⟨oc, od, .func (PySem.W.fnOf "box_by_file" "box_by_file" (defArgs sBbf) (defBody sBbf) (defScope sBbf) .none kV dc pm an cd ct), sl⟩) (c : PySem.W.codeIn K cd "box_by_file" = true) (k : PySem.W.keepIn K (.ref f) = true) : DefF K mg "box_by_file" sBbf ["boxes"] :=
  ⟨_, _, fun_mk (st := sBbf) l c k, PySem.W.mg_of X G a, (fun_mk (st := sBbf) l c k).binds (ps := ["boxes"]) fun _ _ _ _ _ _ us hl => match us, hl with | [_], _ => rfl⟩
theorem d_Changed (X : K.In h) (G : h.Ns mainGlobals mg) (a : PySem.W.nsIn K mainGlobals "changed_boxes" = some (some (.ref f))) (l : K.lookup f = some ⟨oc, od, .func (PySem.W.fnOf "changed_boxes" "changed_boxes" (defArgs sChanged) (defBody sChanged) (defScope sChanged) .none kV dc pm an cd ct), sl⟩) (c : PySem.W.codeIn K cd "changed_boxes" = true) (k : PySem.W.keepIn K (.ref f) = true) : DefF K mg "changed_boxes" sChanged ["old", "boxes"] :=
  ⟨_, _, fun_mk (st := sChanged) l c k, PySem.W.mg_of X G a, (fun_mk (st := sChanged) l c k).binds (ps := ["old", "boxes"]) fun _ _ _ _ _ _ us hl => match us, hl with | [_, _], _ => rfl⟩
theorem d_Filled (X : K.In h) (G : h.Ns mainGlobals mg) (a : PySem.W.nsIn K mainGlobals "filled" = some (some (.ref f))) (l : K.lookup f = some ⟨oc, od, .func (PySem.W.fnOf "filled" "filled" (defArgs sFilled) (defBody sFilled) (defScope sFilled) .none kV dc pm an cd ct), sl⟩) (c : PySem.W.codeIn K cd "filled" = true) (k : PySem.W.keepIn K (.ref f) = true) : DefF K mg "filled" sFilled ["thicks", "room"] :=
  ⟨_, _, fun_mk (st := sFilled) l c k, PySem.W.mg_of X G a, (fun_mk (st := sFilled) l c k).binds (ps := ["thicks", "room"]) fun _ _ _ _ _ _ us hl => match us, hl with | [_, _], _ => rfl⟩
theorem d_Sums (X : K.In h) (G : h.Ns mainGlobals mg) (a : PySem.W.nsIn K mainGlobals "sums_of" = some (some (.ref f))) (l : K.lookup f = some ⟨oc, od, .func (PySem.W.fnOf "sums_of" "sums_of" (defArgs sSums) (defBody sSums) (defScope sSums) .none kV dc pm an cd ct), sl⟩) (c : PySem.W.codeIn K cd "sums_of" = true) (k : PySem.W.keepIn K (.ref f) = true) : DefF K mg "sums_of" sSums ["truths"] :=
  ⟨_, _, fun_mk (st := sSums) l c k, PySem.W.mg_of X G a, (fun_mk (st := sSums) l c k).binds (ps := ["truths"]) fun _ _ _ _ _ _ us hl => match us, hl with | [_], _ => rfl⟩
theorem d_WInit (X : K.In h) (G : h.Ns mainGlobals mg) (a : PySem.W.findIn K (.ref C) "__init__" = some (some (.ref f))) (i : PySem.W.isFn K (.ref f) = true) (l : K.lookup f = some ⟨oc, od, .func (PySem.W.fnOf "__init__" "Ways.__init__" (defArgs sWInit) (defBody sWInit) (defScope sWInit) .none kV dc pm an cd ct), sl⟩) (c : PySem.W.codeIn K cd "Ways.__init__" = true) (k : PySem.W.keepIn K (.ref f) = true) (mk : PySem.W.makesIn K C = true) (kc : PySem.W.keepIn K (.ref C) = true) (aC : PySem.W.nsIn K mainGlobals "Ways" = some (some (.ref C))) : DefI K mg C "Ways" "Ways.__init__" sWInit ["self", "numbers", "thicks", "room", "boxes"] :=
  ⟨_, _, fun_mk (st := sWInit) l c k, ⟨mk, a, i, kc⟩, PySem.W.mg_of X G aC, (fun_mk (st := sWInit) l c k).binds (ps := ["self", "numbers", "thicks", "room", "boxes"]) fun _ _ _ _ _ _ us hl => match us, hl with | [_, _, _, _, _], _ => rfl⟩
theorem d_Last (a : PySem.W.findIn K (.ref C) "last_end" = some (some (.ref f))) (i : PySem.W.isFn K (.ref f) = true) (l : K.lookup f = some ⟨oc, od, .func (PySem.W.fnOf "last_end" "Ways.last_end" (defArgs sLast) (defBody sLast) (defScope sLast) .none kV dc pm an cd ct), sl⟩) (c : PySem.W.codeIn K cd "Ways.last_end" = true) (k : PySem.W.keepIn K (.ref f) = true) : DefM K C "last_end" "Ways.last_end" sLast ["self", "begin", "thicks", "room"] :=
  ⟨_, _, fun_mk (st := sLast) l c k, ⟨a, i, k⟩, (fun_mk (st := sLast) l c k).binds (ps := ["self", "begin", "thicks", "room"]) fun _ _ _ _ _ _ us hl => match us, hl with | [_, _, _, _], _ => rfl⟩
theorem d_OldC (a : PySem.W.findIn K (.ref C) "cost_of_old" = some (some (.ref f))) (i : PySem.W.isFn K (.ref f) = true) (l : K.lookup f = some ⟨oc, od, .func (PySem.W.fnOf "cost_of_old" "Ways.cost_of_old" (defArgs sOldC) (defBody sOldC) (defScope sOldC) .none kV dc pm an cd ct), sl⟩) (c : PySem.W.codeIn K cd "Ways.cost_of_old" = true) (k : PySem.W.keepIn K (.ref f) = true) : DefM K C "cost_of_old" "Ways.cost_of_old" sOldC ["self", "at", "begin", "end"] :=
  ⟨_, _, fun_mk (st := sOldC) l c k, ⟨a, i, k⟩, (fun_mk (st := sOldC) l c k).binds (ps := ["self", "at", "begin", "end"]) fun _ _ _ _ _ _ us hl => match us, hl with | [_, _, _, _], _ => rfl⟩
theorem d_NewC (a : PySem.W.findIn K (.ref C) "cost_of_new" = some (some (.ref f))) (i : PySem.W.isFn K (.ref f) = true) (l : K.lookup f = some ⟨oc, od, .func (PySem.W.fnOf "cost_of_new" "Ways.cost_of_new" (defArgs sNewC) (defBody sNewC) (defScope sNewC) .none kV dc pm an cd ct), sl⟩) (c : PySem.W.codeIn K cd "Ways.cost_of_new" = true) (k : PySem.W.keepIn K (.ref f) = true) : DefM K C "cost_of_new" "Ways.cost_of_new" sNewC ["self", "begin", "end"] :=
  ⟨_, _, fun_mk (st := sNewC) l c k, ⟨a, i, k⟩, (fun_mk (st := sNewC) l c k).binds (ps := ["self", "begin", "end"]) fun _ _ _ _ _ _ us hl => match us, hl with | [_, _, _], _ => rfl⟩
theorem d_Least (a : PySem.W.findIn K (.ref C) "least" = some (some (.ref f))) (i : PySem.W.isFn K (.ref f) = true) (l : K.lookup f = some ⟨oc, od, .func (PySem.W.fnOf "least" "Ways.least" (defArgs sLeast) (defBody sLeast) (defScope sLeast) .none kV dc pm an cd ct), sl⟩) (c : PySem.W.codeIn K cd "Ways.least" = true) (k : PySem.W.keepIn K (.ref f) = true) : DefM K C "least" "Ways.least" sLeast ["self", "done", "passed"] :=
  ⟨_, _, fun_mk (st := sLeast) l c k, ⟨a, i, k⟩, (fun_mk (st := sLeast) l c k).binds (ps := ["self", "done", "passed"]) fun _ _ _ _ _ _ us hl => match us, hl with | [_, _, _], _ => rfl⟩
theorem d_Fbox (a : PySem.W.findIn K (.ref C) "first_box" = some (some (.ref f))) (i : PySem.W.isFn K (.ref f) = true) (l : K.lookup f = some ⟨oc, od, .func (PySem.W.fnOf "first_box" "Ways.first_box" (defArgs sFbox) (defBody sFbox) (defScope sFbox) .none kV dc pm an cd ct), sl⟩) (c : PySem.W.codeIn K cd "Ways.first_box" = true) (k : PySem.W.keepIn K (.ref f) = true) : DefM K C "first_box" "Ways.first_box" sFbox ["self", "done", "passed"] :=
  ⟨_, _, fun_mk (st := sFbox) l c k, ⟨a, i, k⟩, (fun_mk (st := sFbox) l c k).binds (ps := ["self", "done", "passed"]) fun _ _ _ _ _ _ us hl => match us, hl with | [_, _, _], _ => rfl⟩
theorem d_First (a : PySem.W.findIn K (.ref C) "first" = some (some (.ref f))) (i : PySem.W.isFn K (.ref f) = true) (l : K.lookup f = some ⟨oc, od, .func (PySem.W.fnOf "first" "Ways.first" (defArgs sFirst) (defBody sFirst) (defScope sFirst) .none kV dc pm an cd ct), sl⟩) (c : PySem.W.codeIn K cd "Ways.first" = true) (k : PySem.W.keepIn K (.ref f) = true) : DefM K C "first" "Ways.first" sFirst ["self"] :=
  ⟨_, _, fun_mk (st := sFirst) l c k, ⟨a, i, k⟩, (fun_mk (st := sFirst) l c k).binds (ps := ["self"]) fun _ _ _ _ _ _ us hl => match us, hl with | [_], _ => rfl⟩
theorem d_SInit (X : K.In h) (G : h.Ns mainGlobals mg) (a : PySem.W.findIn K (.ref C) "__init__" = some (some (.ref f))) (i : PySem.W.isFn K (.ref f) = true) (l : K.lookup f = some ⟨oc, od, .func (PySem.W.fnOf "__init__" "Shelf.__init__" (defArgs sSInit) (defBody sSInit) (defScope sSInit) .none kV dc pm an cd ct), sl⟩) (c : PySem.W.codeIn K cd "Shelf.__init__" = true) (k : PySem.W.keepIn K (.ref f) = true) (mk : PySem.W.makesIn K C = true) (kc : PySem.W.keepIn K (.ref C) = true) (aC : PySem.W.nsIn K mainGlobals "Shelf" = some (some (.ref C))) : DefI K mg C "Shelf" "Shelf.__init__" sSInit ["self", "room"] :=
  ⟨_, _, fun_mk (st := sSInit) l c k, ⟨mk, a, i, kc⟩, PySem.W.mg_of X G aC, (fun_mk (st := sSInit) l c k).binds (ps := ["self", "room"]) fun _ _ _ _ _ _ us hl => match us, hl with | [_, _], _ => rfl⟩
theorem d_InOrder (a : PySem.W.findIn K (.ref C) "in_order" = some (some (.ref f))) (i : PySem.W.isFn K (.ref f) = true) (l : K.lookup f = some ⟨oc, od, .func (PySem.W.fnOf "in_order" "Shelf.in_order" (defArgs sInOrder) (defBody sInOrder) (defScope sInOrder) .none kV dc pm an cd ct), sl⟩) (c : PySem.W.codeIn K cd "Shelf.in_order" = true) (k : PySem.W.keepIn K (.ref f) = true) : DefM K C "in_order" "Shelf.in_order" sInOrder ["self"] :=
  ⟨_, _, fun_mk (st := sInOrder) l c k, ⟨a, i, k⟩, (fun_mk (st := sInOrder) l c k).binds (ps := ["self"]) fun _ _ _ _ _ _ us hl => match us, hl with | [_], _ => rfl⟩
theorem d_Thicks (a : PySem.W.findIn K (.ref C) "thicks" = some (some (.ref f))) (i : PySem.W.isFn K (.ref f) = true) (l : K.lookup f = some ⟨oc, od, .func (PySem.W.fnOf "thicks" "Shelf.thicks" (defArgs sThicks) (defBody sThicks) (defScope sThicks) .none kV dc pm an cd ct), sl⟩) (c : PySem.W.codeIn K cd "Shelf.thicks" = true) (k : PySem.W.keepIn K (.ref f) = true) : DefM K C "thicks" "Shelf.thicks" sThicks ["self"] :=
  ⟨_, _, fun_mk (st := sThicks) l c k, ⟨a, i, k⟩, (fun_mk (st := sThicks) l c k).binds (ps := ["self"]) fun _ _ _ _ _ _ us hl => match us, hl with | [_], _ => rfl⟩
theorem d_ToldC (a : PySem.W.findIn K (.ref C) "told_change" = some (some (.ref f))) (i : PySem.W.isFn K (.ref f) = true) (l : K.lookup f = some ⟨oc, od, .func (PySem.W.fnOf "told_change" "Shelf.told_change" (defArgs sToldC) (defBody sToldC) (defScope sToldC) .none kV dc pm an cd ct), sl⟩) (c : PySem.W.codeIn K cd "Shelf.told_change" = true) (k : PySem.W.keepIn K (.ref f) = true) : DefM K C "told_change" "Shelf.told_change" sToldC ["self", "boxes"] :=
  ⟨_, _, fun_mk (st := sToldC) l c k, ⟨a, i, k⟩, (fun_mk (st := sToldC) l c k).binds (ps := ["self", "boxes"]) fun _ _ _ _ _ _ us hl => match us, hl with | [_, _], _ => rfl⟩
theorem d_Anew (a : PySem.W.findIn K (.ref C) "stand_anew" = some (some (.ref f))) (i : PySem.W.isFn K (.ref f) = true) (l : K.lookup f = some ⟨oc, od, .func (PySem.W.fnOf "stand_anew" "Shelf.stand_anew" (defArgs sAnew) (defBody sAnew) (defScope sAnew) .none kV dc pm an cd ct), sl⟩) (c : PySem.W.codeIn K cd "Shelf.stand_anew" = true) (k : PySem.W.keepIn K (.ref f) = true) : DefM K C "stand_anew" "Shelf.stand_anew" sAnew ["self"] :=
  ⟨_, _, fun_mk (st := sAnew) l c k, ⟨a, i, k⟩, (fun_mk (st := sAnew) l c k).binds (ps := ["self"]) fun _ _ _ _ _ _ us hl => match us, hl with | [_], _ => rfl⟩
theorem d_Pack (a : PySem.W.findIn K (.ref C) "pack" = some (some (.ref f))) (i : PySem.W.isFn K (.ref f) = true) (l : K.lookup f = some ⟨oc, od, .func (PySem.W.fnOf "pack" "Shelf.pack" (defArgs sPack) (defBody sPack) (defScope sPack) .none kV dc pm an cd ct), sl⟩) (c : PySem.W.codeIn K cd "Shelf.pack" = true) (k : PySem.W.keepIn K (.ref f) = true) : DefM K C "pack" "Shelf.pack" sPack ["self"] :=
  ⟨_, _, fun_mk (st := sPack) l c k, ⟨a, i, k⟩, (fun_mk (st := sPack) l c k).binds (ps := ["self"]) fun _ _ _ _ _ _ us hl => match us, hl with | [_], _ => rfl⟩
theorem d_Thickness (a : PySem.W.findIn K (.ref C) "thickness" = some (some (.ref f))) (i : PySem.W.isFn K (.ref f) = true) (l : K.lookup f = some ⟨oc, od, .func (PySem.W.fnOf "thickness" "Shelf.thickness" (defArgs sThickness) (defBody sThickness) (defScope sThickness) .none kV dc pm an cd ct), sl⟩) (c : PySem.W.codeIn K cd "Shelf.thickness" = true) (k : PySem.W.keepIn K (.ref f) = true) : DefM K C "thickness" "Shelf.thickness" sThickness ["self", "numbers"] :=
  ⟨_, _, fun_mk (st := sThickness) l c k, ⟨a, i, k⟩, (fun_mk (st := sThickness) l c k).binds (ps := ["self", "numbers"]) fun _ _ _ _ _ _ us hl => match us, hl with | [_, _], _ => rfl⟩
theorem d_WhereM (a : PySem.W.findIn K (.ref C) "where" = some (some (.ref f))) (i : PySem.W.isFn K (.ref f) = true) (l : K.lookup f = some ⟨oc, od, .func (PySem.W.fnOf "where" "Shelf.where" (defArgs sWhereM) (defBody sWhereM) (defScope sWhereM) .none kV dc pm an cd ct), sl⟩) (c : PySem.W.codeIn K cd "Shelf.where" = true) (k : PySem.W.keepIn K (.ref f) = true) : DefM K C "where" "Shelf.where" sWhereM ["self", "number"] :=
  ⟨_, _, fun_mk (st := sWhereM) l c k, ⟨a, i, k⟩, (fun_mk (st := sWhereM) l c k).binds (ps := ["self", "number"]) fun _ _ _ _ _ _ us hl => match us, hl with | [_, _], _ => rfl⟩
theorem d_BoxTold (a : PySem.W.findIn K (.ref C) "box_told" = some (some (.ref f))) (i : PySem.W.isFn K (.ref f) = true) (l : K.lookup f = some ⟨oc, od, .func (PySem.W.fnOf "box_told" "Shelf.box_told" (defArgs sBoxTold) (defBody sBoxTold) (defScope sBoxTold) .none kV dc pm an cd ct), sl⟩) (c : PySem.W.codeIn K cd "Shelf.box_told" = true) (k : PySem.W.keepIn K (.ref f) = true) : DefM K C "box_told" "Shelf.box_told" sBoxTold ["self", "at"] :=
  ⟨_, _, fun_mk (st := sBoxTold) l c k, ⟨a, i, k⟩, (fun_mk (st := sBoxTold) l c k).binds (ps := ["self", "at"]) fun _ _ _ _ _ _ us hl => match us, hl with | [_, _], _ => rfl⟩
theorem d_SeekM (a : PySem.W.findIn K (.ref C) "seek" = some (some (.ref f))) (i : PySem.W.isFn K (.ref f) = true) (l : K.lookup f = some ⟨oc, od, .func (PySem.W.fnOf "seek" "Shelf.seek" (defArgs sSeekM) (defBody sSeekM) (defScope sSeekM) .none kV dc pm an cd ct), sl⟩) (c : PySem.W.codeIn K cd "Shelf.seek" = true) (k : PySem.W.keepIn K (.ref f) = true) : DefM K C "seek" "Shelf.seek" sSeekM ["self", "key"] :=
  ⟨_, _, fun_mk (st := sSeekM) l c k, ⟨a, i, k⟩, (fun_mk (st := sSeekM) l c k).binds (ps := ["self", "key"]) fun _ _ _ _ _ _ us hl => match us, hl with | [_, _], _ => rfl⟩
theorem d_Begun (X : K.In h) (G : h.Ns mainGlobals mg) (a : PySem.W.nsIn K mainGlobals "begun" = some (some (.ref f))) (l : K.lookup f = some ⟨oc, od, .func (PySem.W.fnOf "begun" "begun" (defArgs sBegun) (defBody sBegun) (defScope sBegun) .none kV dc pm an cd ct), sl⟩) (c : PySem.W.codeIn K cd "begun" = true) (k : PySem.W.keepIn K (.ref f) = true) : DefF K mg "begun" sBegun ["room"] :=
  ⟨_, _, fun_mk (st := sBegun) l c k, PySem.W.mg_of X G a, (fun_mk (st := sBegun) l c k).binds (ps := ["room"]) fun _ _ _ _ _ _ us hl => match us, hl with | [_], _ => rfl⟩
theorem d_IsThick (X : K.In h) (G : h.Ns mainGlobals mg) (a : PySem.W.nsIn K mainGlobals "is_thick" = some (some (.ref f))) (l : K.lookup f = some ⟨oc, od, .func (PySem.W.fnOf "is_thick" "is_thick" (defArgs sIsThick) (defBody sIsThick) (defScope sIsThick) .none kV dc pm an cd ct), sl⟩) (c : PySem.W.codeIn K cd "is_thick" = true) (k : PySem.W.keepIn K (.ref f) = true) : DefF K mg "is_thick" sIsThick ["shelf", "thick"] :=
  ⟨_, _, fun_mk (st := sIsThick) l c k, PySem.W.mg_of X G a, (fun_mk (st := sIsThick) l c k).binds (ps := ["shelf", "thick"]) fun _ _ _ _ _ _ us hl => match us, hl with | [_, _], _ => rfl⟩
theorem d_Put (X : K.In h) (G : h.Ns mainGlobals mg) (a : PySem.W.nsIn K mainGlobals "put" = some (some (.ref f))) (l : K.lookup f = some ⟨oc, od, .func (PySem.W.fnOf "put" "put" (defArgs sPut) (defBody sPut) (defScope sPut) .none kV dc pm an cd ct), sl⟩) (c : PySem.W.codeIn K cd "put" = true) (k : PySem.W.keepIn K (.ref f) = true) : DefF K mg "put" sPut ["shelf", "number", "key", "thick"] :=
  ⟨_, _, fun_mk (st := sPut) l c k, PySem.W.mg_of X G a, (fun_mk (st := sPut) l c k).binds (ps := ["shelf", "number", "key", "thick"]) fun _ _ _ _ _ _ us hl => match us, hl with | [_, _, _, _], _ => rfl⟩
theorem d_Take (X : K.In h) (G : h.Ns mainGlobals mg) (a : PySem.W.nsIn K mainGlobals "take" = some (some (.ref f))) (l : K.lookup f = some ⟨oc, od, .func (PySem.W.fnOf "take" "take" (defArgs sTake) (defBody sTake) (defScope sTake) .none kV dc pm an cd ct), sl⟩) (c : PySem.W.codeIn K cd "take" = true) (k : PySem.W.keepIn K (.ref f) = true) : DefF K mg "take" sTake ["shelf", "number"] :=
  ⟨_, _, fun_mk (st := sTake) l c k, PySem.W.mg_of X G a, (fun_mk (st := sTake) l c k).binds (ps := ["shelf", "number"]) fun _ _ _ _ _ _ us hl => match us, hl with | [_, _], _ => rfl⟩
theorem d_Grow (X : K.In h) (G : h.Ns mainGlobals mg) (a : PySem.W.nsIn K mainGlobals "grow" = some (some (.ref f))) (l : K.lookup f = some ⟨oc, od, .func (PySem.W.fnOf "grow" "grow" (defArgs sGrow) (defBody sGrow) (defScope sGrow) .none kV dc pm an cd ct), sl⟩) (c : PySem.W.codeIn K cd "grow" = true) (k : PySem.W.keepIn K (.ref f) = true) : DefF K mg "grow" sGrow ["shelf", "number", "thick"] :=
  ⟨_, _, fun_mk (st := sGrow) l c k, PySem.W.mg_of X G a, (fun_mk (st := sGrow) l c k).binds (ps := ["shelf", "number", "thick"]) fun _ _ _ _ _ _ us hl => match us, hl with | [_, _, _], _ => rfl⟩
theorem d_Count (X : K.In h) (G : h.Ns mainGlobals mg) (a : PySem.W.nsIn K mainGlobals "count" = some (some (.ref f))) (l : K.lookup f = some ⟨oc, od, .func (PySem.W.fnOf "count" "count" (defArgs sCount) (defBody sCount) (defScope sCount) .none kV dc pm an cd ct), sl⟩) (c : PySem.W.codeIn K cd "count" = true) (k : PySem.W.keepIn K (.ref f) = true) : DefF K mg "count" sCount ["shelf"] :=
  ⟨_, _, fun_mk (st := sCount) l c k, PySem.W.mg_of X G a, (fun_mk (st := sCount) l c k).binds (ps := ["shelf"]) fun _ _ _ _ _ _ us hl => match us, hl with | [_], _ => rfl⟩
theorem d_Where (X : K.In h) (G : h.Ns mainGlobals mg) (a : PySem.W.nsIn K mainGlobals "where" = some (some (.ref f))) (l : K.lookup f = some ⟨oc, od, .func (PySem.W.fnOf "where" "where" (defArgs sWhere) (defBody sWhere) (defScope sWhere) .none kV dc pm an cd ct), sl⟩) (c : PySem.W.codeIn K cd "where" = true) (k : PySem.W.keepIn K (.ref f) = true) : DefF K mg "where" sWhere ["shelf", "number"] :=
  ⟨_, _, fun_mk (st := sWhere) l c k, PySem.W.mg_of X G a, (fun_mk (st := sWhere) l c k).binds (ps := ["shelf", "number"]) fun _ _ _ _ _ _ us hl => match us, hl with | [_, _], _ => rfl⟩
theorem d_Box (X : K.In h) (G : h.Ns mainGlobals mg) (a : PySem.W.nsIn K mainGlobals "box" = some (some (.ref f))) (l : K.lookup f = some ⟨oc, od, .func (PySem.W.fnOf "box" "box" (defArgs sBox) (defBody sBox) (defScope sBox) .none kV dc pm an cd ct), sl⟩) (c : PySem.W.codeIn K cd "box" = true) (k : PySem.W.keepIn K (.ref f) = true) : DefF K mg "box" sBox ["shelf", "at"] :=
  ⟨_, _, fun_mk (st := sBox) l c k, PySem.W.mg_of X G a, (fun_mk (st := sBox) l c k).binds (ps := ["shelf", "at"]) fun _ _ _ _ _ _ us hl => match us, hl with | [_, _], _ => rfl⟩
theorem d_Files (X : K.In h) (G : h.Ns mainGlobals mg) (a : PySem.W.nsIn K mainGlobals "files" = some (some (.ref f))) (l : K.lookup f = some ⟨oc, od, .func (PySem.W.fnOf "files" "files" (defArgs sFiles) (defBody sFiles) (defScope sFiles) .none kV dc pm an cd ct), sl⟩) (c : PySem.W.codeIn K cd "files" = true) (k : PySem.W.keepIn K (.ref f) = true) : DefF K mg "files" sFiles ["shelf", "at"] :=
  ⟨_, _, fun_mk (st := sFiles) l c k, PySem.W.mg_of X G a, (fun_mk (st := sFiles) l c k).binds (ps := ["shelf", "at"]) fun _ _ _ _ _ _ us hl => match us, hl with | [_, _], _ => rfl⟩
theorem d_Seek (X : K.In h) (G : h.Ns mainGlobals mg) (a : PySem.W.nsIn K mainGlobals "seek" = some (some (.ref f))) (l : K.lookup f = some ⟨oc, od, .func (PySem.W.fnOf "seek" "seek" (defArgs sSeek) (defBody sSeek) (defScope sSeek) .none kV dc pm an cd ct), sl⟩) (c : PySem.W.codeIn K cd "seek" = true) (k : PySem.W.keepIn K (.ref f) = true) : DefF K mg "seek" sSeek ["shelf", "key"] :=
  ⟨_, _, fun_mk (st := sSeek) l c k, PySem.W.mg_of X G a, (fun_mk (st := sSeek) l c k).binds (ps := ["shelf", "key"]) fun _ _ _ _ _ _ us hl => match us, hl with | [_, _], _ => rfl⟩
theorem d_Asked (X : K.In h) (G : h.Ns mainGlobals mg) (a : PySem.W.nsIn K mainGlobals "asked" = some (some (.ref f))) (l : K.lookup f = some ⟨oc, od, .func (PySem.W.fnOf "asked" "asked" (defArgs sAsked) (defBody sAsked) (defScope sAsked) .none kV dc pm an cd ct), sl⟩) (c : PySem.W.codeIn K cd "asked" = true) (k : PySem.W.keepIn K (.ref f) = true) : DefF K mg "asked" sAsked ["shelf", "word", "numbers"] :=
  ⟨_, _, fun_mk (st := sAsked) l c k, PySem.W.mg_of X G a, (fun_mk (st := sAsked) l c k).binds (ps := ["shelf", "word", "numbers"]) fun _ _ _ _ _ _ us hl => match us, hl with | [_, _, _], _ => rfl⟩
theorem d_Answered (X : K.In h) (G : h.Ns mainGlobals mg) (a : PySem.W.nsIn K mainGlobals "answered" = some (some (.ref f))) (l : K.lookup f = some ⟨oc, od, .func (PySem.W.fnOf "answered" "answered" (defArgs sAnswered) (defBody sAnswered) (defScope sAnswered) .none kV dc pm an cd ct), sl⟩) (c : PySem.W.codeIn K cd "answered" = true) (k : PySem.W.keepIn K (.ref f) = true) : DefF K mg "answered" sAnswered ["shelf", "word", "numbers"] :=
  ⟨_, _, fun_mk (st := sAnswered) l c k, PySem.W.mg_of X G a, (fun_mk (st := sAnswered) l c k).binds (ps := ["shelf", "word", "numbers"]) fun _ _ _ _ _ _ us hl => match us, hl with | [_, _, _], _ => rfl⟩
/-- the whole text keeps its promise -/
theorem all_mk {fa : Addr} (X : K.In h) (G : h.Ns mainGlobals mg) (hfa : mg "answers" = some (.ref fa)) (T : Txt K mg CF CB CW CS aN)
    (a : PySem.W.nsIn K mainGlobals "answers" = some (some (.ref f))) (l : K.lookup f = some ⟨oc, od, .func (PySem.W.fnOf "answers" "answers" (defArgs sAnswers) (defBody sAnswers) (defScope sAnswers) .none kV dc pm an cd ct), sl⟩) (c : PySem.W.codeIn K cd "answers" = true) (k : PySem.W.keepIn K (.ref f) = true)
    (dFInit : DefI K mg CF "File" "File.__init__" sFInit ["self", "number", "key", "thick"])
    (dRank : DefM K CF "rank" "File.rank" sRank ["self"])
    (dBInit : DefI K mg CB "Box" "Box.__init__" sBInit ["self", "number", "files"])
    (dPlace : DefF K mg "place_by_file" sPlace ["boxes"])
    (dMoved : DefF K mg "moved_files" sMoved ["before", "boxes"])
    (dBbf : DefF K mg "box_by_file" sBbf ["boxes"])
    (dChanged : DefF K mg "changed_boxes" sChanged ["old", "boxes"])
    (dFilled : DefF K mg "filled" sFilled ["thicks", "room"])
    (dSums : DefF K mg "sums_of" sSums ["truths"])
    (dWInit : DefI K mg CW "Ways" "Ways.__init__" sWInit ["self", "numbers", "thicks", "room", "boxes"])
    (dLast : DefM K CW "last_end" "Ways.last_end" sLast ["self", "begin", "thicks", "room"])
    (dOldC : DefM K CW "cost_of_old" "Ways.cost_of_old" sOldC ["self", "at", "begin", "end"])
    (dNewC : DefM K CW "cost_of_new" "Ways.cost_of_new" sNewC ["self", "begin", "end"])
    (dLeast : DefM K CW "least" "Ways.least" sLeast ["self", "done", "passed"])
    (dFbox : DefM K CW "first_box" "Ways.first_box" sFbox ["self", "done", "passed"])
    (dFirst : DefM K CW "first" "Ways.first" sFirst ["self"])
    (dSInit : DefI K mg CS "Shelf" "Shelf.__init__" sSInit ["self", "room"])
    (dInOrder : DefM K CS "in_order" "Shelf.in_order" sInOrder ["self"])
    (dThicks : DefM K CS "thicks" "Shelf.thicks" sThicks ["self"])
    (dToldC : DefM K CS "told_change" "Shelf.told_change" sToldC ["self", "boxes"])
    (dAnew : DefM K CS "stand_anew" "Shelf.stand_anew" sAnew ["self"])
    (dPack : DefM K CS "pack" "Shelf.pack" sPack ["self"])
    (dThickness : DefM K CS "thickness" "Shelf.thickness" sThickness ["self", "numbers"])
    (dWhereM : DefM K CS "where" "Shelf.where" sWhereM ["self", "number"])
    (dBoxTold : DefM K CS "box_told" "Shelf.box_told" sBoxTold ["self", "at"])
    (dSeekM : DefM K CS "seek" "Shelf.seek" sSeekM ["self", "key"])
    (dBegun : DefF K mg "begun" sBegun ["room"])
    (dIsThick : DefF K mg "is_thick" sIsThick ["shelf", "thick"])
    (dPut : DefF K mg "put" sPut ["shelf", "number", "key", "thick"])
    (dTake : DefF K mg "take" sTake ["shelf", "number"])
    (dGrow : DefF K mg "grow" sGrow ["shelf", "number", "thick"])
    (dCount : DefF K mg "count" sCount ["shelf"])
    (dWhere : DefF K mg "where" sWhere ["shelf", "number"])
    (dBox : DefF K mg "box" sBox ["shelf", "at"])
    (dFiles : DefF K mg "files" sFiles ["shelf", "at"])
    (dSeek : DefF K mg "seek" sSeek ["shelf", "key"])
    (dAsked : DefF K mg "asked" sAsked ["shelf", "word", "numbers"])
    (dAnswered : DefF K mg "answered" sAnswered ["shelf", "word", "numbers"]) :
    ∃ fd : FuncData, (∀ (s : Shared) (us : List Value), us.length = (["calls"] : List Str).length → BindsTo s fd ⟨us, []⟩ ((["calls"] : List Str).zip us)) ∧ ∀ base : Heap, K.In base → base.Ns mainGlobals mg → FnOk P w K mg base CX0 8 fa fd ["calls"] (spAnswers K) := by
  have e := hfa.symm.trans (PySem.W.mg_of X G a)
  cases e
  refine ⟨PySem.W.fnOf "answers" "answers" (defArgs sAnswers) (defBody sAnswers) (defScope sAnswers) .none kV dc pm an cd ct, fun s us hu => match us, hu with | [_], _ => .of_eq rfl, fun base _ _ => ?_⟩
  have F := fun_mk (st := sAnswers) l c k
  have cRank := ok_Rank (P := P) (w := w) (base := base) dRank T
  have cFInit := ok_FInit (P := P) (w := w) (base := base) dFInit T
  have cBInit := ok_BInit (P := P) (w := w) (base := base) dBInit T
  have cPlace := ok_Place (P := P) (w := w) (base := base) dPlace T
  have cBbf := ok_Bbf (P := P) (w := w) (base := base) dBbf T
  have cSums := ok_Sums (P := P) (w := w) (base := base) dSums T
  have cFilled := ok_Filled (P := P) (w := w) (base := base) dFilled T
  have cMoved := ok_Moved (P := P) (w := w) (base := base) dMoved T
  have cChanged := ok_Changed (P := P) (w := w) (base := base) dChanged T
  have cLast := ok_Last (P := P) (w := w) (base := base) dLast T
  have cNewC := ok_NewC (P := P) (w := w) (base := base) dNewC T
  have cOldC := ok_OldC (P := P) (w := w) (base := base) dOldC T
  have cLeast := ok_Least (P := P) (w := w) (base := base) dLeast T cOldC cNewC
  have cFbox := ok_Fbox (P := P) (w := w) (base := base) dFbox T cOldC cNewC
  have cFirst := ok_First (P := P) (w := w) (base := base) dFirst T cFbox
  have cWInit := ok_WInit (P := P) (w := w) (base := base) dWInit T cLast cPlace cSums cLeast
  have cSInit := ok_SInit (P := P) (w := w) (base := base) dSInit T
  have cInOrder := ok_InOrder (P := P) (w := w) (base := base) dInOrder T cRank
  have cThicks := ok_Thicks (P := P) (w := w) (base := base) dThicks T cInOrder
  have cThickness := ok_Thickness (P := P) (w := w) (base := base) dThickness T
  have cToldC := ok_ToldC (P := P) (w := w) (base := base) dToldC T cChanged cMoved cBbf
  have cWhereM := ok_WhereM (P := P) (w := w) (base := base) dWhereM T cPlace cThickness
  have cBoxTold := ok_BoxTold (P := P) (w := w) (base := base) dBoxTold T cThickness
  have cSeekM := ok_SeekM (P := P) (w := w) (base := base) dSeekM T cPlace cInOrder
  have cAnew := ok_Anew (P := P) (w := w) (base := base) dAnew T cInOrder cThicks cWInit cFirst cBInit cToldC
  have cPack := ok_Pack (P := P) (w := w) (base := base) dPack T cInOrder cThicks cFilled cBInit cToldC
  have cBegun := ok_Begun (P := P) (w := w) (base := base) dBegun T cSInit
  have cIsThick := ok_IsThick (P := P) (w := w) (base := base) dIsThick T
  have cPut := ok_Put (P := P) (w := w) (base := base) dPut T cIsThick cFInit cAnew
  have cTake := ok_Take (P := P) (w := w) (base := base) dTake T cAnew
  have cGrow := ok_Grow (P := P) (w := w) (base := base) dGrow T cIsThick cAnew
  have cCount := ok_Count (P := P) (w := w) (base := base) dCount T cThicks
  have cWhere := ok_Where (P := P) (w := w) (base := base) dWhere T cWhereM
  have cBox := ok_Box (P := P) (w := w) (base := base) dBox T cBoxTold
  have cFiles := ok_Files (P := P) (w := w) (base := base) dFiles T
  have cSeek := ok_Seek (P := P) (w := w) (base := base) dSeek T cSeekM
  have cAsked := ok_Asked (P := P) (w := w) (base := base) dAsked T cCount cWhere cBox cFiles cSeek cFilled cThicks cPack
  have cAnswered := ok_Answered (P := P) (w := w) (base := base) dAnswered T cPut cTake cGrow cAsked
  exact ok_Answers F T cAnswered cBegun
end
end BW

open PySem PySem.W PyProof.Rows
set_option maxHeartbeats 0 in
theorem PySem.Challenge.cw_fewboxesdesk_s01_answers_holds : PySem.Challenge.rw_fewboxesdesk_s01_answers.Holds := by
  w_on; k_headS; (case hw => exact ⟨[.list []], by decide +kernel, by decide +kernel⟩)
  k_fillS
  refine L2.walk_specK (r := PySem.Challenge.rw_fewboxesdesk_s01_answers) (k := 8) (CX := L2.CX0) (ps := ["calls"]) (sp := BW.spAnswers) (by decide +kernel) rfl rfl ⟨rfl, by decide, by decide⟩ (fun w h Y => PySem.W.kIn_of Y) ?F ?S (fun _ _ _ _ z => z)
  case F =>
    intro w mg fa h Y KX G hmg
    refine' BW.all_mk KX G hmg ⟨⟨?pgF, ?hdF, ?poF, ?saF⟩, ⟨?pgB, ?hdB, ?poB, ?saB⟩, ⟨?pgW, ?hdW, ?poW, ?saW⟩, ⟨?pgS, ?hdS, ?poS, ?saS⟩, BW.d_no ?nF1, BW.d_no ?nF2, BW.d_no ?nF3, BW.d_no ?nB1, BW.d_no ?nB2, BW.d_no ?nW1, BW.d_no ?nW2, BW.d_no ?nW3, BW.d_no ?nW4, BW.d_no ?nW5, BW.d_no ?nW6, BW.d_no ?nS1, BW.d_no ?nS2, BW.d_no ?nS3, BW.d_no ?nS4, PySem.W.mg_of KX G ?aCF, PySem.W.mg_of KX G ?aCB, PySem.W.mg_of KX G ?aCW, PySem.W.mg_of KX G ?aCS, PySem.W.mg_none_of KX G ?zlen, PySem.W.mg_none_of KX G ?zrange, PySem.W.mg_none_of KX G ?zreversed, PySem.W.mg_none_of KX G ?zlist, PySem.W.mg_none_of KX G ?zsorted, PySem.W.mg_none_of KX G ?zsum, PySem.W.mg_none_of KX G ?zmin, PySem.W.mg_none_of KX G ?zint, PySem.W.mg_none_of KX G ?zdict, PySem.W.mg_none_of KX G ?zenumerate, PySem.W.mg_none_of KX G ?zzip, BW.d_const KX G ?cBOX, BW.d_const KX G ?cWRONG, BW.d_const KX G ?cNONE, BW.d_const KX G ?cFULL, BW.d_const KX G ?cTHERE, BW.d_const KX G ?cNOSHELF, BW.d_const KX G ?cROOM, BW.d_const KX G ?cLAST, BW.d_const KX G ?cKEYS, BW.d_const KX G ?cMOST, BW.d_const KX G ?cBEGIN, BW.d_const KX G ?cPUT, BW.d_const KX G ?cTAKE, BW.d_const KX G ?cGROW, BW.d_const KX G ?cCOUNT, BW.d_const KX G ?cWHERE, BW.d_const KX G ?cBOXS, BW.d_const KX G ?cFILES, BW.d_const KX G ?cSEEK, BW.d_const KX G ?cLEAST, PySem.W.mg_of KX G ?aNUM, BW.d_nums ?lNUM⟩ ?a ?l ?c ?k ?dFInit ?dRank ?dBInit ?dPlace ?dMoved ?dBbf ?dChanged ?dFilled ?dSums ?dWInit ?dLast ?dOldC ?dNewC ?dLeast ?dFbox ?dFirst ?dSInit ?dInOrder ?dThicks ?dToldC ?dAnew ?dPack ?dThickness ?dWhereM ?dBoxTold ?dSeekM ?dBegun ?dIsThick ?dPut ?dTake ?dGrow ?dCount ?dWhere ?dBox ?dFiles ?dSeek ?dAsked ?dAnswered
    (case aCF => k_is)
    (case aCB => k_is)
    (case aCW => k_is)
    (case aCS => k_is)
    (case aNUM => k_is)
    (case pgF => k_is)
    (case hdF => k_is)
    (case poF => k_is)
    (case saF => k_is)
    (case pgB => k_is)
    (case hdB => k_is)
    (case poB => k_is)
    (case saB => k_is)
    (case pgW => k_is)
    (case hdW => k_is)
    (case poW => k_is)
    (case saW => k_is)
    (case pgS => k_is)
    (case hdS => k_is)
    (case poS => k_is)
    (case saS => k_is)
    (case nF1 => k_is)
    (case nF2 => k_is)
    (case nF3 => k_is)
    (case nB1 => k_is)
    (case nB2 => k_is)
    (case nW1 => k_is)
    (case nW2 => k_is)
    (case nW3 => k_is)
    (case nW4 => k_is)
    (case nW5 => k_is)
    (case nW6 => k_is)
    (case nS1 => k_is)
    (case nS2 => k_is)
    (case nS3 => k_is)
    (case nS4 => k_is)
    (case zlen => k_is)
    (case zrange => k_is)
    (case zreversed => k_is)
    (case zlist => k_is)
    (case zsorted => k_is)
    (case zsum => k_is)
    (case zmin => k_is)
    (case zint => k_is)
    (case zdict => k_is)
    (case zenumerate => k_is)
    (case zzip => k_is)
    (case cBOX => k_is)
    (case cWRONG => k_is)
    (case cNONE => k_is)
    (case cFULL => k_is)
    (case cTHERE => k_is)
    (case cNOSHELF => k_is)
    (case cROOM => k_is)
    (case cLAST => k_is)
    (case cKEYS => k_is)
    (case cMOST => k_is)
    (case cBEGIN => k_is)
    (case cPUT => k_is)
    (case cTAKE => k_is)
    (case cGROW => k_is)
    (case cCOUNT => k_is)
    (case cWHERE => k_is)
    (case cBOXS => k_is)
    (case cFILES => k_is)
    (case cSEEK => k_is)
    (case cLEAST => k_is)
    (case lNUM => k_is)
    (case a => k_is)
    (case l => k_is)
    (case c => k_is)
    (case k => k_is)
    (case dFInit => refine' BW.d_FInit KX G ?a ?i ?l ?c ?k ?mk ?kc ?aC; (case a => k_is); (case i => k_is); (case l => k_is); (case c => k_is); (case k => k_is); (case mk => k_is); (case kc => k_is); (case aC => k_is))
    (case dRank => refine' BW.d_Rank ?a ?i ?l ?c ?k; (case a => k_is); (case i => k_is); (case l => k_is); (case c => k_is); (case k => k_is))
    (case dBInit => refine' BW.d_BInit KX G ?a ?i ?l ?c ?k ?mk ?kc ?aC; (case a => k_is); (case i => k_is); (case l => k_is); (case c => k_is); (case k => k_is); (case mk => k_is); (case kc => k_is); (case aC => k_is))
    (case dPlace => refine' BW.d_Place KX G ?a ?l ?c ?k; (case a => k_is); (case l => k_is); (case c => k_is); (case k => k_is))
    (case dMoved => refine' BW.d_Moved KX G ?a ?l ?c ?k; (case a => k_is); (case l => k_is); (case c => k_is); (case k => k_is))
    (case dBbf => refine' BW.d_Bbf KX G ?a ?l ?c ?k; (case a => k_is); (case l => k_is); (case c => k_is); (case k => k_is))
    (case dChanged => refine' BW.d_Changed KX G ?a ?l ?c ?k; (case a => k_is); (case l => k_is); (case c => k_is); (case k => k_is))
    (case dFilled => refine' BW.d_Filled KX G ?a ?l ?c ?k; (case a => k_is); (case l => k_is); (case c => k_is); (case k => k_is))
    (case dSums => refine' BW.d_Sums KX G ?a ?l ?c ?k; (case a => k_is); (case l => k_is); (case c => k_is); (case k => k_is))
    (case dWInit => refine' BW.d_WInit KX G ?a ?i ?l ?c ?k ?mk ?kc ?aC; (case a => k_is); (case i => k_is); (case l => k_is); (case c => k_is); (case k => k_is); (case mk => k_is); (case kc => k_is); (case aC => k_is))
    (case dLast => refine' BW.d_Last ?a ?i ?l ?c ?k; (case a => k_is); (case i => k_is); (case l => k_is); (case c => k_is); (case k => k_is))
    (case dOldC => refine' BW.d_OldC ?a ?i ?l ?c ?k; (case a => k_is); (case i => k_is); (case l => k_is); (case c => k_is); (case k => k_is))
    (case dNewC => refine' BW.d_NewC ?a ?i ?l ?c ?k; (case a => k_is); (case i => k_is); (case l => k_is); (case c => k_is); (case k => k_is))
    (case dLeast => refine' BW.d_Least ?a ?i ?l ?c ?k; (case a => k_is); (case i => k_is); (case l => k_is); (case c => k_is); (case k => k_is))
    (case dFbox => refine' BW.d_Fbox ?a ?i ?l ?c ?k; (case a => k_is); (case i => k_is); (case l => k_is); (case c => k_is); (case k => k_is))
    (case dFirst => refine' BW.d_First ?a ?i ?l ?c ?k; (case a => k_is); (case i => k_is); (case l => k_is); (case c => k_is); (case k => k_is))
    (case dSInit => refine' BW.d_SInit KX G ?a ?i ?l ?c ?k ?mk ?kc ?aC; (case a => k_is); (case i => k_is); (case l => k_is); (case c => k_is); (case k => k_is); (case mk => k_is); (case kc => k_is); (case aC => k_is))
    (case dInOrder => refine' BW.d_InOrder ?a ?i ?l ?c ?k; (case a => k_is); (case i => k_is); (case l => k_is); (case c => k_is); (case k => k_is))
    (case dThicks => refine' BW.d_Thicks ?a ?i ?l ?c ?k; (case a => k_is); (case i => k_is); (case l => k_is); (case c => k_is); (case k => k_is))
    (case dToldC => refine' BW.d_ToldC ?a ?i ?l ?c ?k; (case a => k_is); (case i => k_is); (case l => k_is); (case c => k_is); (case k => k_is))
    (case dAnew => refine' BW.d_Anew ?a ?i ?l ?c ?k; (case a => k_is); (case i => k_is); (case l => k_is); (case c => k_is); (case k => k_is))
    (case dPack => refine' BW.d_Pack ?a ?i ?l ?c ?k; (case a => k_is); (case i => k_is); (case l => k_is); (case c => k_is); (case k => k_is))
    (case dThickness => refine' BW.d_Thickness ?a ?i ?l ?c ?k; (case a => k_is); (case i => k_is); (case l => k_is); (case c => k_is); (case k => k_is))
    (case dWhereM => refine' BW.d_WhereM ?a ?i ?l ?c ?k; (case a => k_is); (case i => k_is); (case l => k_is); (case c => k_is); (case k => k_is))
    (case dBoxTold => refine' BW.d_BoxTold ?a ?i ?l ?c ?k; (case a => k_is); (case i => k_is); (case l => k_is); (case c => k_is); (case k => k_is))
    (case dSeekM => refine' BW.d_SeekM ?a ?i ?l ?c ?k; (case a => k_is); (case i => k_is); (case l => k_is); (case c => k_is); (case k => k_is))
    (case dBegun => refine' BW.d_Begun KX G ?a ?l ?c ?k; (case a => k_is); (case l => k_is); (case c => k_is); (case k => k_is))
    (case dIsThick => refine' BW.d_IsThick KX G ?a ?l ?c ?k; (case a => k_is); (case l => k_is); (case c => k_is); (case k => k_is))
    (case dPut => refine' BW.d_Put KX G ?a ?l ?c ?k; (case a => k_is); (case l => k_is); (case c => k_is); (case k => k_is))
    (case dTake => refine' BW.d_Take KX G ?a ?l ?c ?k; (case a => k_is); (case l => k_is); (case c => k_is); (case k => k_is))
    (case dGrow => refine' BW.d_Grow KX G ?a ?l ?c ?k; (case a => k_is); (case l => k_is); (case c => k_is); (case k => k_is))
    (case dCount => refine' BW.d_Count KX G ?a ?l ?c ?k; (case a => k_is); (case l => k_is); (case c => k_is); (case k => k_is))
    (case dWhere => refine' BW.d_Where KX G ?a ?l ?c ?k; (case a => k_is); (case l => k_is); (case c => k_is); (case k => k_is))
    (case dBox => refine' BW.d_Box KX G ?a ?l ?c ?k; (case a => k_is); (case l => k_is); (case c => k_is); (case k => k_is))
    (case dFiles => refine' BW.d_Files KX G ?a ?l ?c ?k; (case a => k_is); (case l => k_is); (case c => k_is); (case k => k_is))
    (case dSeek => refine' BW.d_Seek KX G ?a ?l ?c ?k; (case a => k_is); (case l => k_is); (case c => k_is); (case k => k_is))
    (case dAsked => refine' BW.d_Asked KX G ?a ?l ?c ?k; (case a => k_is); (case l => k_is); (case c => k_is); (case k => k_is))
    (case dAnswered => refine' BW.d_Answered KX G ?a ?l ?c ?k; (case a => k_is); (case l => k_is); (case c => k_is); (case k => k_is))
  case S =>
    intro K H xs a hO hwi hask hx
    cases hx with
    | cons h1 h2 =>
      cases h2
      cases h1 with
      | lst hs ha =>
        have e := L2.ints_dw a.1 _ ha
        subst e
        exact ⟨_, a.1, rfl, hs, hask, fun H' p hp => .lst (L2.SqL.of hp) (L2.dw_ints _)⟩
