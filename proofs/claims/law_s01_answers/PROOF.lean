import PyProof.Rows.All
import Wide.All
import OpenK.AllK
import Wide.FinOn
import KE.KStateDown
import Lean
import Open.SpecLaws
import KE.OsGo
import HandS.ForSpec
import HandS.More
import HandS.Defaults
import HandS.Codes
import HandS.Head0
import HandS.Head1
import HandS.Head2
import HandS.Head3
import HandS.Head4
import HandS.HeadEnd
import HandS.HeadHook1
import HandS.HeadHook2
import HandS.HeadHook3
import HandS.HeadHook4
import HandS.Evl
import HandS.Steps
import HandS.NoneIn
import HandS.CallLocal
import HandS.Walk
import HandS.Dict
import KE.DataMinMax
import KE.GoesNew
import KE.GoesMore
import KE.BitLaws
import HandS.WideBits
import KE.DatumOrd
import KE.SortData
import PySem.Challenge.RW_stormclear_s01_answers
set_option Elab.async false
set_option linter.all false
section
set_option autoImplicit false
namespace Sc
open TimStorm

/-! ### reached places: the program's passes over a list of ways -/
def hop (r : List Bool) (w : Way) : List Bool := if (r.getD w.a false || r.getD w.b false) = true then (r.set w.a true).set w.b true else r
def sweep (ws : List Way) (r : List Bool) : List Bool := ws.foldl hop r
def sweeps (ws : List Way) : Nat → List Bool → List Bool
  | 0, r => r
  | k + 1, r => sweep ws (sweeps ws k r)
def flags0 (n : Nat) : List Bool := (List.range n).map fun p => decide (p = 0)
def over (n : Nat) (ws : List Way) : List Bool := sweeps ws (n - 1) (flags0 n)

/-- reached from place 0 over ways of which P is true -/
inductive Rch (P : Way → Prop) : Nat → Prop
  | zero : Rch P 0
  | ab {w : Way} : P w → Rch P w.a → Rch P w.b
  | ba {w : Way} : P w → Rch P w.b → Rch P w.a
theorem Rch.mono {P Q : Way → Prop} (h : ∀ w, P w → Q w) {p : Nat} (x : Rch P p) : Rch Q p := by
  induction x with
  | zero => exact .zero
  | ab hw _ ih => exact .ab (h _ hw) ih
  | ba hw _ ih => exact .ba (h _ hw) ih
theorem Rch.lt {P : Way → Prop} {n : Nat} (h0 : 0 < n) (h : ∀ w, P w → w.a < n ∧ w.b < n) {p : Nat} (x : Rch P p) : p < n := by
  cases x with
  | zero => exact h0
  | ab hw _ => exact (h _ hw).2
  | ba hw _ => exact (h _ hw).1

theorem hop_length (r : List Bool) (w : Way) : (hop r w).length = r.length := by
  unfold hop; split <;> simp
theorem sweep_length : ∀ (ws : List Way) (r : List Bool), (sweep ws r).length = r.length
  | [], _ => rfl
  | w :: ws, r => by
    show (sweep ws (hop r w)).length = _
    rw [sweep_length ws, hop_length]
theorem sweeps_length (ws : List Way) : ∀ (k : Nat) (r : List Bool), (sweeps ws k r).length = r.length
  | 0, _ => rfl
  | k + 1, r => by
    show (sweep ws (sweeps ws k r)).length = _
    rw [sweep_length, sweeps_length ws k]
theorem over_length (n : Nat) (ws : List Way) : (over n ws).length = n := by
  unfold over flags0; rw [sweeps_length]; simp
/-- true stays true -/
theorem hop_mono {r : List Bool} {w : Way} {p : Nat} (h : r.getD p false = true) : (hop r w).getD p false = true := by
  unfold hop
  split
  · simp only [List.getD_eq_getElem?_getD, List.getElem?_set] at h ⊢
    by_cases c1 : w.b = p <;> by_cases c2 : w.a = p <;> simp_all <;> grind
  · exact h
theorem hop_at {r : List Bool} {w : Way} (ha : w.a < r.length) (hb : w.b < r.length) (h : (r.getD w.a false || r.getD w.b false) = true) : (hop r w).getD w.a false = true ∧ (hop r w).getD w.b false = true := by
  unfold hop
  rw [if_pos h]
  simp only [List.getD_eq_getElem?_getD, List.getElem?_set]
  constructor
  · by_cases c : w.b = w.a <;> simp_all
  · simp_all
theorem hop_sound {P : Way → Prop} {r : List Bool} {w : Way} (hw : P w) (h : ∀ p, r.getD p false = true → Rch P p) : ∀ p, (hop r w).getD p false = true → Rch P p := by
  intro p
  unfold hop
  split
  · rename_i c
    have e : Rch P w.a ∧ Rch P w.b := by
      rcases (Bool.or_eq_true _ _ ▸ c : _ ∨ _) with z | z
      · exact ⟨h _ z, .ab hw (h _ z)⟩
      · exact ⟨.ba hw (h _ z), h _ z⟩
    intro q
    by_cases c1 : w.b = p
    · exact c1 ▸ e.2
    by_cases c2 : w.a = p
    · exact c2 ▸ e.1
    · apply h
      simpa [List.getD_eq_getElem?_getD, List.getElem?_set, c1, c2] using q
  · exact h p
theorem sweep_mono : ∀ (ws : List Way) {r : List Bool} {p : Nat}, r.getD p false = true → (sweep ws r).getD p false = true
  | [], _, _, h => h
  | _ :: ws, _, _, h => sweep_mono ws (hop_mono h)
theorem sweep_sound {P : Way → Prop} : ∀ (ws : List Way) {r : List Bool}, (∀ w ∈ ws, P w) → (∀ p, r.getD p false = true → Rch P p) → ∀ p, (sweep ws r).getD p false = true → Rch P p
  | [], _, _, h => h
  | _ :: ws, _, hw, h => sweep_sound ws (fun v hv => hw v (List.mem_cons_of_mem _ hv)) (hop_sound (hw _ List.mem_cons_self) h)
theorem sweep_at : ∀ (ws : List Way) {r : List Bool} {w : Way}, w ∈ ws → w.a < r.length → w.b < r.length → (r.getD w.a false || r.getD w.b false) = true → (sweep ws r).getD w.a false = true ∧ (sweep ws r).getD w.b false = true
  | v :: ws, r, w, hw, ha, hb, h => by
    rcases List.mem_cons.mp hw with e | m
    · subst e
      have := hop_at ha hb h
      exact ⟨sweep_mono ws this.1, sweep_mono ws this.2⟩
    · refine sweep_at ws (r := hop r v) m (by rw [hop_length]; exact ha) (by rw [hop_length]; exact hb) ?_
      rw [Bool.or_eq_true] at h ⊢
      exact h.imp hop_mono hop_mono
/-- how many are true -/
def cnt (r : List Bool) : Nat := r.countP id
theorem cnt_le (r : List Bool) : cnt r ≤ r.length := List.countP_le_length
theorem cnt_mono : ∀ {r q : List Bool}, r.length = q.length → (∀ p, r.getD p false = true → q.getD p false = true) → cnt r ≤ cnt q ∧ (cnt r = cnt q → r = q)
  | [], [], _, _ => ⟨Nat.le_refl _, fun _ => rfl⟩
  | a :: r, b :: q, hl, h => by
    have ih := cnt_mono (r := r) (q := q) (by simpa using hl) (fun p hp => by simpa using h (p + 1) (by simpa using hp))
    have h0 : a = true → b = true := by simpa using h 0
    unfold cnt at *
    rw [List.countP_cons, List.countP_cons]
    cases a <;> cases b <;> simp_all <;> omega
theorem closed_or (ws : List Way) (r : List Bool) : ∀ k, sweep ws (sweeps ws k r) = sweeps ws k r ∨ k + cnt r ≤ cnt (sweeps ws k r)
  | 0 => .inr (by simp [sweeps])
  | k + 1 => by
    rcases closed_or ws r k with e | e
    · left
      show sweep ws (sweep ws (sweeps ws k r)) = sweep ws (sweeps ws k r)
      rw [e, e]
    · have m := cnt_mono (r := sweeps ws k r) (q := sweeps ws (k + 1) r) (by rw [sweeps_length, sweeps_length]) (fun p hp => sweep_mono ws hp)
      by_cases c : cnt (sweeps ws k r) = cnt (sweeps ws (k + 1) r)
      · left
        have := m.2 c
        show sweep ws (sweep ws (sweeps ws k r)) = sweep ws (sweeps ws k r)
        have e2 : sweep ws (sweeps ws k r) = sweeps ws k r := this.symm
        rw [e2, e2]
      · right
        have := m.1
        omega
theorem all_true : ∀ {r : List Bool}, r.length ≤ cnt r → ∀ p, p < r.length → r.getD p false = true
  | a :: r, h, p, hp => by
    have hr := cnt_le r
    unfold cnt at *
    rw [List.countP_cons] at h
    have ha : a = true := by
      cases a
      · simp at h; omega
      · rfl
    subst ha
    cases p with
    | zero => rfl
    | succ p =>
      have := all_true (r := r) (by unfold cnt; simpa using h) p (by simpa using hp)
      simpa using this
theorem flags0_at (n p : Nat) : (flags0 n).getD p false = decide (p = 0 ∧ p < n) := by
  unfold flags0
  by_cases h : p < n
  · simp [List.getD_eq_getElem?_getD, h]
  · simp [List.getD_eq_getElem?_getD, h]
theorem cnt_flags0 {n : Nat} (h : 0 < n) : 1 ≤ cnt (flags0 n) := by
  unfold cnt
  apply List.countP_pos_iff.mpr
  refine ⟨true, ?_, rfl⟩
  unfold flags0
  exact List.mem_map.mpr ⟨0, List.mem_range.mpr h, by simp⟩
theorem over_iff {n : Nat} {ws : List Way} (h0 : 0 < n) (hw : ∀ w ∈ ws, w.a < n ∧ w.b < n) (p : Nat) : (over n ws).getD p false = true ↔ Rch (· ∈ ws) p := by
  constructor
  · have all : ∀ k, ∀ p, (sweeps ws k (flags0 n)).getD p false = true → Rch (· ∈ ws) p := by
      intro k
      induction k with
      | zero =>
        intro p hp
        have hp' : (flags0 n).getD p false = true := hp
        rw [flags0_at] at hp'
        have := of_decide_eq_true hp'
        rw [this.1]; exact .zero
      | succ k ih => exact fun p => sweep_sound ws (fun _ h => h) ih p
    exact all _ p
  · have hlen := over_length n ws
    have closed : ∀ w ∈ ws, ((over n ws).getD w.a false || (over n ws).getD w.b false) = true → (over n ws).getD w.a false = true ∧ (over n ws).getD w.b false = true := by
      intro w hm hc
      rcases closed_or ws (flags0 n) (n - 1) with e | e
      · have := sweep_at ws (r := over n ws) hm (by rw [hlen]; exact (hw w hm).1) (by rw [hlen]; exact (hw w hm).2) hc
        have e' : sweep ws (over n ws) = over n ws := e
        rwa [e'] at this
      · have := cnt_flags0 h0
        have big : (over n ws).length ≤ cnt (over n ws) := by rw [hlen]; unfold over; omega
        exact ⟨all_true big _ (by rw [hlen]; exact (hw w hm).1), all_true big _ (by rw [hlen]; exact (hw w hm).2)⟩
    intro x
    induction x with
    | zero =>
      have mono : ∀ k, (sweeps ws k (flags0 n)).getD 0 false = true := by
        intro k
        induction k with
        | zero => show (flags0 n).getD 0 false = true; rw [flags0_at]; simpa using h0
        | succ k ih => exact sweep_mono ws ih
      exact mono _
    | ab hm _ ih => exact (closed _ hm (by rw [ih]; rfl)).2
    | ba hm _ ih => exact (closed _ hm (by rw [ih]; simp)).1

/-! ### the specification's reach -/
/-- ways that can be driven, the jobs of l being done -/
def Drv (s : Office) (l : List Nat) (w : Way) : Prop := ∃ k, s.ways[k]? = some w ∧ (w.work = 0 ∨ k ∈ l)
theorem mem_further {s : Office} {l r : List Nat} {p : Nat} : p ∈ s.further l r ↔ p < s.n ∧ (p ∈ r ∨ ∃ w, Drv s l w ∧ ((w.a = p ∧ w.b ∈ r) ∨ (w.b = p ∧ w.a ∈ r))) := by
  unfold Office.further Office.isOpen Drv
  simp only [List.mem_filter, List.mem_range, Bool.or_eq_true, List.contains_iff_mem, List.any_eq_true, Bool.and_eq_true, Option.any_eq_true, beq_iff_eq]
  constructor
  · rintro ⟨h1, h2 | ⟨k, hk, ⟨w, e1, h3⟩, w', e2, h4⟩⟩
    · exact ⟨h1, .inl h2⟩
    · rw [e1] at e2; cases e2
      exact ⟨h1, .inr ⟨w, ⟨k, e1, h3⟩, h4⟩⟩
  · rintro ⟨h1, h2 | ⟨w, ⟨k, e1, h3⟩, h4⟩⟩
    · exact ⟨h1, .inl h2⟩
    · exact ⟨h1, .inr ⟨k, (List.getElem?_eq_some_iff.mp e1).1, ⟨w, e1, h3⟩, w, e1, h4⟩⟩
/-- r is the numbers below n of which some test is true -/
def Flt (n : Nat) (r : List Nat) : Prop := ∃ f : Nat → Bool, r = (List.range n).filter f
theorem flt_len {n : Nat} {r q : List Nat} (hr : Flt n r) (hq : Flt n q) (h : ∀ p ∈ r, p ∈ q) : r.length ≤ q.length ∧ (r.length = q.length → r = q) := by
  obtain ⟨f, rfl⟩ := hr
  obtain ⟨g, rfl⟩ := hq
  have hfg : ∀ p ∈ List.range n, f p = true → g p = true := fun p hp e => (List.mem_filter.mp (h p (List.mem_filter.mpr ⟨hp, e⟩))).2
  generalize List.range n = l at hfg
  clear h
  induction l with
  | nil => simp
  | cons a l ih =>
    have ih' := ih (fun p hp => hfg p (List.mem_cons_of_mem _ hp))
    have ha := hfg a List.mem_cons_self
    rw [List.filter_cons, List.filter_cons]
    by_cases c1 : f a = true
    · rw [if_pos c1, if_pos (ha c1)]
      simp only [List.length_cons]
      refine ⟨by omega, fun e => ?_⟩
      rw [ih'.2 (by omega)]
    · rw [if_neg c1]
      by_cases c2 : g a = true
      · rw [if_pos c2]
        simp only [List.length_cons]
        exact ⟨by omega, fun e => by omega⟩
      · rw [if_neg c2]; exact ih'
theorem flt_lt {n : Nat} {r : List Nat} (hr : Flt n r) : ∀ p ∈ r, p < n := by
  obtain ⟨f, rfl⟩ := hr
  intro p hp
  exact List.mem_range.mp (List.mem_filter.mp hp).1
theorem flt_le {n : Nat} {r : List Nat} (hr : Flt n r) : r.length ≤ n := by
  obtain ⟨f, rfl⟩ := hr
  exact Nat.le_trans (List.length_filter_le _ _) (by simp)
theorem steps_ok (s : Office) (l : List Nat) : ∀ (f : Nat) (r : List Nat), Flt s.n r → s.n + 1 ≤ r.length + f →
    Flt s.n (s.steps l f r) ∧ (∀ p ∈ r, p ∈ s.steps l f r) ∧ s.further l (s.steps l f r) = s.steps l f r ∧ ((∀ p ∈ r, Rch (Drv s l) p) → ∀ p ∈ s.steps l f r, Rch (Drv s l) p)
  | 0, r, hr, hf => absurd (flt_le hr) (by omega)
  | f + 1, r, hr, hf => by
    unfold Office.steps
    have hq : Flt s.n (s.further l r) := ⟨_, rfl⟩
    have hsub : ∀ p ∈ r, p ∈ s.further l r := fun p hp => mem_further.mpr ⟨flt_lt hr p hp, .inl hp⟩
    by_cases c : s.further l r = r
    · simp only [c, if_true]
      exact ⟨hr, fun _ h => h, trivial, fun h => h⟩
    · simp only [c, if_false]
      have hl := flt_len hr hq hsub
      have hlt : r.length < (s.further l r).length := by
        rcases Nat.lt_or_ge r.length (s.further l r).length with z | z
        · exact z
        · exact absurd (hl.2 (by omega)).symm c
      obtain ⟨h1, h2, h3, h4⟩ := steps_ok s l f (s.further l r) hq (by omega)
      refine ⟨h1, fun p hp => h2 p (hsub p hp), h3, fun hh => h4 fun p hp => ?_⟩
      obtain ⟨_, h5 | ⟨w, hw, ⟨e, h6⟩ | ⟨e, h6⟩⟩⟩ := mem_further.mp hp
      · exact hh p h5
      · exact e ▸ .ba hw (hh _ h6)
      · exact e ▸ .ab hw (hh _ h6)
/-- what holds of every office: what the calls let in -/
structure Ok (s : Office) : Prop where
  n2 : 2 ≤ s.n
  n16 : s.n ≤ 16
  h1 : 1 ≤ s.hours
  h24 : s.hours ≤ 24
  fd : s.first ≤ 99999
  wl : s.ways.length ≤ 32
  wy : ∀ w ∈ s.ways, w.a < s.n ∧ w.b < s.n ∧ w.a ≠ w.b ∧ 1 ≤ w.minutes ∧ w.minutes ≤ 600 ∧ w.work ≤ 1000
  jl : s.jobs.length ≤ 10
  ol : s.woods.length ≤ 10
  wd : ∀ w ∈ s.woods, w.place < s.n ∧ w.kind < 16 ∧ w.cents ≤ 1000000000 ∧ w.work ≤ 1000 ∧ w.day ≤ 99999
  tb : ∀ t ∈ s.tables, 1 ≤ t.step ∧ t.step ≤ 100 ∧ t.row.length ≤ 24 ∧ ∀ x ∈ t.row, x ≤ 1000
  bt : ∀ b ∈ s.beetles, b.days ≤ 400 ∧ 1 ≤ b.gap ∧ b.gap ≤ 100
  bk : (s.beetles.map fun (b : Beetle) => b.kind).Nodup
  dj : ∀ j ∈ s.done, s.isJob j = true
  dn : s.done.Nodup
theorem Ok.n0 {s : Office} (h : Ok s) : 0 < s.n := by have := h.n2; omega
theorem drv_lt {s : Office} (h : Ok s) {l : List Nat} : ∀ w, Drv s l w → w.a < s.n ∧ w.b < s.n := fun w ⟨_, e, _⟩ =>
  have := h.wy w (List.mem_of_getElem? e)
  ⟨this.1, this.2.1⟩
theorem flt_zero {n : Nat} (h : 0 < n) : [0] = (List.range n).filter fun p => p == 0 := by
  cases n with
  | zero => omega
  | succ n =>
    rw [List.range_succ_eq_map]
    have : List.filter (fun p => p == 0) (List.map Nat.succ (List.range n)) = [] := by
      apply List.filter_eq_nil_iff.mpr
      intro a ha
      obtain ⟨b, _, rfl⟩ := List.mem_map.mp ha
      simp
    simp [List.filter_cons, this]
theorem flt_reach (s : Office) (l : List Nat) (ok : Ok s) : Flt s.n (s.reach l) ∧ ∀ p, p ∈ s.reach l ↔ Rch (Drv s l) p := by
  have h0 := ok.n0
  have h1 : (List.range s.n).take 1 = [0] := by
    cases hn : s.n with
    | zero => omega
    | succ n => rw [List.range_succ_eq_map]; rfl
  have hF : Flt s.n ((List.range s.n).take 1) := ⟨fun p => p == 0, by rw [h1]; exact flt_zero h0⟩
  obtain ⟨a1, a2, a3, a4⟩ := steps_ok s l s.n _ hF (by rw [h1]; simp; omega)
  refine ⟨a1, fun p => ⟨fun hp => a4 (fun q hq => ?_) p hp, fun x => ?_⟩⟩
  · rw [h1] at hq
    rw [List.mem_singleton.mp hq]
    exact .zero
  · induction x with
    | zero => exact a2 0 (by rw [h1]; simp)
    | @ab w hw _ ih =>
      have ih' : w.a ∈ s.steps l s.n ((List.range s.n).take 1) := ih
      show w.b ∈ s.steps l s.n ((List.range s.n).take 1)
      rw [← a3]
      exact mem_further.mpr ⟨(drv_lt ok w hw).2, .inr ⟨w, hw, .inr ⟨rfl, ih'⟩⟩⟩
    | @ba w hw _ ih =>
      have ih' : w.b ∈ s.steps l s.n ((List.range s.n).take 1) := ih
      show w.a ∈ s.steps l s.n ((List.range s.n).take 1)
      rw [← a3]
      exact mem_further.mpr ⟨(drv_lt ok w hw).1, .inr ⟨w, hw, .inl ⟨rfl, ih'⟩⟩⟩
theorem mem_reach {s : Office} {l : List Nat} (ok : Ok s) {p : Nat} : p ∈ s.reach l ↔ Rch (Drv s l) p := (flt_reach s l ok).2 p
theorem reach_ext {s : Office} (ok : Ok s) {l l' : List Nat} (h : ∀ p, Rch (Drv s l) p ↔ Rch (Drv s l') p) : s.reach l = s.reach l' := by
  have a := flt_reach s l ok
  have b := flt_reach s l' ok
  refine (flt_len a.1 b.1 fun p hp => (b.2 p).mpr ((h p).mp ((a.2 p).mp hp))).2 (Nat.le_antisymm ?_ ?_)
  · exact (flt_len a.1 b.1 fun p hp => (b.2 p).mpr ((h p).mp ((a.2 p).mp hp))).1
  · exact (flt_len b.1 a.1 fun p hp => (a.2 p).mpr ((h p).mpr ((b.2 p).mp hp))).1
theorem drv_congr {s : Office} {l l' : List Nat} (h : ∀ k, k ∈ l ↔ k ∈ l') (w : Way) : Drv s l w ↔ Drv s l' w := by
  unfold Drv
  simp only [h]
theorem reach_congr {s : Office} (ok : Ok s) {l l' : List Nat} (h : ∀ k, k ∈ l ↔ k ∈ l') : s.reach l = s.reach l' :=
  reach_ext ok fun _ => ⟨.mono fun w => (drv_congr h w).mp, .mono fun w => (drv_congr h w).mpr⟩
/-- the ways that can be driven, in order: as the program lists them -/
def drivable (s : Office) (l : List Nat) : List Way := (s.ways.zipIdx.filter fun x => x.1.work == 0 || l.contains x.2).map (·.1)
theorem mem_drivable {s : Office} {l : List Nat} {w : Way} : w ∈ drivable s l ↔ Drv s l w := by
  unfold drivable Drv
  simp only [List.mem_map, List.mem_filter, Bool.or_eq_true, beq_iff_eq, List.contains_iff_mem, Prod.exists, List.mem_zipIdx_iff_getElem?]
  constructor
  · rintro ⟨a, b, ⟨h1, h2⟩, rfl⟩
    exact ⟨b, h1, h2⟩
  · rintro ⟨k, h1, h2⟩
    exact ⟨w, k, ⟨h1, h2⟩, rfl⟩
/-- the flags of the places reached -/
theorem over_reach {s : Office} (ok : Ok s) {l : List Nat} (ws : List Way) (hw : ∀ w, w ∈ ws ↔ Drv s l w) (p : Nat) : (over s.n ws).getD p false = (s.reach l).contains p := by
  have h1 := over_iff (n := s.n) (ws := ws) ok.n0 (fun w hm => drv_lt ok w ((hw w).mp hm)) p
  have h2 := mem_reach ok (l := l) (p := p)
  have h3 : Rch (· ∈ ws) p ↔ Rch (Drv s l) p := ⟨.mono fun w => (hw w).mp, .mono fun w => (hw w).mpr⟩
  rw [Bool.eq_iff_iff, h1, h3, ← h2, List.contains_iff_mem]
theorem over_drv {s : Office} (ok : Ok s) (l : List Nat) (p : Nat) : (over s.n (drivable s l)).getD p false = (s.reach l).contains p := over_reach ok _ (fun _ => mem_drivable) p
/-- all ways -/
theorem over_all {s : Office} (ok : Ok s) (p : Nat) : (over s.n s.ways).getD p false = (s.reach s.jobs).contains p := by
  refine over_reach ok _ (fun w => ?_) p
  unfold Drv
  constructor
  · intro hm
    obtain ⟨k, e⟩ := List.mem_iff_getElem?.mp hm
    refine ⟨k, e, ?_⟩
    by_cases c : w.work = 0
    · exact .inl c
    · right
      unfold Office.jobs Office.isJob Office.isWay
      have : k < s.ways.length := (List.getElem?_eq_some_iff.mp e).1
      have := ok.wl
      refine List.mem_filter.mpr ⟨List.mem_range.mpr (by show k < 32 + 10; omega), ?_⟩
      rw [e]
      simp; omega
  · rintro ⟨k, e, _⟩
    exact List.mem_of_getElem? e
end Sc
end

section
set_option autoImplicit false
namespace Sc
open TimStorm

/-! ### jobs -/
theorem work_way {s : Office} {j : Nat} (h : j < 32) : s.work j = ((s.ways[j]?).map fun (w : Way) => w.work).getD 0 := by
  unfold Office.work WAYS; rw [if_pos h]
theorem work_wood {s : Office} {j : Nat} (h : ¬ j < 32) : s.work j = ((s.woods[j - 32]?).map fun (w : Wood) => w.work).getD 0 := by
  unfold Office.work WAYS; rw [if_neg h]
/-- is_job as the program asks it -/
theorem isJob_eq {s : Office} (ok : Ok s) (j : Nat) : s.isJob j = if j < 32 then ((s.ways[j]?).any fun w => decide (0 < w.work)) else decide (j - 32 < s.woods.length) := by
  unfold Office.isJob Office.isWay WAYS
  by_cases c : j < 32
  · rw [if_pos c]
    have : decide (32 ≤ j) = false := decide_eq_false (by omega)
    simp [this]
  · rw [if_neg c]
    have e : s.ways[j]? = none := List.getElem?_eq_none_iff.mpr (by have := ok.wl; omega)
    have : decide (32 ≤ j) = true := decide_eq_true (by omega)
    rw [e, this]
    by_cases h : j - 32 < s.woods.length
    · simp [h]
    · simp [h]
theorem job_lt {s : Office} (ok : Ok s) {j : Nat} (h : s.isJob j = true) : j < 42 := by
  rw [isJob_eq ok] at h
  by_cases c : j < 32
  · omega
  · rw [if_neg c] at h
    have := of_decide_eq_true h
    have := ok.ol
    omega
theorem mem_jobs {s : Office} (ok : Ok s) {j : Nat} : j ∈ s.jobs ↔ s.isJob j = true := by
  unfold Office.jobs WAYS JOBS
  rw [List.mem_filter, List.mem_range]
  exact ⟨fun h => h.2, fun h => ⟨job_lt ok h, h⟩⟩
theorem job_way {s : Office} (ok : Ok s) {j : Nat} (c : j < 32) (h : s.isJob j = true) : ∃ w, s.ways[j]? = some w ∧ 0 < w.work := by
  rw [isJob_eq ok, if_pos c] at h
  obtain ⟨w, e, h⟩ := Option.any_eq_true _ _ |>.mp h
  exact ⟨w, e, of_decide_eq_true h⟩
theorem job_wood {s : Office} (ok : Ok s) {j : Nat} (c : ¬ j < 32) (h : s.isJob j = true) : ∃ w, s.woods[j - 32]? = some w := by
  rw [isJob_eq ok, if_neg c] at h
  exact ⟨_, List.getElem?_eq_getElem (of_decide_eq_true h)⟩
theorem jobs_rise (s : Office) : s.jobs.Pairwise (· < ·) := List.Pairwise.filter _ List.pairwise_lt_range
theorem left_rise (s : Office) : s.left.Pairwise (· < ·) := List.Pairwise.filter _ (jobs_rise s)
theorem left_len {s : Office} (ok : Ok s) : s.left.length ≤ 10 := Nat.le_trans (List.length_filter_le _ _) ok.jl
theorem mem_left {s : Office} (ok : Ok s) {j : Nat} : j ∈ s.left ↔ s.isJob j = true ∧ j ∉ s.done ∧ s.at_ (s.reach s.jobs) j = true := by
  unfold Office.left
  rw [List.mem_filter, mem_jobs ok]
  simp
/-- the places of which one must be reached -/
def placesOf (s : Office) (j : Nat) : List Nat := if j < 32 then ((s.ways[j]?).map fun (w : Way) => [w.a, w.b]).getD [] else ((s.woods[j - 32]?).map fun (w : Wood) => [w.place]).getD []
theorem at_eq (s : Office) (r : List Nat) (j : Nat) : s.at_ r j = (placesOf s j).any fun p => r.contains p := by
  unfold Office.at_ placesOf WAYS
  by_cases c : j < 32
  · rw [if_pos c, if_pos c]
    cases s.ways[j]? <;> simp
  · rw [if_neg c, if_neg c]
    cases s.woods[j - 32]? <;> simp
theorem at_congr {s : Office} {r q : List Nat} (h : ∀ p, p ∈ r ↔ p ∈ q) (j : Nat) : s.at_ r j = s.at_ q j := by
  rw [at_eq, at_eq]
  have : (fun p => r.contains p) = fun p => q.contains p := by
    funext p
    rw [Bool.eq_iff_iff, List.contains_iff_mem, List.contains_iff_mem]
    exact h p
  rw [this]
theorem at_mono {s : Office} {r q : List Nat} (h : ∀ p, p ∈ r → p ∈ q) {j : Nat} (x : s.at_ r j = true) : s.at_ q j = true := by
  rw [at_eq, List.any_eq_true] at x ⊢
  obtain ⟨p, hp, e⟩ := x
  exact ⟨p, hp, List.contains_iff_mem.mpr (h p (List.contains_iff_mem.mp e))⟩

/-! ### hours -/
theorem total_append (l r : List Nat) : total (l ++ r) = total l + total r := by
  induction l with
  | nil => show total r = 0 + total r; omega
  | cons a l ih =>
    show a + total (l ++ r) = a + total l + total r
    omega
theorem spent_append (s : Office) (l r : List Nat) : s.spent (l ++ r) = s.spent l + s.spent r := by
  unfold Office.spent; rw [List.map_append, total_append]
theorem spent_cons (s : Office) (j : Nat) (l : List Nat) : s.spent (j :: l) = s.work j + s.spent l := rfl
theorem total_reverse : ∀ l : List Nat, total l.reverse = total l
  | [] => rfl
  | a :: l => by
    rw [List.reverse_cons, total_append, total_reverse l]
    show total l + (a + 0) = a + total l
    omega
theorem spent_reverse (s : Office) (l : List Nat) : s.spent l.reverse = s.spent l := by
  unfold Office.spent; rw [List.map_reverse, total_reverse]
theorem work_le {s : Office} (ok : Ok s) (j : Nat) : s.work j ≤ 1000 := by
  by_cases c : j < 32
  · rw [work_way c]
    cases e : s.ways[j]? with
    | none => simp
    | some w => exact (ok.wy w (List.mem_of_getElem? e)).2.2.2.2.2
  · rw [work_wood c]
    cases e : s.woods[j - 32]? with
    | none => simp
    | some w => exact (ok.wd w (List.mem_of_getElem? e)).2.2.2.1
theorem spent_le {s : Office} (ok : Ok s) : ∀ l : List Nat, s.spent l ≤ 1000 * l.length
  | [] => Nat.le_refl _
  | j :: l => by
    have := work_le ok j
    have := spent_le ok l
    rw [spent_cons, List.length_cons]; omega
/-- rows without a number twice, all jobs: at most ten -/
theorem sub_len {α : Type} [DecidableEq α] : ∀ (l r : List α), l.Nodup → (∀ x ∈ l, x ∈ r) → l.length ≤ r.length
  | [], _, _, _ => Nat.zero_le _
  | a :: l, r, hn, hs => by
    have hn' := List.nodup_cons.mp hn
    have ha := hs a List.mem_cons_self
    have := sub_len l (r.erase a) hn'.2 (fun x hx => (List.mem_erase_of_ne (by intro e; rw [e] at hx; exact hn'.1 hx)).mpr (hs x (List.mem_cons_of_mem _ hx)))
    rw [List.length_erase_of_mem ha] at this
    have := List.length_pos_of_mem ha
    rw [List.length_cons]; omega
theorem done_len {s : Office} (ok : Ok s) : s.done.length ≤ 10 := Nat.le_trans (sub_len _ _ ok.dn fun x hx => (mem_jobs ok).mpr (ok.dj x hx)) ok.jl

/-! ### sets of jobs -/
theorem mem_picked {l : List Nat} {m j : Nat} : j ∈ picked l m ↔ ∃ i, l[i]? = some j ∧ m.testBit i = true := by
  unfold picked
  simp only [List.mem_map, List.mem_filter, Prod.exists, List.mem_zipIdx_iff_getElem?]
  constructor
  · rintro ⟨a, b, ⟨h1, h2⟩, rfl⟩
    exact ⟨b, h1, h2⟩
  · rintro ⟨i, h1, h2⟩
    exact ⟨j, i, ⟨h1, h2⟩, rfl⟩
theorem mem_nexts {s : Office} {l : List Nat} {m i : Nat} : i ∈ s.nexts l m ↔ i < l.length ∧ m.testBit i = false ∧ s.at_ (s.reach (picked l m ++ s.done)) (l.getD i 0) = true := by
  unfold Office.nexts
  simp
theorem nexts_rise (s : Office) (l : List Nat) (m : Nat) : (s.nexts l m).Pairwise (· < ·) := List.Pairwise.filter _ List.pairwise_lt_range
/-- a set that isn't all has a job that isn't in it -/
theorem bit_free {k m : Nat} (h : m < 2 ^ k) (hf : m ≠ 2 ^ k - 1) : ∃ i, i < k ∧ m.testBit i = false := by
  by_cases c : ∃ i, i < k ∧ m.testBit i = false
  · exact c
  · exfalso
    apply hf
    apply Nat.eq_of_testBit_eq
    intro i
    rw [Nat.testBit_two_pow_sub_one]
    by_cases hi : i < k
    · rw [decide_eq_true hi]
      cases e : m.testBit i with
      | true => rfl
      | false => exact absurd ⟨i, hi, e⟩ c
    · rw [decide_eq_false hi]
      exact Nat.testBit_lt_two_pow (Nat.lt_of_lt_of_le h (Nat.pow_le_pow_right (by decide) (by omega)))
theorem or_bit : ∀ (i m : Nat), m.testBit i = false → m ||| 2 ^ i = m + 2 ^ i
  | 0, m, h => by
    have h1 : m % 2 = 0 := by
      rw [Nat.testBit_zero] at h
      have := of_decide_eq_false h
      omega
    have h2 : (m ||| 2 ^ 0) / 2 = m / 2 ||| (2 ^ 0) / 2 := Nat.or_div_two
    have h3 : (m ||| 2 ^ 0) % 2 = 1 := by
      have := Nat.testBit_or m (2 ^ 0) 0
      rw [Nat.testBit_zero, Nat.testBit_zero, Nat.testBit_zero] at this
      simpa using this
    have h4 : m / 2 ||| (2 ^ 0) / 2 = m / 2 := by simp
    have : (2 : Nat) ^ 0 = 1 := rfl
    omega
  | i + 1, m, h => by
    rw [Nat.testBit_succ] at h
    have ih := or_bit i (m / 2) h
    have h2 : (m ||| 2 ^ (i + 1)) / 2 = m / 2 ||| (2 ^ (i + 1)) / 2 := Nat.or_div_two
    have h3 : (2 : Nat) ^ (i + 1) / 2 = 2 ^ i := by rw [Nat.pow_succ]; omega
    have h5 : (m ||| 2 ^ (i + 1)) % 2 = m % 2 := by
      have := Nat.testBit_or m (2 ^ (i + 1)) 0
      rw [Nat.testBit_zero, Nat.testBit_zero, Nat.testBit_zero] at this
      have h6 : (2 : Nat) ^ (i + 1) % 2 = 0 := by rw [Nat.pow_succ]; omega
      rw [h6] at this
      rcases Nat.mod_two_eq_zero_or_one (m ||| 2 ^ (i + 1)) with a | a <;> rcases Nat.mod_two_eq_zero_or_one m with b | b <;> rw [a, b] at this ⊢ <;> simp at this
    rw [h3, ih] at h2
    have : (2 : Nat) ^ (i + 1) = 2 * 2 ^ i := by rw [Nat.pow_succ]; omega
    omega
theorem add_bit {k m i : Nat} (h : m < 2 ^ k) (hi : i < k) (hb : m.testBit i = false) : m + 2 ^ i < 2 ^ k := by
  rw [← or_bit i m hb]
  exact Nat.or_lt_two_pow h (Nat.pow_lt_pow_right (by decide) hi)
theorem bit_add {m i j : Nat} (hb : m.testBit i = false) : (m + 2 ^ i).testBit j = (m.testBit j || decide (i = j)) := by
  rw [← or_bit i m hb, Nat.testBit_or, Nat.testBit_two_pow]
theorem get_of_lt {l : List Nat} {i : Nat} (h : i < l.length) : l[i]? = some (l.getD i 0) := by
  rw [List.getD_eq_getElem?_getD, List.getElem?_eq_getElem h]; rfl
theorem nodup_at {l : List Nat} (hn : l.Nodup) {i k : Nat} {j : Nat} (h1 : l[i]? = some j) (h2 : l[k]? = some j) : i = k := by
  obtain ⟨a, e⟩ := List.getElem?_eq_some_iff.mp h1
  obtain ⟨b, e'⟩ := List.getElem?_eq_some_iff.mp h2
  exact (List.getElem_inj hn).mp (e.trans e'.symm)
theorem rise_nodup {l : List Nat} (h : l.Pairwise (· < ·)) : l.Nodup := h.imp fun h => by omega
theorem picked_add {l : List Nat} (hn : l.Nodup) {m i : Nat} (hi : i < l.length) (hb : m.testBit i = false) (j : Nat) : j ∈ picked l (m + 2 ^ i) ↔ j ∈ picked l m ∨ j = l.getD i 0 := by
  rw [mem_picked, mem_picked]
  constructor
  · rintro ⟨k, h1, h2⟩
    rw [bit_add hb, Bool.or_eq_true] at h2
    rcases h2 with h2 | h2
    · exact .inl ⟨k, h1, h2⟩
    · have := of_decide_eq_true h2
      subst this
      rw [get_of_lt hi] at h1
      exact .inr (Option.some.inj h1).symm
  · rintro (⟨k, h1, h2⟩ | rfl)
    · exact ⟨k, h1, by rw [bit_add hb, h2]; rfl⟩
    · exact ⟨i, get_of_lt hi, by rw [bit_add hb]; simp⟩

/-- of the jobs left one can always be done next -/
theorem nexts_ne {s : Office} (ok : Ok s) {m : Nat} (h : m < 2 ^ s.left.length) (hf : m ≠ 2 ^ s.left.length - 1) : s.nexts s.left m ≠ [] := by
  intro e
  have no : ∀ i, i < s.left.length → m.testBit i = false → s.at_ (s.reach (picked s.left m ++ s.done)) (s.left.getD i 0) = false := by
    intro i hi hb
    cases c : s.at_ (s.reach (picked s.left m ++ s.done)) (s.left.getD i 0) with
    | false => rfl
    | true =>
      have : i ∈ s.nexts s.left m := mem_nexts.mpr ⟨hi, hb, c⟩
      rw [e] at this
      cases this
  have grow : ∀ p, Rch (Drv s s.jobs) p → Rch (Drv s (picked s.left m ++ s.done)) p := by
    have key : ∀ w, Drv s s.jobs w → (Rch (Drv s s.jobs) w.a ∧ Rch (Drv s (picked s.left m ++ s.done)) w.a ∨ Rch (Drv s s.jobs) w.b ∧ Rch (Drv s (picked s.left m ++ s.done)) w.b) → Drv s (picked s.left m ++ s.done) w := by
      rintro w ⟨k, ek, _⟩ hr
      refine ⟨k, ek, ?_⟩
      by_cases c0 : w.work = 0
      · exact .inl c0
      right
      by_cases cd : k ∈ s.done
      · exact List.mem_append.mpr (.inr cd)
      have hk : k < 32 := Nat.lt_of_lt_of_le (List.getElem?_eq_some_iff.mp ek).1 ok.wl
      have hat : ∀ r : List Nat, (w.a ∈ r ∨ w.b ∈ r) → s.at_ r k = true := by
        intro r h
        unfold Office.at_ WAYS
        rw [if_pos hk, ek]
        simpa using h
      have hl : k ∈ s.left := by
        refine (mem_left ok).mpr ⟨?_, cd, hat _ ?_⟩
        · rw [isJob_eq ok, if_pos hk, ek]; simp; omega
        · rcases hr with h | h
          · exact .inl ((mem_reach ok).mpr h.1)
          · exact .inr ((mem_reach ok).mpr h.1)
      obtain ⟨i, hi⟩ := List.mem_iff_getElem?.mp hl
      have hil := (List.getElem?_eq_some_iff.mp hi).1
      cases cb : m.testBit i with
      | true => exact List.mem_append.mpr (.inl (mem_picked.mpr ⟨i, hi, cb⟩))
      | false =>
        have z := no i hil cb
        rw [get_of_lt hil] at hi
        rw [Option.some.inj hi] at z
        rw [hat _ (by
          rcases hr with h | h
          · exact .inl ((mem_reach ok).mpr h.2)
          · exact .inr ((mem_reach ok).mpr h.2))] at z
        cases z
    intro p x
    induction x with
    | zero => exact .zero
    | ab hw hx ih => exact .ab (key _ hw (.inl ⟨hx, ih⟩)) ih
    | ba hw hx ih => exact .ba (key _ hw (.inr ⟨hx, ih⟩)) ih
  obtain ⟨i, hi, hb⟩ := bit_free h hf
  have z := no i hi hb
  have hm : s.left.getD i 0 ∈ s.left := List.mem_of_getElem? (get_of_lt hi)
  have := at_mono (q := s.reach (picked s.left m ++ s.done)) (fun p hp => (mem_reach ok).mpr (grow p ((mem_reach ok).mp hp))) ((mem_left ok).mp hm).2.2
  rw [this] at z
  cases z
end Sc
end

section
set_option autoImplicit false
namespace Sc
open TimStorm

/-! ### an array that is pushed to: entry k from the entries before it -/
def pushes {α : Type} (f : Nat → Array α → α) (n : Nat) : Array α := (List.range n).foldl (fun t k => t.push (f k t)) #[]
theorem pushes_succ {α : Type} (f : Nat → Array α → α) (n : Nat) : pushes f (n + 1) = (pushes f n).push (f n (pushes f n)) := by
  unfold pushes; rw [List.range_succ, List.foldl_append]; rfl
theorem pushes_size {α : Type} (f : Nat → Array α → α) : ∀ n, (pushes f n).size = n
  | 0 => rfl
  | n + 1 => by rw [pushes_succ, Array.size_push, pushes_size f n]
theorem pushes_at {α : Type} (f : Nat → Array α → α) (d : α) : ∀ (n k : Nat), k < n → (pushes f n).getD k d = f k (pushes f k)
  | n + 1, k, h => by
    rw [pushes_succ]
    by_cases c : k = n
    · subst c
      rw [Array.getD_eq_getD_getElem?, Array.getElem?_push, if_pos (pushes_size f k).symm]; rfl
    · have := pushes_at f d n k (by omega)
      rw [Array.getD_eq_getD_getElem?] at this ⊢
      rw [Array.getElem?_push, if_neg (by rw [pushes_size]; omega)]
      exact this
/-- what stands at a place stays there -/
theorem pushes_stay {α : Type} (f : Nat → Array α → α) (d : α) {i k n : Nat} (h : i < k) (h' : k ≤ n) : (pushes f k).getD i d = (pushes f n).getD i d := by
  rw [pushes_at f d k i h, pushes_at f d n i (by omega)]
theorem pushes_list {α : Type} (f : Nat → Array α → α) (d : α) (n : Nat) : (pushes f n).toList = (List.range n).map fun k => (pushes f n).getD k d := by
  apply List.ext_getElem
  · simp [pushes_size]
  · intro i h1 h2
    simp at h1 h2
    simp [Array.getD_eq_getD_getElem?, h1]

/-! ### plans: less, else the first by numbers -/
theorem before_irrefl : ∀ l : List Nat, before l l = false
  | [] => rfl
  | a :: l => by simp [before, before_irrefl l]
theorem before_trans : ∀ {x y z : List Nat}, before x y = true → before y z = true → before x z = true
  | [], _ :: _, _ :: _, _, _ => rfl
  | [], [], _, h, _ => by cases h
  | _, _ :: _, [], _, h => by cases h
  | _ :: _, [], _, h, _ => by cases h
  | a :: x, b :: y, c :: z, h1, h2 => by
    simp only [before, Bool.or_eq_true, decide_eq_true_eq, Bool.and_eq_true, beq_iff_eq] at *
    rcases h1 with h1 | ⟨e1, h1⟩ <;> rcases h2 with h2 | ⟨e2, h2⟩
    · left; omega
    · left; omega
    · left; omega
    · right; exact ⟨e1.trans e2, before_trans h1 h2⟩
theorem before_total : ∀ {x y : List Nat}, before x y = false → x = y ∨ before y x = true
  | [], [], _ => .inl rfl
  | [], _ :: _, h => by cases h
  | _ :: _, [], _ => .inr rfl
  | a :: x, b :: y, h => by
    simp only [before, Bool.or_eq_false_iff, decide_eq_false_iff_not, Bool.and_eq_false_iff, beq_eq_false_iff_ne, Bool.or_eq_true, decide_eq_true_eq, Bool.and_eq_true, beq_iff_eq] at *
    obtain ⟨h1, h2⟩ := h
    by_cases e : a = b
    · subst e
      rcases h2 with h2 | h2
      · exact absurd rfl h2
      · rcases before_total h2 with z | z
        · exact .inl (by rw [z])
        · exact .inr (.inr ⟨rfl, z⟩)
    · exact .inr (.inl (by omega))
theorem lesser_irrefl (x : Plan) : lesser x x = false := by simp [lesser, before_irrefl]
theorem lesser_trans {x y z : Plan} (h1 : lesser x y = true) (h2 : lesser y z = true) : lesser x z = true := by
  simp only [lesser, Bool.or_eq_true, decide_eq_true_eq, Bool.and_eq_true, beq_iff_eq] at *
  rcases h1 with h1 | ⟨e1, h1⟩ <;> rcases h2 with h2 | ⟨e2, h2⟩
  · left; omega
  · left; omega
  · left; omega
  · right; exact ⟨e1.trans e2, before_trans h1 h2⟩
theorem lesser_total {x y : Plan} (h : lesser x y = false) : x = y ∨ lesser y x = true := by
  simp only [lesser, Bool.or_eq_false_iff, decide_eq_false_iff_not, Bool.and_eq_false_iff, beq_eq_false_iff_ne, Bool.or_eq_true, decide_eq_true_eq, Bool.and_eq_true, beq_iff_eq] at *
  obtain ⟨h1, h2⟩ := h
  by_cases e : x.1 = y.1
  · rcases h2 with h2 | h2
    · exact absurd e h2
    · rcases before_total h2 with z | z
      · exact .inl (Prod.ext e z)
      · exact .inr (.inr ⟨e.symm, z⟩)
  · exact .inr (.inl (by omega))
/-- a fold that keeps the lesser by a strict total order finds the least -/
theorem fold_least {α : Type} (lt : α → α → Bool) (tr : ∀ {x y z}, lt x y = true → lt y z = true → lt x z = true) (tot : ∀ {x y}, lt x y = false → x = y ∨ lt y x = true) (irr : ∀ x, lt x x = false) :
    ∀ (l : List α) (a : α), (l.foldl (fun b x => if lt x b = true then x else b) a ∈ a :: l) ∧ ∀ x ∈ a :: l, lt x (l.foldl (fun b x => if lt x b = true then x else b) a) = false
  | [], a => ⟨List.mem_cons_self, fun x hx => by
      rcases List.mem_cons.mp hx with e | m
      · rw [e]; exact irr a
      · cases m⟩
  | y :: l, a => by
    have ih := fold_least lt tr tot irr l (if lt y a = true then y else a)
    rw [List.foldl_cons]
    generalize hr : l.foldl (fun b x => if lt x b = true then x else b) (if lt y a = true then y else a) = r at ih ⊢
    obtain ⟨i1, i2⟩ := ih
    refine ⟨?_, fun x hx => ?_⟩
    · rcases List.mem_cons.mp i1 with e | m
      · rw [e]
        split
        · exact List.mem_cons_of_mem _ List.mem_cons_self
        · exact List.mem_cons_self
      · exact List.mem_cons_of_mem _ (List.mem_cons_of_mem _ m)
    · have hbase := i2 _ List.mem_cons_self
      rcases List.mem_cons.mp hx with e | m
      · subst e
        by_cases c : lt y x = true
        · rw [if_pos c] at hbase
          cases q : lt x r with
          | false => rfl
          | true => exact absurd (tr c q) (by rw [hbase]; decide)
        · rw [if_neg c] at hbase; exact hbase
      · rcases List.mem_cons.mp m with e | m
        · subst e
          by_cases c : lt x a = true
          · rw [if_pos c] at hbase; exact hbase
          · rw [if_neg c] at hbase
            have c' : lt x a = false := by simpa using c
            rcases tot c' with z | z
            · rw [z]; exact hbase
            · cases q : lt x r with
              | false => rfl
              | true => exact absurd (tr z q) (by rw [hbase]; decide)
        · exact i2 x (List.mem_cons_of_mem _ m)
theorem leastOf_ok {l : List Plan} (h : l ≠ []) : leastOf l ∈ l ∧ ∀ x ∈ l, lesser x (leastOf l) = false := by
  cases l with
  | nil => exact absurd rfl h
  | cons a l =>
    have := fold_least lesser lesser_trans lesser_total lesser_irrefl l a
    have e : leastOf (a :: l) = l.foldl (fun (b x : Plan) => if lesser x b = true then x else b) a := by
      unfold leastOf
      rw [List.foldl_cons]
      simp only [List.headD_cons, lesser_irrefl, Bool.false_eq_true, if_false]
    rw [e]
    exact this

/-! ### the plans by sets -/
/-- the least plan behind the set m -/
def P (s : Office) (l : List Nat) (m : Nat) : Plan := (s.plans l).getD (2 ^ l.length - 1 - m) (0, [])
theorem plans_pushes (s : Office) (l : List Nat) : s.plans l = pushes (fun k t => s.planAt l (2 ^ l.length - 1 - k) t) (2 ^ l.length) := rfl
/-- the i-th job's plan behind m -/
def viaP (s : Office) (l : List Nat) (m i : Nat) : Plan := (s.stepLoss l m i + (P s l (m + 2 ^ i)).1, l.getD i 0 :: (P s l (m + 2 ^ i)).2)
theorem P_eq (s : Office) (l : List Nat) {m : Nat} (h : m < 2 ^ l.length) : P s l m = leastOf ((s.nexts l m).map (viaP s l m)) := by
  unfold P
  rw [plans_pushes, pushes_at _ _ _ _ (by omega)]
  show leastOf _ = _
  have hm : 2 ^ l.length - 1 - (2 ^ l.length - 1 - m) = m := by omega
  rw [hm]
  congr 1
  apply List.map_congr_left
  intro i hi
  obtain ⟨h1, h2, _⟩ := mem_nexts.mp hi
  have h3 := add_bit h h1 h2
  have h4 : 0 < 2 ^ i := Nat.two_pow_pos i
  unfold viaP P
  rw [plans_pushes, pushes_stay _ _ (show 2 ^ l.length - 1 - (m + 2 ^ i) < 2 ^ l.length - 1 - m by omega) (show 2 ^ l.length - 1 - m ≤ 2 ^ l.length by omega)]
theorem nexts_full (s : Office) (l : List Nat) : s.nexts l (2 ^ l.length - 1) = [] := by
  apply List.eq_nil_iff_forall_not_mem.mpr
  intro i hi
  obtain ⟨h1, h2, _⟩ := mem_nexts.mp hi
  rw [Nat.testBit_two_pow_sub_one, decide_eq_true h1] at h2
  cases h2
theorem P_full (s : Office) (l : List Nat) : P s l (2 ^ l.length - 1) = (0, []) := by
  have : 0 < 2 ^ l.length := Nat.two_pow_pos _
  rw [P_eq s l (by omega), nexts_full]
  rfl

/-! ### the program's losses, set by set in place -/
def minL (l : List Nat) : Nat := l.min?.getD 0
theorem minL_ok {l : List Nat} (h : l ≠ []) : minL l ∈ l ∧ ∀ x ∈ l, minL l ≤ x := by
  unfold minL
  cases e : l.min? with
  | none => exact absurd (List.min?_eq_none_iff.mp e) h
  | some a => exact (List.min?_eq_some_iff).mp e
def lossStep (s : Office) (l : List Nat) (ls : List Nat) (m : Nat) : List Nat := ls.set m (minL ((s.nexts l m).map fun i => s.stepLoss l m i + ls.getD (m + 2 ^ i) 0))
/-- behind t turns: of the sets from the largest but one down -/
def lossRun (s : Office) (l : List Nat) : Nat → List Nat
  | 0 => List.replicate (2 ^ l.length) 0
  | t + 1 => lossStep s l (lossRun s l t) (2 ^ l.length - 2 - t)
def losses (s : Office) (l : List Nat) : List Nat := lossRun s l (2 ^ l.length - 1)
theorem lossRun_len (s : Office) (l : List Nat) : ∀ t, (lossRun s l t).length = 2 ^ l.length
  | 0 => by simp [lossRun]
  | t + 1 => by unfold lossRun lossStep; rw [List.length_set, lossRun_len s l t]
theorem lossRun_eq (s : Office) (l : List Nat) (ne : ∀ m, m < 2 ^ l.length → m ≠ 2 ^ l.length - 1 → s.nexts l m ≠ []) : ∀ (t : Nat), t ≤ 2 ^ l.length - 1 → ∀ m, 2 ^ l.length - 1 - t ≤ m → m < 2 ^ l.length → (lossRun s l t).getD m 0 = (P s l m).1
  | 0, _, m, h1, h2 => by
    have : m = 2 ^ l.length - 1 := by omega
    subst this
    rw [P_full]
    simp [lossRun, List.getD_eq_getElem?_getD, h2]
  | t + 1, ht, m, h1, h2 => by
    have ih := lossRun_eq s l ne t (by omega)
    unfold lossRun lossStep
    rw [List.getD_eq_getElem?_getD, List.getElem?_set]
    by_cases c : 2 ^ l.length - 2 - t = m
    · have e0 : (2 ^ l.length - 2 - t < (lossRun s l t).length) := by rw [lossRun_len]; omega
      rw [if_pos c, if_pos e0, Option.getD_some, c]
      have e : ((s.nexts l m).map fun i => s.stepLoss l m i + (lossRun s l t).getD (m + 2 ^ i) 0) = ((s.nexts l m).map (viaP s l m)).map (·.1) := by
        rw [List.map_map]
        apply List.map_congr_left
        intro i hi
        obtain ⟨g1, g2, _⟩ := mem_nexts.mp hi
        have g3 := add_bit h2 g1 g2
        have g4 : 0 < 2 ^ i := Nat.two_pow_pos i
        show _ = s.stepLoss l m i + (P s l (m + 2 ^ i)).1
        rw [ih _ (by omega) g3]
      rw [e, P_eq s l h2]
      have hne : (s.nexts l m).map (viaP s l m) ≠ [] := by
        intro z
        exact ne m h2 (by omega) (List.map_eq_nil_iff.mp z)
      generalize (s.nexts l m).map (viaP s l m) = q at hne
      obtain ⟨a1, a2⟩ := leastOf_ok hne
      obtain ⟨b1, b2⟩ := minL_ok (l := q.map (·.1)) (by simpa using hne)
      have c1 := b2 _ (List.mem_map.mpr ⟨_, a1, rfl⟩)
      obtain ⟨y, hy, ey⟩ := List.mem_map.mp b1
      have c2 := a2 y hy
      simp only [lesser, Bool.or_eq_false_iff, decide_eq_false_iff_not] at c2
      omega
    · rw [if_neg c, ← List.getD_eq_getElem?_getD]
      exact ih m (by omega) h2
/-- the losses are the specification's -/
theorem losses_eq {s : Office} (ok : Ok s) : losses s s.left = s.proof := by
  have h : ∀ m, m < 2 ^ s.left.length → (losses s s.left).getD m 0 = (P s s.left m).1 := fun m hm => lossRun_eq s s.left (fun _ a b => nexts_ne ok a b) _ (Nat.le_refl _) m (by omega) hm
  have hsz : (s.plans s.left).size = 2 ^ s.left.length := by rw [plans_pushes, pushes_size]
  have e : s.proof = (List.range (2 ^ s.left.length)).map fun m => (P s s.left m).1 := by
    unfold Office.proof
    apply List.ext_getElem
    · simp [hsz]
    · intro m h1 h2
      simp [hsz] at h1 h2
      simp [P, Array.getD_eq_getD_getElem?, hsz, show 2 ^ s.left.length - 1 - m < 2 ^ s.left.length by omega]
  rw [e]
  have hl : (losses s s.left).length = 2 ^ s.left.length := lossRun_len s s.left _
  apply List.ext_getElem
  · simp [hl]
  · intro m h1 h2
    rw [hl] at h1
    have := h m h1
    rw [List.getD_eq_getElem?_getD, List.getElem?_eq_getElem (by rw [hl]; exact h1), Option.getD_some] at this
    simp [this]
theorem losses_len (s : Office) (l : List Nat) : (losses s l).length = 2 ^ l.length := lossRun_len s l _
theorem losses_at {s : Office} (ok : Ok s) {m : Nat} (hm : m < 2 ^ s.left.length) : (losses s s.left).getD m 0 = (P s s.left m).1 :=
  lossRun_eq s s.left (fun _ a b => nexts_ne ok a b) _ (Nat.le_refl _) m (by omega) hm
theorem best_P (s : Office) : s.best = P s s.left 0 := rfl
end Sc
end

section
set_option autoImplicit false
namespace Sc
open TimStorm
/-! ### rising lists with the same numbers are one -/
theorem rise_ext : ∀ {l r : List Nat}, l.Pairwise (· < ·) → r.Pairwise (· < ·) → (∀ x, x ∈ l ↔ x ∈ r) → l = r
  | [], [], _, _, _ => rfl
  | [], b :: r, _, _, h => absurd ((h b).mpr List.mem_cons_self) (by simp)
  | a :: l, [], _, _, h => absurd ((h a).mp List.mem_cons_self) (by simp)
  | a :: l, b :: r, hl, hr, h => by
    have hl' := List.pairwise_cons.mp hl
    have hr' := List.pairwise_cons.mp hr
    have hab : a = b := by
      rcases List.mem_cons.mp ((h a).mp List.mem_cons_self) with e | m
      · exact e
      · rcases List.mem_cons.mp ((h b).mpr List.mem_cons_self) with e | m'
        · exact e.symm
        · have := hr'.1 a m
          have := hl'.1 b m'
          omega
    subst hab
    congr 1
    refine rise_ext hl'.2 hr'.2 fun x => ⟨fun hx => ?_, fun hx => ?_⟩
    · rcases List.mem_cons.mp ((h x).mp (List.mem_cons_of_mem _ hx)) with e | m
      · have := hl'.1 x hx
        omega
      · exact m
    · rcases List.mem_cons.mp ((h x).mpr (List.mem_cons_of_mem _ hx)) with e | m
      · have := hr'.1 x hx
        omega
      · exact m
/-- the places in a list at which something holds -/
def places {β : Type} (l : List β) (p : Nat → β → Bool) : List Nat := (l.zipIdx.filter fun z => p z.2 z.1).map (·.2)
theorem mem_places {β : Type} {l : List β} {p : Nat → β → Bool} {k : Nat} : k ∈ places l p ↔ ∃ b, l[k]? = some b ∧ p k b = true := by
  unfold places
  simp only [List.mem_map, List.mem_filter, Prod.exists, List.mem_zipIdx_iff_getElem?]
  constructor
  · rintro ⟨a, b, ⟨h1, h2⟩, rfl⟩
    exact ⟨a, h1, h2⟩
  · rintro ⟨b, h1, h2⟩
    exact ⟨b, k, ⟨h1, h2⟩, rfl⟩
theorem zipIdx_snd {β : Type} : ∀ (l : List β) (k : Nat), (l.zipIdx k).map (·.2) = List.range' k l.length
  | [], _ => rfl
  | a :: l, k => by rw [List.zipIdx_cons, List.map_cons, zipIdx_snd l (k + 1)]; rfl
theorem places_rise {β : Type} (l : List β) (p : Nat → β → Bool) : (places l p).Pairwise (· < ·) := by
  unfold places
  refine List.Pairwise.map _ (R := fun (a b : β × Nat) => a.2 < b.2) (fun _ _ h => h) (List.Pairwise.filter _ ?_)
  have h : ((l.zipIdx).map (·.2)).Pairwise (· < ·) := by
    rw [zipIdx_snd]
    exact List.pairwise_lt_range'
  exact List.pairwise_map.mp h
theorem jobs_list {s : Office} (ok : Ok s) : s.jobs = places s.ways (fun _ w => decide (0 < w.work)) ++ (List.range s.woods.length).map (32 + ·) := by
  apply rise_ext (jobs_rise s)
  · rw [List.pairwise_append]
    refine ⟨places_rise _ _, ?_, ?_⟩
    · exact List.Pairwise.map _ (fun a b h => by omega) List.pairwise_lt_range
    · intro a ha b hb
      obtain ⟨w, e, _⟩ := mem_places.mp ha
      obtain ⟨c, _, rfl⟩ := List.mem_map.mp hb
      have := (List.getElem?_eq_some_iff.mp e).1
      have := ok.wl
      omega
  · intro j
    rw [mem_jobs ok, isJob_eq ok, List.mem_append, mem_places, List.mem_map]
    by_cases c : j < 32
    · rw [if_pos c]
      constructor
      · intro h
        obtain ⟨w, e, h⟩ := Option.any_eq_true _ _ |>.mp h
        exact .inl ⟨w, e, h⟩
      · rintro (⟨w, e, h⟩ | ⟨a, _, h⟩)
        · rw [e]; exact h
        · omega
    · rw [if_neg c]
      constructor
      · intro h
        have := of_decide_eq_true h
        exact .inr ⟨j - 32, List.mem_range.mpr this, by omega⟩
      · rintro (⟨w, e, _⟩ | ⟨a, ha, h⟩)
        · have := (List.getElem?_eq_some_iff.mp e).1
          have := ok.wl
          omega
        · have := List.mem_range.mp ha
          exact decide_eq_true (by omega)
theorem shut_list {s : Office} : s.shut = places s.ways (fun k w => decide (0 < w.work) && !s.done.contains k) := by
  apply rise_ext (List.Pairwise.filter _ List.pairwise_lt_range) (places_rise _ _)
  intro k
  unfold Office.isWay
  rw [List.mem_filter, List.mem_range, mem_places]
  constructor
  · rintro ⟨h1, h2⟩
    rw [List.getElem?_eq_getElem h1] at h2 ⊢
    exact ⟨_, rfl, h2⟩
  · rintro ⟨w, e, h⟩
    refine ⟨(List.getElem?_eq_some_iff.mp e).1, ?_⟩
    rw [e]; exact h
/-! ### losses, one job more -/
theorem lossFrom_snoc (s : Office) : ∀ (l : List Nat) (h j : Nat), s.lossFrom h (l ++ [j]) = s.lossFrom h l + s.loses j (h + s.spent l + s.work j)
  | [], h, j => by
    show s.loses j (h + s.work j) + 0 = 0 + s.loses j (h + 0 + s.work j)
    rw [Nat.add_zero, Nat.add_zero, Nat.zero_add]
  | a :: l, h, j => by
    show s.loses a (h + s.work a) + s.lossFrom (h + s.work a) (l ++ [j]) = s.loses a (h + s.work a) + s.lossFrom (h + s.work a) l + s.loses j (h + (s.work a + s.spent l) + s.work j)
    rw [lossFrom_snoc s l]
    have : h + s.work a + s.spent l + s.work j = h + (s.work a + s.spent l) + s.work j := by omega
    rw [this]
    omega
theorem take_snoc {α : Type} {l : List α} {i : Nat} {x : α} (h : l[i]? = some x) : l.take (i + 1) = l.take i ++ [x] := by
  rw [List.take_add_one, h]; rfl
theorem share_le {s : Office} (ok : Ok s) (k a : Nat) : s.share k a ≤ 1000 := by
  unfold Office.share
  cases e : s.tableOf k with
  | none => exact Nat.zero_le _
  | some t =>
    have hm := List.mem_of_find?_eq_some e
    have h := (ok.tb t hm).2.2.2
    show t.row.getD _ 0 ≤ 1000
    rw [List.getD_eq_getElem?_getD]
    cases e2 : t.row[min (a / t.step) (t.row.length - 1)]? with
    | none => simp
    | some x => exact h x (List.mem_of_getElem? e2)
end Sc
end

section
set_option autoImplicit false
namespace Sc
open TimStorm
/-! ### reached places as flags -/
def rf (n : Nat) (r : List Nat) : List Bool := (List.range n).map fun p => r.contains p
theorem rf_len (n : Nat) (r : List Nat) : (rf n r).length = n := by simp [rf]
theorem rf_at {n : Nat} {r : List Nat} {p : Nat} (h : p < n) : (rf n r)[p]? = some (r.contains p) := by simp [rf, h]
theorem over_rf {n : Nat} {ws : List Way} {r : List Nat} (h : ∀ p, p < n → (over n ws).getD p false = r.contains p) : over n ws = rf n r := by
  apply List.ext_getElem
  · rw [over_length, rf_len]
  · intro i h1 h2
    rw [over_length] at h1
    have := h i h1
    rw [List.getD_eq_getElem?_getD, List.getElem?_eq_getElem (by rw [over_length]; exact h1), Option.getD_some] at this
    rw [this]
    simp [rf]
theorem over_drv_rf {s : Office} (ok : Ok s) (l : List Nat) : over s.n (drivable s l) = rf s.n (s.reach l) := over_rf fun p _ => over_drv ok l p
theorem over_all_rf {s : Office} (ok : Ok s) : over s.n s.ways = rf s.n (s.reach s.jobs) := over_rf fun p _ => over_all ok p
theorem rf_congr {n : Nat} {r q : List Nat} (h : ∀ p, p ∈ r ↔ p ∈ q) : rf n r = rf n q := by
  unfold rf
  apply List.map_congr_left
  intro p _
  rw [Bool.eq_iff_iff, List.contains_iff_mem, List.contains_iff_mem]
  exact h p
/-- all ways but one -/
def others (s : Office) (k : Nat) : List Way := (s.ways.zipIdx.filter fun z => !decide (z.2 = k)).map (·.1)
theorem mem_others {s : Office} {k : Nat} {w : Way} : w ∈ others s k ↔ ∃ i, s.ways[i]? = some w ∧ i ≠ k := by
  unfold others
  simp only [List.mem_map, List.mem_filter, Prod.exists, List.mem_zipIdx_iff_getElem?]
  constructor
  · rintro ⟨a, b, ⟨h1, h2⟩, rfl⟩
    exact ⟨b, h1, by simpa using h2⟩
  · rintro ⟨i, h1, h2⟩
    exact ⟨w, i, ⟨h1, by simpa using h2⟩, rfl⟩
theorem mem_shut {s : Office} {k : Nat} : k ∈ s.shut ↔ ∃ w, s.ways[k]? = some w ∧ 0 < w.work ∧ k ∉ s.done := by
  rw [shut_list, mem_places]
  constructor
  · rintro ⟨w, e, h⟩
    rw [Bool.and_eq_true, decide_eq_true_eq, Bool.not_eq_true'] at h
    exact ⟨w, e, h.1, by simpa using h.2⟩
  · rintro ⟨w, e, h1, h2⟩
    exact ⟨w, e, by simp [h1, h2]⟩
theorem over_others {s : Office} (ok : Ok s) {k : Nat} (hk : k ∈ s.shut) : over s.n (others s k) = rf s.n (s.reach (s.shut.filter (fun q => q != k) ++ s.done)) := by
  obtain ⟨w0, e0, hw0, hd0⟩ := mem_shut.mp hk
  refine over_rf fun p _ => over_reach ok _ (fun w => ?_) p
  rw [mem_others]
  unfold Drv
  constructor
  · rintro ⟨i, h1, h2⟩
    refine ⟨i, h1, ?_⟩
    by_cases c : w.work = 0
    · exact .inl c
    · right
      rw [List.mem_append]
      by_cases d : i ∈ s.done
      · exact .inr d
      · left
        rw [List.mem_filter]
        exact ⟨mem_shut.mpr ⟨w, h1, by omega, d⟩, by simpa using h2⟩
  · rintro ⟨i, h1, h2⟩
    refine ⟨i, h1, ?_⟩
    rintro rfl
    rw [e0] at h1
    obtain rfl := Option.some.inj h1
    rcases h2 with h2 | h2
    · omega
    · rcases List.mem_append.mp h2 with m | m
      · have := (List.mem_filter.mp m).2
        simp at this
      · exact hd0 m
theorem must_eq {s : Office} (p : Nat) : s.must p = s.shut.filter fun k => !(s.reach (s.shut.filter (fun q => q != k) ++ s.done)).contains p := by
  unfold Office.must Office.reaches
  apply List.filter_congr
  intro k _
  simp
/-- the refusal of a job, 0 if there's none -/
def hind (s : Office) (l : List Nat) (j : Nat) : Nat := if s.isJob j = false then 3 else if l.contains j = true then 8 else if s.at_ (s.reach l) j = false then 4 else 0
theorem hind_congr {s : Office} (ok : Ok s) {l l' : List Nat} (h : ∀ k, k ∈ l ↔ k ∈ l') (j : Nat) : hind s l j = hind s l' j := by
  unfold hind
  rw [reach_congr ok h]
  have : l.contains j = l'.contains j := by rw [Bool.eq_iff_iff, List.contains_iff_mem, List.contains_iff_mem]; exact h j
  rw [this]
theorem hind_can {s : Office} (l : List Nat) (j : Nat) : hind s l j = 0 ↔ s.can l j = true := by
  unfold hind Office.can
  cases s.isJob j <;> cases l.contains j <;> cases s.at_ (s.reach l) j <;> simp
theorem places_lt {s : Office} (ok : Ok s) {j p : Nat} (h : p ∈ placesOf s j) : p < s.n := by
  unfold placesOf at h
  by_cases c : j < 32
  · rw [if_pos c] at h
    cases e : s.ways[j]? with
    | none => rw [e] at h; simp at h
    | some w =>
      rw [e] at h
      have := ok.wy w (List.mem_of_getElem? e)
      simp at h
      rcases h with h | h
      · rw [h]; exact this.1
      · rw [h]; exact this.2.1
  · rw [if_neg c] at h
    cases e : s.woods[j - 32]? with
    | none => rw [e] at h; simp at h
    | some w =>
      rw [e] at h
      have := ok.wd w (List.mem_of_getElem? e)
      simp at h
      rw [h]; exact this.1
theorem reach_lt {s : Office} (ok : Ok s) {l : List Nat} {p : Nat} (h : p ∈ s.reach l) : p < s.n := flt_lt (flt_reach s l ok).1 p h
/-- the day on which the i-th job ends behind a set, with so many hours a day -/
def dayAt (s : Office) (hd : Nat) (l : List Nat) (m i : Nat) : Nat := s.first + (s.spent s.done + (s.spent (picked l m) + s.work (l.getD i 0)) - 1) / hd
theorem stepLoss_eq (s : Office) (l : List Nat) (m i : Nat) : s.stepLoss l m i = s.loses (l.getD i 0) (s.spent s.done + (s.spent (picked l m) + s.work (l.getD i 0))) := rfl
/-- the office as it were with other hours -/
def wh (s : Office) (hd : Nat) : Office := { s with hours := hd }
theorem at_wh (s : Office) (hd : Nat) (r : List Nat) (j : Nat) : (wh s hd).at_ r j = s.at_ r j := rfl
theorem steps_wh (s : Office) (hd : Nat) (l : List Nat) : ∀ (f : Nat) (r : List Nat), (wh s hd).steps l f r = s.steps l f r
  | 0, _ => rfl
  | f + 1, r => by
    show (if s.further l r = r then r else (wh s hd).steps l f (s.further l r)) = if s.further l r = r then r else s.steps l f (s.further l r)
    rw [steps_wh s hd l f]
theorem reach_wh (s : Office) (hd : Nat) (l : List Nat) : (wh s hd).reach l = s.reach l := steps_wh s hd l _ _
theorem left_wh (s : Office) (hd : Nat) : (wh s hd).left = s.left := by
  show s.jobs.filter (fun j => !s.done.contains j && s.at_ ((wh s hd).reach s.jobs) j) = _
  rw [reach_wh]
  rfl
theorem nexts_wh (s : Office) (hd : Nat) (l : List Nat) (m : Nat) : (wh s hd).nexts l m = s.nexts l m := by
  show (List.range l.length).filter (fun i => !m.testBit i && s.at_ ((wh s hd).reach (picked l m ++ s.done)) (l.getD i 0)) = _
  rw [reach_wh]
  rfl
theorem stepLoss_wh (s : Office) (hd : Nat) (l : List Nat) (m i : Nat) : (wh s hd).stepLoss l m i = (wh s hd).loses (l.getD i 0) (s.spent s.done + (s.spent (picked l m) + s.work (l.getD i 0))) := rfl
theorem Ok.wh {s : Office} (ok : Ok s) {hd : Nat} (h1 : 1 ≤ hd) (h2 : hd ≤ 24) : Ok (wh s hd) :=
  ⟨ok.n2, ok.n16, h1, h2, ok.fd, ok.wl, ok.wy, ok.jl, ok.ol, ok.wd, ok.tb, ok.bt, ok.bk, ok.dj, ok.dn⟩
end Sc
end

section
set_option autoImplicit false
namespace Sc
open TimStorm
/-! ### the best order, job by job -/
/-- how many of the first k aren't in a set -/
def free (k m : Nat) : Nat := (List.range k).countP fun i => !m.testBit i
theorem countP_drop {l : List Nat} {p q : Nat → Bool} {i : Nat} (hn : l.Nodup) (hi : i ∈ l) (hp : p i = true) (h : ∀ j, q j = (p j && !decide (i = j))) : l.countP q + 1 = l.countP p := by
  induction l with
  | nil => cases hi
  | cons a l ih =>
    have hn' := List.nodup_cons.mp hn
    rw [List.countP_cons, List.countP_cons, h a]
    rcases List.mem_cons.mp hi with e | m
    · subst e
      have : l.countP q = l.countP p := by
        apply List.countP_congr
        intro j hj
        have hne : i ≠ j := by
          rintro rfl
          exact hn'.1 hj
        rw [h j]
        simp [hne]
      simp [hp, this]
    · have hne : i ≠ a := by
        rintro rfl
        exact hn'.1 m
      have := ih hn'.2 m
      simp [hne]
      omega
theorem free_add {k m i : Nat} (hi : i < k) (hb : m.testBit i = false) : free k (m + 2 ^ i) + 1 = free k m := by
  unfold free
  refine countP_drop List.nodup_range (List.mem_range.mpr hi) (by rw [hb]; rfl) fun j => ?_
  rw [bit_add hb, Bool.not_or]
theorem free_zero (k : Nat) : free k 0 = k := by
  unfold free
  rw [List.countP_eq_length.mpr (fun a _ => by simp)]
  exact List.length_range
theorem free_full {k m : Nat} (h : m < 2 ^ k) (h0 : free k m = 0) : m = 2 ^ k - 1 := by
  by_cases c : m = 2 ^ k - 1
  · exact c
  · obtain ⟨i, hi, hb⟩ := bit_free h c
    unfold free at h0
    rw [List.countP_eq_zero] at h0
    exact absurd (by rw [hb]; rfl) (h0 i (List.mem_range.mpr hi))
/-- how the first best job is counted -/
def firstBest (s : Office) (l : List Nat) (m : Nat) : Nat := ((s.nexts l m).filter fun i => decide (s.stepLoss l m i + (P s l (m + 2 ^ i)).1 = (P s l m).1)).headD 0
theorem headD_mem {l : List Nat} (h : l ≠ []) : l.headD 0 ∈ l := by
  cases l with
  | nil => exact absurd rfl h
  | cons a l => exact List.mem_cons_self
theorem headD_le {l : List Nat} (h : l.Pairwise (· < ·)) {i : Nat} (hi : i ∈ l) : l.headD 0 ≤ i := by
  cases l with
  | nil => cases hi
  | cons a l =>
    rcases List.mem_cons.mp hi with e | m
    · rw [e]; exact Nat.le_refl _
    · exact Nat.le_of_lt ((List.pairwise_cons.mp h).1 i m)
theorem getD_rise {l : List Nat} (h : l.Pairwise (· < ·)) {i j : Nat} (hj : j < l.length) (hij : i < j) : l.getD i 0 < l.getD j 0 := by
  have hi : i < l.length := by omega
  have := List.pairwise_iff_getElem.mp h i j hi hj hij
  simpa [List.getD_eq_getElem?_getD, hi, hj] using this
theorem best_ne {s : Office} {l : List Nat} {m : Nat} (h : m < 2 ^ l.length) (hne : s.nexts l m ≠ []) :
    ((s.nexts l m).filter fun i => decide (s.stepLoss l m i + (P s l (m + 2 ^ i)).1 = (P s l m).1)) ≠ [] := by
  obtain ⟨h1, _⟩ := leastOf_ok (l := (s.nexts l m).map (viaP s l m)) (by simpa using hne)
  rw [← P_eq s l h] at h1
  obtain ⟨i, hi, e⟩ := List.mem_map.mp h1
  intro z
  have : i ∈ (s.nexts l m).filter fun i => decide (s.stepLoss l m i + (P s l (m + 2 ^ i)).1 = (P s l m).1) := by
    rw [List.mem_filter]
    refine ⟨hi, decide_eq_true ?_⟩
    rw [← e]
    rfl
  rw [z] at this
  cases this
theorem P_first {s : Office} {l : List Nat} (hl : l.Pairwise (· < ·)) {m : Nat} (h : m < 2 ^ l.length) (hne : s.nexts l m ≠ []) : firstBest s l m ∈ s.nexts l m ∧ P s l m = viaP s l m (firstBest s l m) := by
  have hb := best_ne h hne
  have hm := headD_mem hb
  have hm' := List.mem_filter.mp hm
  refine ⟨hm'.1, ?_⟩
  obtain ⟨h1, h2⟩ := leastOf_ok (l := (s.nexts l m).map (viaP s l m)) (by simpa using hne)
  rw [← P_eq s l h] at h1 h2
  obtain ⟨i, hi, e⟩ := List.mem_map.mp h1
  have hif : i ∈ (s.nexts l m).filter fun i => decide (s.stepLoss l m i + (P s l (m + 2 ^ i)).1 = (P s l m).1) := by
    rw [List.mem_filter]
    refine ⟨hi, decide_eq_true ?_⟩
    rw [← e]
    rfl
  have hle : firstBest s l m ≤ i := headD_le (List.Pairwise.filter _ (nexts_rise s l m)) hif
  by_cases c : firstBest s l m = i
  · rw [c, e]
  · exfalso
    have hlt : firstBest s l m < i := by omega
    have hil := (mem_nexts.mp hi).1
    have := h2 (viaP s l m (firstBest s l m)) (List.mem_map.mpr ⟨_, hm'.1, rfl⟩)
    have hc : (viaP s l m (firstBest s l m)).1 = (P s l m).1 := of_decide_eq_true hm'.2
    have : lesser (viaP s l m (firstBest s l m)) (P s l m) = true := by
      unfold lesser
      rw [hc]
      rw [← e]
      have hr := getD_rise hl hil hlt
      simp only [viaP, before, Bool.or_eq_true, decide_eq_true_eq, Bool.and_eq_true, beq_iff_eq]
      right
      exact ⟨trivial, .inl hr⟩
    simp_all
/-- the program's turns: the set, the jobs -/
def goB (s : Office) (l : List Nat) : Nat → Nat × List Nat
  | 0 => (0, [])
  | t + 1 => ((goB s l t).1 + 2 ^ firstBest s l (goB s l t).1, (goB s l t).2 ++ [l.getD (firstBest s l (goB s l t).1) 0])
theorem goB_ok {s : Office} (ok : Ok s) : ∀ t, t ≤ s.left.length → (goB s s.left t).1 < 2 ^ s.left.length ∧ free s.left.length (goB s s.left t).1 + t = s.left.length ∧ (P s s.left 0).2 = (goB s s.left t).2 ++ (P s s.left (goB s s.left t).1).2
  | 0, _ => ⟨Nat.two_pow_pos _, by rw [show (goB s s.left 0).1 = 0 from rfl, free_zero]; rfl, rfl⟩
  | t + 1, ht => by
    obtain ⟨h1, h2, h3⟩ := goB_ok ok t (by omega)
    have hnf : (goB s s.left t).1 ≠ 2 ^ s.left.length - 1 := by
      intro z
      have : free s.left.length (goB s s.left t).1 = 0 := by
        rw [z]
        unfold free
        rw [List.countP_eq_zero]
        intro a ha
        rw [Nat.testBit_two_pow_sub_one, decide_eq_true (List.mem_range.mp ha)]
        decide
      omega
    obtain ⟨h4, h5⟩ := P_first (left_rise s) h1 (nexts_ne ok h1 hnf)
    obtain ⟨g1, g2, _⟩ := mem_nexts.mp h4
    refine ⟨add_bit h1 g1 g2, ?_, ?_⟩
    · have := free_add g1 g2
      show free s.left.length ((goB s s.left t).1 + 2 ^ firstBest s s.left (goB s s.left t).1) + (t + 1) = _
      omega
    · rw [h3, h5]
      show _ = ((goB s s.left t).2 ++ [_]) ++ _
      rw [List.append_assoc]
      rfl
theorem goB_step {s : Office} (ok : Ok s) {t : Nat} (ht : t < s.left.length) : s.nexts s.left (goB s s.left t).1 ≠ [] := by
  obtain ⟨h1, h2, _⟩ := goB_ok ok t (by omega)
  refine nexts_ne ok h1 fun z => ?_
  have : free s.left.length (goB s s.left t).1 = 0 := by
    rw [z]
    unfold free
    rw [List.countP_eq_zero]
    intro a ha
    rw [Nat.testBit_two_pow_sub_one, decide_eq_true (List.mem_range.mp ha)]
    decide
  omega
theorem goB_end {s : Office} (ok : Ok s) : (goB s s.left s.left.length).2 = s.best.2 := by
  obtain ⟨h1, h2, h3⟩ := goB_ok ok s.left.length (Nat.le_refl _)
  have := free_full h1 (by omega)
  rw [this, P_full, List.append_nil] at h3
  exact h3.symm
theorem best_1 {s : Office} (ok : Ok s) : (losses s s.left).getD 0 0 = s.best.1 := losses_at ok (Nat.two_pow_pos _)
/-! ### jobs tried -/
def triedNums (s : Office) (l : List Nat) : List Int := match WrtistSpec.stops s 0 s.done l with
  | some x => [1, (x.1 : Int), (x.2 : Int)]
  | none => [0, (s.lossFrom (s.spent s.done) l : Int), (s.dayOf (s.spent s.done + s.spent l) : Int)]
theorem stops_step {s : Office} {i j : Nat} {had l : List Nat} : WrtistSpec.stops s i had (j :: l) = if hind s had j = 0 then WrtistSpec.stops s (i + 1) (j :: had) l else some (i, hind s had j) := by
  show (if s.isJob j = false then some (i, 3) else if had.contains j = true then some (i, 8) else if s.at_ (s.reach had) j = false then some (i, 4) else WrtistSpec.stops s (i + 1) (j :: had) l) = _
  unfold hind
  cases s.isJob j <;> cases had.contains j <;> cases s.at_ (s.reach had) j <;> simp
end Sc
end

section
set_option autoImplicit false
namespace Sc
open TimStorm
/-! ### sets of ways -/
def allSets (l : List Nat) : List (List Nat) := l.foldl (fun ss n => ss ++ ss.map (· ++ [n])) [[]]
theorem allSets_snoc (l : List Nat) (n : Nat) : allSets (l ++ [n]) = allSets l ++ (allSets l).map (· ++ [n]) := by
  unfold allSets
  rw [List.foldl_append]
  rfl
theorem allSets_len (l : List Nat) : (allSets l).length = 2 ^ l.length := by
  suffices h : ∀ (l : List Nat) (ss : List (List Nat)), (l.foldl (fun ss n => ss ++ ss.map (· ++ [n])) ss).length = ss.length * 2 ^ l.length by
    have := h l [[]]
    unfold allSets
    rw [this]
    simp
  intro l
  induction l with
  | nil => intro ss; simp
  | cons a l ih =>
    intro ss
    rw [List.foldl_cons, ih, List.length_append, List.length_map, List.length_cons, Nat.pow_succ, ← Nat.two_mul, Nat.mul_comm 2, Nat.mul_assoc, Nat.mul_comm 2]
theorem mem_sets : ∀ {l x : List Nat}, x ∈ sets l ↔ x.Sublist l
  | [], x => by
    unfold sets
    rw [List.mem_singleton, List.sublist_nil]
  | a :: l, x => by
    unfold sets
    rw [List.mem_append, List.mem_map, List.sublist_cons_iff]
    constructor
    · rintro (⟨y, h, rfl⟩ | h)
      · exact .inr ⟨y, rfl, mem_sets.mp h⟩
      · exact .inl (mem_sets.mp h)
    · rintro (h | ⟨y, rfl, h⟩)
      · exact .inr (mem_sets.mpr h)
      · exact .inl ⟨y, mem_sets.mpr h, rfl⟩
theorem mem_allSets {l x : List Nat} : x ∈ allSets l ↔ x.Sublist l := by
  suffices h : ∀ (r : List Nat) (x : List Nat), x ∈ allSets r.reverse ↔ x.Sublist r.reverse by
    have := h l.reverse x
    rwa [List.reverse_reverse] at this
  intro r
  induction r with
  | nil =>
    intro x
    show x ∈ [[]] ↔ _
    rw [List.mem_singleton]
    exact List.sublist_nil.symm
  | cons a r ih =>
    intro x
    rw [List.reverse_cons, allSets_snoc, List.mem_append, List.mem_map, List.sublist_append_iff]
    constructor
    · rintro (h | ⟨y, h, rfl⟩)
      · exact ⟨x, [], (List.append_nil x).symm, (ih x).mp h, List.nil_sublist _⟩
      · exact ⟨y, [a], rfl, (ih y).mp h, List.Sublist.refl _⟩
    · rintro ⟨y, z, rfl, h1, h2⟩
      rcases List.sublist_cons_iff.mp h2 with h3 | ⟨w, rfl, h3⟩
      · rw [List.sublist_nil.mp h3, List.append_nil]
        exact .inl ((ih y).mpr h1)
      · rw [List.sublist_nil.mp h3]
        exact .inr ⟨y, (ih y).mpr h1, rfl⟩
/-! ### the first of the least, by rows -/
def key (s : Office) (x : List Nat) : List Nat := s.spent x :: x.length :: x
theorem key_inj {s : Office} {x y : List Nat} (h : key s x = key s y) : x = y := by
  unfold key at h
  injection h with _ h
  injection h
/-- the fold that keeps the lesser, from none -/
def optLeast {α : Type} (lt : α → α → Bool) (l : List α) : Option α := l.foldl (fun (b : Option α) (x : α) => match b with
  | none => some x
  | some y => if lt x y = true then some x else some y) none
def keep {α : Type} (lt : α → α → Bool) (a : α) (l : List α) : α := l.foldl (fun b x => if lt x b = true then x else b) a
theorem optLeast_cons {α : Type} (lt : α → α → Bool) (a : α) (l : List α) : optLeast lt (a :: l) = some (keep lt a l) := by
  unfold optLeast keep
  rw [List.foldl_cons]
  generalize a = b
  induction l generalizing b with
  | nil => rfl
  | cons x l ih =>
    rw [List.foldl_cons, List.foldl_cons]
    by_cases c : lt x b = true
    · simp only [c, if_true]
      exact ih x
    · have c' : lt x b = false := by simpa using c
      simp only [c']
      exact ih b
structure StrictTotal {α : Type} (lt : α → α → Bool) : Prop where
  tr : ∀ {x y z}, lt x y = true → lt y z = true → lt x z = true
  tot : ∀ {x y}, lt x y = false → x = y ∨ lt y x = true
  irr : ∀ x, lt x x = false
theorem before_st : StrictTotal before := ⟨before_trans, before_total, before_irrefl⟩
theorem key_st (s : Office) : StrictTotal fun x y => before (key s x) (key s y) := ⟨before_trans, fun h => (before_total h).imp key_inj id, fun _ => before_irrefl _⟩
theorem keep_ok {α : Type} {lt : α → α → Bool} (S : StrictTotal lt) (a : α) (l : List α) : keep lt a l ∈ a :: l ∧ ∀ x ∈ a :: l, lt x (keep lt a l) = false := fold_least lt S.tr S.tot S.irr l a
theorem least_one {α : Type} {lt : α → α → Bool} (S : StrictTotal lt) {y z : α} {p : α → Prop} (hy : p y) (hz : p z) (ly : ∀ x, p x → lt x y = false) (lz : ∀ x, p x → lt x z = false) : y = z := by
  rcases S.tot (ly z hz) with e | e
  · exact e.symm
  · rw [lz y hy] at e
    cases e
theorem optLeast_none {α : Type} {lt : α → α → Bool} {l : List α} (h : l = []) : optLeast lt l = none := by rw [h]; rfl
theorem optLeast_some {α : Type} {lt : α → α → Bool} (S : StrictTotal lt) {l : List α} {y : α} (hy : y ∈ l) (h : ∀ x ∈ l, lt x y = false) : optLeast lt l = some y := by
  cases l with
  | nil => cases hy
  | cons a l =>
    rw [optLeast_cons]
    obtain ⟨h1, h2⟩ := keep_ok S a l
    rw [least_one S (p := fun x => x ∈ a :: l) h1 hy h2 h]
theorem optLeast_ok {α : Type} {lt : α → α → Bool} (S : StrictTotal lt) {l : List α} {y : α} (h : optLeast lt l = some y) : y ∈ l ∧ ∀ x ∈ l, lt x y = false := by
  cases l with
  | nil => cases h
  | cons a l =>
    rw [optLeast_cons] at h
    obtain rfl := Option.some.inj h
    exact keep_ok S a l
theorem firstOf_eq (l : List Drive) : firstOf l = optLeast before l := by
  unfold firstOf optLeast
  congr 1
  funext b x
  cases b <;> rfl
/-! ### ways that open all -/
theorem shut_len {s : Office} (ok : Ok s) : s.shut.length ≤ 10 := by
  refine Nat.le_trans (sub_len _ s.jobs ?_ fun k hk => ?_) ok.jl
  · exact List.Pairwise.filter _ List.nodup_range
  · obtain ⟨w, e, hw, _⟩ := mem_shut.mp hk
    rw [mem_jobs ok, isJob_eq ok, if_pos (Nat.lt_of_lt_of_le (List.getElem?_eq_some_iff.mp e).1 ok.wl), e]
    simpa using hw
theorem reach_sub {s : Office} (ok : Ok s) {l l' : List Nat} (h : ∀ w, Drv s l w → Drv s l' w) {p : Nat} (hp : p ∈ s.reach l) : p ∈ s.reach l' := (mem_reach ok).mpr (.mono h ((mem_reach ok).mp hp))
theorem drv_jobs {s : Office} (ok : Ok s) {w : Way} (hw : w ∈ s.ways) : Drv s s.jobs w := by
  obtain ⟨k, e⟩ := List.mem_iff_getElem?.mp hw
  refine ⟨k, e, ?_⟩
  by_cases c : w.work = 0
  · exact .inl c
  · right
    rw [mem_jobs ok, isJob_eq ok, if_pos (Nat.lt_of_lt_of_le (List.getElem?_eq_some_iff.mp e).1 ok.wl), e]
    simp
    omega
theorem reach_jobs_sub {s : Office} (ok : Ok s) (l : List Nat) {p : Nat} (hp : p ∈ s.reach l) : p ∈ s.reach s.jobs := reach_sub ok (fun _ ⟨_, e, _⟩ => drv_jobs ok (List.mem_of_getElem? e)) hp
theorem reach_shut {s : Office} (ok : Ok s) : s.reach (s.shut ++ s.done) = s.reach s.jobs := by
  refine reach_ext ok fun p => ⟨.mono fun w ⟨_, e, _⟩ => drv_jobs ok (List.mem_of_getElem? e), .mono fun w ⟨k, e, _⟩ => ⟨k, e, ?_⟩⟩
  by_cases c : w.work = 0
  · exact .inl c
  · right
    rw [List.mem_append]
    by_cases d : k ∈ s.done
    · exact .inr d
    · exact .inl (mem_shut.mpr ⟨w, e, by omega, d⟩)
theorem reaches_iff {s : Office} {l ps : List Nat} : s.reaches l ps = true ↔ ∀ p ∈ ps, p ∈ s.reach l := by
  unfold Office.reaches
  rw [List.all_eq_true]
  simp only [List.contains_iff_mem]
/-- the sets that fit, as the program lists them -/
def fits (s : Office) (ps : List Nat) : List (List Nat) := (allSets s.shut).filter fun x => s.reaches (x ++ s.done) ps
theorem fits_ne {s : Office} (ok : Ok s) {ps : List Nat} (h : s.reaches s.jobs ps = true) : fits s ps ≠ [] := by
  intro z
  have : s.shut ∈ fits s ps := by
    unfold fits
    rw [List.mem_filter]
    refine ⟨mem_allSets.mpr (List.Sublist.refl _), ?_⟩
    rw [reaches_iff] at h ⊢
    rw [reach_shut ok]
    exact h
  rw [z] at this
  cases this
theorem least_eq (s : Office) (ps : List Nat) : s.least ps = optLeast (fun x y => before (key s x) (key s y)) ((sets s.shut).filter fun x => s.reaches (x ++ s.done) ps) := by
  unfold Office.least optLeast
  congr 1
  funext b x
  cases b <;> rfl
theorem mem_fits {s : Office} {ps x : List Nat} : x ∈ fits s ps ↔ x ∈ (sets s.shut).filter fun x => s.reaches (x ++ s.done) ps := by
  unfold fits
  rw [List.mem_filter, List.mem_filter, mem_allSets, mem_sets]
theorem least_keep {s : Office} {ps : List Nat} {a : List Nat} {l : List (List Nat)} (h : fits s ps = a :: l) : s.least ps = some (keep (fun x y => before (key s x) (key s y)) a l) := by
  obtain ⟨h1, h2⟩ := keep_ok (key_st s) a l
  rw [← h] at h1 h2
  rw [least_eq]
  exact optLeast_some (key_st s) (mem_fits.mp h1) fun x hx => h2 x (mem_fits.mpr hx)
theorem least_no {s : Office} (ok : Ok s) {ps : List Nat} (h : s.reaches s.jobs ps = false) : s.least ps = none := by
  rw [least_eq]
  refine optLeast_none (List.filter_eq_nil_iff.mpr fun x _ hx => ?_)
  have : s.reaches s.jobs ps = true := reaches_iff.mpr fun p hp => reach_jobs_sub ok _ (reaches_iff.mp hx p hp)
  rw [h] at this
  cases this
theorem fits_len {s : Office} (ok : Ok s) (ps : List Nat) : (fits s ps).length ≤ 1024 := by
  unfold fits
  refine Nat.le_trans (List.length_filter_le _ _) ?_
  rw [allSets_len]
  exact Nat.le_trans (Nat.pow_le_pow_right (by decide) (shut_len ok)) (by decide)
theorem fits_mem {s : Office} {ps x : List Nat} (h : x ∈ allSets s.shut) : (∀ k ∈ x, s.isWay k = true) ∧ x.length ≤ s.shut.length := by
  have h := mem_allSets.mp h
  refine ⟨fun k hk => ?_, h.length_le⟩
  obtain ⟨w, e, hw, _⟩ := mem_shut.mp (h.subset hk)
  unfold Office.isWay
  rw [e]
  simpa using hw
end Sc
end

section
set_option autoImplicit false
namespace Sc
open TimStorm
/-! ### how far places lie from one another -/
def farStep (t : Nat) (far : List (Option Nat)) (x y : Nat) : List (Option Nat) := if far.getD x none = some t ∧ far.getD y none = none then far.set y (some (t + 1)) else far
def farWay (t : Nat) (far : List (Option Nat)) (w : Way) : List (Option Nat) := farStep t (farStep t far w.a w.b) w.b w.a
def farRun (s : Office) (p : Nat) : Nat → List (Option Nat)
  | 0 => (List.replicate s.n none).set p (some 0)
  | t + 1 => s.ways.foldl (farWay t) (farRun s p t)
def farL (s : Office) (p : Nat) : List (Option Nat) := farRun s p (s.n - 1)
theorem farStep_len (t : Nat) (far : List (Option Nat)) (x y : Nat) : (farStep t far x y).length = far.length := by
  unfold farStep; split <;> simp
theorem farWay_len (t : Nat) (far : List (Option Nat)) (w : Way) : (farWay t far w).length = far.length := by
  unfold farWay; rw [farStep_len, farStep_len]
theorem farWays_len (t : Nat) : ∀ (ws : List Way) (far : List (Option Nat)), (ws.foldl (farWay t) far).length = far.length
  | [], _ => rfl
  | w :: ws, far => by rw [List.foldl_cons, farWays_len t ws, farWay_len]
theorem farRun_len (s : Office) (p : Nat) : ∀ t, (farRun s p t).length = s.n
  | 0 => by simp [farRun]
  | t + 1 => by unfold farRun; rw [farWays_len, farRun_len s p t]
theorem farStep_at {t : Nat} {far : List (Option Nat)} {x y q : Nat} (hy : y < far.length) : (farStep t far x y).getD q none = if q = y ∧ far.getD x none = some t ∧ far.getD y none = none then some (t + 1) else far.getD q none := by
  unfold farStep
  by_cases h : far.getD x none = some t ∧ far.getD y none = none
  · rw [if_pos h]
    by_cases e : q = y
    · subst e
      rw [if_pos ⟨rfl, h⟩, List.getD_eq_getElem?_getD, List.getElem?_set_self hy]
      rfl
    · rw [if_neg (fun z => e z.1), List.getD_eq_getElem?_getD, List.getElem?_set_ne (Ne.symm e), ← List.getD_eq_getElem?_getD]
  · rw [if_neg h, if_neg (fun z => h z.2)]
/-- steps of a place y from a place x -/
def hit (f0 : List (Option Nat)) (t : Nat) (es : List (Nat × Nat)) (q : Nat) : Prop := ∃ e ∈ es, e.2 = q ∧ f0.getD e.1 none = some t
/-- what stands behind some steps -/
def Beh (f0 : List (Option Nat)) (t : Nat) (es : List (Nat × Nat)) (far : List (Option Nat)) : Prop := far.length = f0.length ∧ ∀ q, (f0.getD q none ≠ none → far.getD q none = f0.getD q none) ∧ (f0.getD q none = none → (hit f0 t es q → far.getD q none = some (t + 1)) ∧ (¬ hit f0 t es q → far.getD q none = none))
theorem beh_some {f0 far : List (Option Nat)} {t : Nat} {es : List (Nat × Nat)} (h : Beh f0 t es far) (x : Nat) : far.getD x none = some t ↔ f0.getD x none = some t := by
  obtain ⟨h1, h2⟩ := h.2 x
  by_cases c : f0.getD x none = none
  · obtain ⟨h3, h4⟩ := h2 c
    rw [c]
    by_cases d : hit f0 t es x
    · rw [h3 d]
      simp
    · rw [h4 d]
  · rw [h1 c]
theorem beh_step {f0 far : List (Option Nat)} {t : Nat} {es : List (Nat × Nat)} {x y : Nat} (h : Beh f0 t es far) (hy : y < f0.length) : Beh f0 t (es ++ [(x, y)]) (farStep t far x y) := by
  refine ⟨by rw [farStep_len, h.1], fun q => ?_⟩
  rw [farStep_at (by rw [h.1]; exact hy)]
  have hb := beh_some h x
  have hh : hit f0 t (es ++ [(x, y)]) q ↔ hit f0 t es q ∨ (y = q ∧ f0.getD x none = some t) := by
    unfold hit
    constructor
    · rintro ⟨e, he, h1, h2⟩
      rcases List.mem_append.mp he with he | he
      · exact .inl ⟨e, he, h1, h2⟩
      · rw [List.mem_singleton.mp he] at h1 h2
        exact .inr ⟨h1, h2⟩
    · rintro (⟨e, he, h1, h2⟩ | ⟨h1, h2⟩)
      · exact ⟨e, List.mem_append.mpr (.inl he), h1, h2⟩
      · exact ⟨(x, y), by simp, h1, h2⟩
  rw [hh]
  obtain ⟨h1, h2⟩ := h.2 q
  by_cases e : q = y
  · subst e
    refine ⟨fun c => ?_, fun c => ⟨fun d => ?_, fun d => ?_⟩⟩
    · rw [if_neg (fun z => by rw [h1 c] at z; exact c z.2.2)]
      exact h1 c
    · by_cases g : hit f0 t es q
      · rw [if_neg (fun z => by rw [(h2 c).1 g] at z; exact absurd z.2.2 (by simp))]
        exact (h2 c).1 g
      · rw [if_pos ⟨rfl, hb.mpr (d.resolve_left g).2, (h2 c).2 g⟩]
    · have g : ¬ hit f0 t es q := fun z => d (.inl z)
      rw [if_neg (fun z => d (.inr ⟨rfl, hb.mp z.2.1⟩))]
      exact (h2 c).2 g
  · rw [if_neg (fun z => e z.1)]
    refine ⟨h1, fun c => ⟨fun d => ?_, fun d => ?_⟩⟩
    · exact (h2 c).1 (d.elim id fun z => absurd z.1.symm e)
    · exact (h2 c).2 fun z => d (.inl z)
def edges (ws : List Way) : List (Nat × Nat) := ws.flatMap fun w => [(w.a, w.b), (w.b, w.a)]
theorem beh_ways {f0 : List (Option Nat)} {t : Nat} : ∀ (ws : List Way) {es : List (Nat × Nat)} {far : List (Option Nat)}, (∀ w ∈ ws, w.a < f0.length ∧ w.b < f0.length) → Beh f0 t es far → Beh f0 t (es ++ edges ws) (ws.foldl (farWay t) far)
  | [], es, far, _, h => by
    show Beh f0 t (es ++ []) far
    rw [List.append_nil]
    exact h
  | w :: ws, es, far, hw, h => by
    have hb := hw w List.mem_cons_self
    have h1 := beh_step (x := w.b) (y := w.a) (beh_step (x := w.a) (y := w.b) h hb.2) hb.1
    have := beh_ways ws (fun v hv => hw v (List.mem_cons_of_mem _ hv)) h1
    rw [List.foldl_cons]
    have e : es ++ [(w.a, w.b)] ++ [(w.b, w.a)] ++ edges ws = es ++ edges (w :: ws) := by
      unfold edges
      rw [List.flatMap_cons]
      simp
    rw [e] at this
    exact this
theorem beh_start (f0 : List (Option Nat)) (t : Nat) : Beh f0 t [] f0 := by
  refine ⟨rfl, fun q => ⟨fun _ => rfl, fun c => ⟨fun d => ?_, fun _ => c⟩⟩⟩
  obtain ⟨e, he, _⟩ := d
  cases he
/-! ### rings -/
theorem mem_ring {s : Office} {p d q : Nat} : q ∈ s.ring p (d + 1) ↔ q < s.n ∧ (q ∈ s.ring p d ∨ ∃ w ∈ s.ways, (w.a = q ∧ w.b ∈ s.ring p d) ∨ (w.b = q ∧ w.a ∈ s.ring p d)) := by
  show q ∈ s.beside (s.ring p d) ↔ _
  unfold Office.beside
  simp only [List.mem_filter, List.mem_range, Bool.or_eq_true, List.contains_iff_mem, List.any_eq_true, Bool.and_eq_true, beq_iff_eq]
theorem ring_lt {s : Office} {p : Nat} (hp : p < s.n) : ∀ {d q : Nat}, q ∈ s.ring p d → q < s.n
  | 0, q, h => by
    have : q = p := List.mem_singleton.mp h
    rw [this]; exact hp
  | d + 1, q, h => (mem_ring.mp h).1
theorem ring_mono {s : Office} {p : Nat} (hp : p < s.n) {q : Nat} {d : Nat} (h : q ∈ s.ring p d) : ∀ k, q ∈ s.ring p (d + k)
  | 0 => h
  | k + 1 => mem_ring.mpr ⟨ring_lt hp h, .inl (ring_mono hp h k)⟩
/-- how far up to t -/
def dist (s : Office) (p t q : Nat) : Option Nat := (List.range (t + 1)).find? fun d => (s.ring p d).contains q
theorem dist_succ (s : Office) (p t q : Nat) : dist s p (t + 1) q = if dist s p t q = none then (if q ∈ s.ring p (t + 1) then some (t + 1) else none) else dist s p t q := by
  unfold dist
  rw [List.range_succ (n := t + 1), List.find?_append]
  cases h : (List.range (t + 1)).find? fun d => (s.ring p d).contains q with
  | some d => simp
  | none =>
    simp only [Option.none_or, if_true]
    by_cases c : q ∈ s.ring p (t + 1)
    · rw [if_pos c, List.find?_cons_of_pos (by simpa using c)]
    · rw [if_neg c, List.find?_cons_of_neg (by simpa using c), List.find?_nil]
theorem dist_some {s : Office} {p t q d : Nat} (h : dist s p t q = some d) : d ≤ t ∧ q ∈ s.ring p d ∧ ∀ k, k < d → q ∉ s.ring p k := by
  unfold dist at h
  rw [List.find?_range_eq_some] at h
  obtain ⟨h1, h2, h3⟩ := h
  refine ⟨by have := List.mem_range.mp h2; omega, List.contains_iff_mem.mp h1, fun k hk hq => ?_⟩
  have := h3 k hk
  rw [List.contains_iff_mem.mpr hq] at this
  cases this
theorem dist_none {s : Office} {p t q : Nat} (h : dist s p t q = none) : ∀ k, k ≤ t → q ∉ s.ring p k := by
  unfold dist at h
  rw [List.find?_eq_none] at h
  intro k hk hq
  exact h k (List.mem_range.mpr (by omega)) (List.contains_iff_mem.mpr hq)
theorem mem_edges {ws : List Way} {x y : Nat} : (x, y) ∈ edges ws ↔ ∃ w ∈ ws, (w.a = x ∧ w.b = y) ∨ (w.b = x ∧ w.a = y) := by
  unfold edges
  simp only [List.mem_flatMap, List.mem_cons, Prod.mk.injEq, List.not_mem_nil, or_false]
  constructor
  · rintro ⟨w, hw, ⟨h1, h2⟩ | ⟨h1, h2⟩⟩
    · exact ⟨w, hw, .inl ⟨h1.symm, h2.symm⟩⟩
    · exact ⟨w, hw, .inr ⟨h1.symm, h2.symm⟩⟩
  · rintro ⟨w, hw, ⟨h1, h2⟩ | ⟨h1, h2⟩⟩
    · exact ⟨w, hw, .inl ⟨h1.symm, h2.symm⟩⟩
    · exact ⟨w, hw, .inr ⟨h1.symm, h2.symm⟩⟩
theorem farRun_at {s : Office} (ok : Ok s) {p : Nat} (hp : p < s.n) : ∀ (t q : Nat), q < s.n → (farRun s p t).getD q none = dist s p t q
  | 0, q, hq => by
    unfold farRun dist
    rw [List.getD_eq_getElem?_getD, List.getElem?_set]
    by_cases e : p = q
    · subst e
      simp [hp, Office.ring]
    · simp [e, hq, Office.ring, Ne.symm e]
  | t + 1, q, hq => by
    have ih := fun q hq => farRun_at ok hp t q hq
    have hlen := farRun_len s p t
    obtain ⟨_, h2⟩ := beh_ways (t := t) s.ways (es := []) (far := farRun s p t) (f0 := farRun s p t) (fun w hw => by
      have := ok.wy w hw
      rw [hlen]
      exact ⟨this.1, this.2.1⟩) (beh_start _ _)
    show (s.ways.foldl (farWay t) (farRun s p t)).getD q none = _
    obtain ⟨h3, h4⟩ := h2 q
    rw [List.nil_append, ih q hq] at h4
    rw [ih q hq] at h3
    rw [dist_succ]
    by_cases c : dist s p t q = none
    · rw [if_pos c]
      obtain ⟨h5, h6⟩ := h4 c
      have key : hit (farRun s p t) t (edges s.ways) q ↔ q ∈ s.ring p (t + 1) := by
        rw [mem_ring]
        constructor
        · rintro ⟨⟨x, y⟩, he, rfl, hx⟩
          obtain ⟨w, hw, h⟩ := mem_edges.mp he
          have hb := ok.wy w hw
          refine ⟨hq, .inr ⟨w, hw, ?_⟩⟩
          have hxn : x < s.n := by
            rcases h with ⟨h, _⟩ | ⟨h, _⟩
            · rw [← h]; exact hb.1
            · rw [← h]; exact hb.2.1
          have hxr : x ∈ s.ring p t := (dist_some ((ih x hxn).symm.trans hx)).2.1
          rcases h with ⟨h, h'⟩ | ⟨h, h'⟩
          · exact .inr ⟨h', by rw [h]; exact hxr⟩
          · exact .inl ⟨h', by rw [h]; exact hxr⟩
        · rintro ⟨_, h | ⟨w, hw, h⟩⟩
          · exact absurd h (dist_none c t (Nat.le_refl _))
          · have hb := ok.wy w hw
            have go : ∀ x, x < s.n → x ∈ s.ring p t → (∀ k, x ∈ s.ring p k → q ∈ s.ring p (k + 1)) → (farRun s p t).getD x none = some t := by
              intro x hxn hx hk
              rw [ih x hxn]
              cases hd : dist s p t x with
              | none => exact absurd hx (dist_none hd t (Nat.le_refl _))
              | some d =>
                obtain ⟨h1, h2, _⟩ := dist_some hd
                by_cases e : d = t
                · rw [e]
                · exact absurd (hk d h2) (dist_none c (d + 1) (by omega))
            rcases h with ⟨h, h'⟩ | ⟨h, h'⟩
            · exact ⟨(w.b, w.a), mem_edges.mpr ⟨w, hw, .inr ⟨rfl, rfl⟩⟩, h, go _ hb.2.1 h' fun k hk => mem_ring.mpr ⟨hq, .inr ⟨w, hw, .inl ⟨h, hk⟩⟩⟩⟩
            · exact ⟨(w.a, w.b), mem_edges.mpr ⟨w, hw, .inl ⟨rfl, rfl⟩⟩, h, go _ hb.1 h' fun k hk => mem_ring.mpr ⟨hq, .inr ⟨w, hw, .inr ⟨h, hk⟩⟩⟩⟩
      by_cases g : q ∈ s.ring p (t + 1)
      · rw [if_pos g]
        exact h5 (key.mpr g)
      · rw [if_neg g]
        exact h6 fun z => g (key.mp z)
    · rw [if_neg c]
      exact h3 c
theorem farL_at {s : Office} (ok : Ok s) {p q : Nat} (hp : p < s.n) (hq : q < s.n) : (farL s p).getD q none = s.apart p q := by
  unfold farL
  rw [farRun_at ok hp _ q hq]
  unfold dist Office.apart
  have := ok.n2
  rw [show s.n - 1 + 1 = s.n by omega]
theorem farL_len (s : Office) (p : Nat) : (farL s p).length = s.n := farRun_len s p _
theorem apart_le {s : Office} {p q d : Nat} (h : s.apart p q = some d) : d < s.n := by
  unfold Office.apart at h
  exact List.mem_range.mp (List.mem_of_find?_eq_some h)
theorem fm_congr {α β : Type} {f g : α → Option β} : ∀ {l : List α}, (∀ x ∈ l, f x = g x) → l.filterMap f = l.filterMap g
  | [], _ => rfl
  | a :: l, h => by
    rw [List.filterMap_cons, List.filterMap_cons, h a List.mem_cons_self, fm_congr (l := l) fun x hx => h x (List.mem_cons_of_mem _ hx)]
theorem fm_filter {α β : Type} (p : α → Bool) (f : α → β) : ∀ l : List α, (l.filter p).map f = l.filterMap fun x => if p x = true then some (f x) else none
  | [] => rfl
  | a :: l => by
    rw [List.filterMap_cons, List.filter_cons, ← fm_filter p f l]
    by_cases c : p a = true
    · simp only [c, if_true, List.map_cons]
    · simp [c]
theorem fm_of_filter {α β : Type} (p : α → Bool) (f : α → Option β) : ∀ l : List α, (l.filter p).filterMap f = l.filterMap fun x => if p x = true then f x else none
  | [] => rfl
  | a :: l => by
    rw [List.filterMap_cons, List.filter_cons, ← fm_of_filter p f l]
    by_cases c : p a = true
    · simp only [c, if_true, List.filterMap_cons]
    · simp [c]
/-! ### swarms -/
theorem beetleOf_eq {s : Office} (ok : Ok s) (k : Nat) : s.beetleOf k = (s.beetles.find? fun b => b.kind == k).bind fun b => if 0 < b.days then some b else none := by
  unfold Office.beetleOf
  have hn := ok.bk
  generalize s.beetles = l at hn
  induction l with
  | nil => rfl
  | cons a l ih =>
    have hn' : a.kind ∉ l.map (fun (b : Beetle) => b.kind) ∧ (l.map fun (b : Beetle) => b.kind).Nodup := List.nodup_cons.mp hn
    have ih := ih hn'.2
    by_cases c : a.kind = k
    · have c' : (a.kind == k) = true := beq_iff_eq.mpr c
      by_cases d : 0 < a.days
      · rw [List.find?_cons_of_pos (by simp [c, d]), List.find?_cons_of_pos (by simp [c])]
        simp [d]
      · rw [List.find?_cons_of_neg (by simp [c, d]), List.find?_cons_of_pos (by simp [c])]
        simp only [Option.bind_some, if_neg d]
        rw [List.find?_eq_none]
        intro b hb hbk
        simp at hbk
        exact hn'.1 (List.mem_map.mpr ⟨b, hb, by rw [hbk.1, c]⟩)
    · have c' : ¬ (a.kind == k) = true := by simpa using c
      rw [List.find?_cons_of_neg (by simp [c]), List.find?_cons_of_neg (by simp [c]), ih]
/-- the wood that swarms: its job, the day, the days over a way, where it lies -/
def swarmAt (s : Office) (k : Nat) : Option (Nat × Nat × Nat × Nat) := (s.woods[k]?).bind fun w => (s.beetleOf w.kind).bind fun b => if s.done.contains (32 + k) = true then none else some (32 + k, w.day + b.days, b.gap, w.place)
def swarmsL (s : Office) : List (Nat × Nat × Nat × Nat) := (List.range s.woods.length).filterMap (swarmAt s)
def strike (s : Office) (p : Nat) (x : Nat × Nat × Nat × Nat) : Option (Nat × Nat × Nat) := (s.apart x.2.2.2 p).map fun f => (x.1, x.2.1, x.2.1 + f * x.2.2.1)
def strikesL (s : Office) (p : Nat) : List (Nat × Nat × Nat) := (swarmsL s).filterMap (strike s p)
theorem due_eq (s : Office) (p day : Nat) : s.due p day = ((strikesL s p).filter fun x => decide (x.2.2 ≤ day)).map fun x => (x.1, x.2.1) := by
  unfold Office.due strikesL swarmsL
  rw [fm_filter, List.filterMap_filterMap, List.filterMap_filterMap]
  refine fm_congr fun k hk => ?_
  unfold swarmAt Office.swarm WAYS strike
  cases s.woods[k]? with
  | none => simp
  | some w =>
    simp only [Option.bind_some]
    cases s.beetleOf w.kind with
    | none => simp
    | some b =>
      simp only [Option.bind_some]
      cases hd : s.done.contains (32 + k) with
      | true => simp
      | false =>
        simp only [Option.bind_some, Bool.false_eq_true, if_false]
        cases s.apart w.place p with
        | none => simp
        | some f =>
          simp only [Option.bind_some, Option.map_some, Nat.mul_comm b.gap f]
          by_cases c : w.day + b.days + f * b.gap ≤ day <;> simp [c]
theorem least?_eq (l : List Nat) : least? l = l.min? := by
  have : ∀ (l : List Nat) (a : Nat), l.foldl (fun (b : Option Nat) (x : Nat) => match b with
    | none => some x
    | some y => some (min x y)) (some a) = some (l.foldl min a) := by
    intro l
    induction l with
    | nil => intro a; rfl
    | cons x l ih =>
      intro a
      rw [List.foldl_cons, List.foldl_cons, Nat.min_comm a x]
      exact ih (min x a)
  cases l with
  | nil => rfl
  | cons a l =>
    show List.foldl _ (some a) l = _
    exact (this l a).trans rfl
theorem struck_days (s : Office) (p : Nat) : (((List.range s.woods.length).filter fun (k : Nat) => !s.done.contains (WAYS + k)).filterMap fun (k : Nat) => (s.swarm k p).map fun (x : Nat × Nat) => x.2) = (strikesL s p).map fun x => x.2.2 := by
  unfold strikesL swarmsL
  rw [fm_of_filter, List.filterMap_filterMap, List.map_filterMap]
  refine fm_congr fun k hk => ?_
  unfold swarmAt Office.swarm WAYS strike
  cases s.woods[k]? with
  | none => cases hd : s.done.contains (32 + k) <;> simp
  | some w =>
    simp only [Option.bind_some]
    cases s.beetleOf w.kind with
    | none => cases hd : s.done.contains (32 + k) <;> simp
    | some b =>
      simp only [Option.bind_some]
      cases hd : s.done.contains (32 + k) with
      | true => simp
      | false =>
        simp only [Option.bind_some, Bool.false_eq_true, if_false, Bool.not_false, if_true]
        cases s.apart w.place p with
        | none => simp
        | some f => simp [Nat.mul_comm b.gap f]
def daysL (s : Office) (p day : Nat) : List Nat := ((strikesL s p).filter fun x => decide (x.2.2 ≤ day)).map fun x => x.2.2
theorem struck_eq (s : Office) (day : Nat) : s.struck day = ((List.range s.n).filter fun p => decide (0 < (daysL s p day).length)).map fun p => (p, minL (daysL s p day)) := by
  unfold Office.struck
  rw [fm_filter]
  refine fm_congr fun p hp => ?_
  rw [struck_days, least?_eq]
  have hd : daysL s p day = ((strikesL s p).map fun x => x.2.2).filter fun d => decide (d ≤ day) := by
    unfold daysL
    rw [List.filter_map]
    rfl
  rw [hd]
  generalize ((strikesL s p).map fun x => x.2.2) = l
  cases hm : l.min? with
  | none =>
    rw [List.min?_eq_none_iff.mp hm]
    simp [Option.guard]
  | some m =>
    obtain ⟨h1, h2⟩ := List.min?_eq_some_iff.mp hm
    by_cases c : m ≤ day
    · have hmem : m ∈ l.filter fun d => decide (d ≤ day) := List.mem_filter.mpr ⟨h1, decide_eq_true c⟩
      have hmin : minL (l.filter fun d => decide (d ≤ day)) = m := by
        obtain ⟨g1, g2⟩ := minL_ok (l := l.filter fun d => decide (d ≤ day)) (List.ne_nil_of_mem hmem)
        have := g2 m hmem
        have := h2 _ (List.mem_filter.mp g1).1
        omega
      have hpos := List.length_pos_of_mem hmem
      simp [c, Option.guard, hmin]
      exact ⟨m, h1, c⟩
    · have : l.filter (fun d => decide (d ≤ day)) = [] := by
        rw [List.filter_eq_nil_iff]
        intro d hd hc
        have := h2 d hd
        have := of_decide_eq_true hc
        omega
      rw [this]
      simp [c, Option.guard]
end Sc
end

section
set_option autoImplicit false
namespace Sc
open TimStorm
/-! ### orders as runs over sets -/
/-- from set to set by the i-th jobs -/
def Go (G : Nat → List Nat) : Nat → List Nat → Nat → Prop
  | m, [], m' => m = m'
  | m, i :: r, m' => i ∈ G m ∧ Go G (m + 2 ^ i) r m'
structure Stp (G : Nat → List Nat) (k : Nat) : Prop where
  lt : ∀ {m i}, i ∈ G m → i < k
  bit : ∀ {m i}, i ∈ G m → m.testBit i = false
  rise : ∀ m, (G m).Pairwise (· < ·)
section
variable {G : Nat → List Nat} {k : Nat}
theorem Go.snoc : ∀ {is : List Nat} {m m' i : Nat}, Go G m is m' → i ∈ G m' → Go G m (is ++ [i]) (m' + 2 ^ i)
  | [], m, m', i, h, hi => by
    obtain rfl : m = m' := h
    exact ⟨hi, rfl⟩
  | j :: r, m, m', i, h, hi => ⟨h.1, Go.snoc h.2 hi⟩
theorem Go.last : ∀ {is : List Nat} {m m' i : Nat}, Go G m (is ++ [i]) m' → ∃ o, Go G m is o ∧ i ∈ G o ∧ m' = o + 2 ^ i
  | [], m, m', i, h => by
    obtain ⟨h1, h2⟩ := h
    exact ⟨m, rfl, h1, (show m + 2 ^ i = m' from h2).symm⟩
  | j :: r, m, m', i, h => by
    obtain ⟨o, h1, h2⟩ := Go.last h.2
    exact ⟨o, ⟨h.1, h1⟩, h2⟩
theorem Go.free (S : Stp G k) : ∀ {is : List Nat} {m m' : Nat}, Go G m is m' → Sc.free k m' + is.length = Sc.free k m
  | [], m, m', h => by
    obtain rfl : m = m' := h
    rfl
  | i :: r, m, m', h => by
    have := Go.free S h.2
    have := free_add (S.lt h.1) (S.bit h.1)
    rw [List.length_cons]
    omega
theorem Go.below (S : Stp G k) : ∀ {is : List Nat} {m m' : Nat}, Go G m is m' → m < 2 ^ k → m' < 2 ^ k
  | [], m, m', h, hm => by
    obtain rfl : m = m' := h
    exact hm
  | i :: r, m, m', h, hm => Go.below S h.2 (add_bit hm (S.lt h.1) (S.bit h.1))
theorem Go.lts (S : Stp G k) : ∀ {is : List Nat} {m m' : Nat}, Go G m is m' → ∀ i ∈ is, i < k
  | [], _, _, _, i, hi => absurd hi (by simp)
  | j :: r, m, m', h, i, hi => by
    rcases List.mem_cons.mp hi with e | hi
    · rw [e]; exact S.lt h.1
    · exact Go.lts S h.2 i hi
theorem Go.has (S : Stp G k) : ∀ {is : List Nat} {m m' : Nat}, Go G m is m' → ∀ j, m'.testBit j = (m.testBit j || decide (j ∈ is))
  | [], m, m', h, j => by
    obtain rfl : m = m' := h
    simp
  | i :: r, m, m', h, j => by
    rw [Go.has S h.2 j, bit_add (S.bit h.1), Bool.or_assoc]
    congr 1
    by_cases e : i = j
    · subst e; simp
    · have : j ≠ i := Ne.symm e
      simp [e, this]
end
/-! ### rows of numbers of one length -/
theorem before_snoc : ∀ {x y : List Nat} {a b : Nat}, x.length = y.length → before (x ++ [a]) (y ++ [b]) = (before x y || (decide (x = y) && decide (a < b)))
  | [], [], a, b, _ => by simp [before]
  | [], _ :: _, _, _, h => by cases h
  | _ :: _, [], _, _, h => by cases h
  | c :: x, d :: y, a, b, h => by
    have ih := before_snoc (x := x) (y := y) (a := a) (b := b) (by simpa using h)
    rw [List.cons_append, List.cons_append]
    simp only [before, ih]
    by_cases e : c = d
    · subst e
      by_cases f : x = y
      · subst f; simp [before_irrefl]
      · simp [f]
    · have hn : (c == d) = false := beq_eq_false_iff_ne.mpr e
      simp [e, hn]
theorem before_map {J : Nat → Nat} {k : Nat} (hJ : ∀ i j, j < k → i < j → J i < J j) : ∀ {x y : List Nat}, (∀ i ∈ x, i < k) → (∀ i ∈ y, i < k) → before (x.map J) (y.map J) = before x y
  | [], [], _, _ => rfl
  | [], _ :: _, _, _ => rfl
  | _ :: _, [], _, _ => rfl
  | a :: x, b :: y, hx, hy => by
    have ih := before_map hJ (x := x) (y := y) (fun i hi => hx i (List.mem_cons_of_mem _ hi)) (fun i hi => hy i (List.mem_cons_of_mem _ hi))
    rw [List.map_cons, List.map_cons]
    simp only [before, ih]
    have ha := hx a List.mem_cons_self
    have hb := hy b List.mem_cons_self
    have h1 : decide (J a < J b) = decide (a < b) := by
      refine decide_eq_decide.mpr ⟨fun h => ?_, hJ a b hb⟩
      rcases Nat.lt_trichotomy a b with c | c | c
      · exact c
      · rw [c] at h; omega
      · have := hJ b a ha c; omega
    have h2 : (J a == J b) = (a == b) := by
      rw [Bool.eq_iff_iff, beq_iff_eq, beq_iff_eq]
      refine ⟨fun h => ?_, fun h => by rw [h]⟩
      rcases Nat.lt_trichotomy a b with c | c | c
      · have := hJ a b hb c; omega
      · exact c
      · have := hJ b a ha c; omega
    rw [h1, h2]
/-! ### how many more at the fewest -/
def wantStep (G : Nat → List Nat) (D : Nat → Bool) (ws : List (Option Nat)) (m : Nat) : List (Option Nat) :=
  ws.set m (if D m = true then some 0 else (((G m).map fun i => ws.getD (m + 2 ^ i) none).filterMap fun x => x.map (· + 1)).min?)
def wantRun (G : Nat → List Nat) (D : Nat → Bool) (k : Nat) : Nat → List (Option Nat)
  | 0 => List.replicate (2 ^ k) none
  | t + 1 => wantStep G D (wantRun G D k t) (2 ^ k - 1 - t)
def want (G : Nat → List Nat) (D : Nat → Bool) (k : Nat) : List (Option Nat) := wantRun G D k (2 ^ k)
theorem wantRun_len (G : Nat → List Nat) (D : Nat → Bool) (k : Nat) : ∀ t, (wantRun G D k t).length = 2 ^ k
  | 0 => by simp [wantRun]
  | t + 1 => by unfold wantRun wantStep; rw [List.length_set, wantRun_len G D k t]
section
variable {G : Nat → List Nat} {D : Nat → Bool} {k : Nat}
/-- what a number tells of a set -/
def Tells (G : Nat → List Nat) (D : Nat → Bool) (m : Nat) (x : Option Nat) : Prop :=
  (∀ w, x = some w → (∃ is m', Go G m is m' ∧ D m' = true ∧ is.length = w) ∧ ∀ is m', Go G m is m' → D m' = true → w ≤ is.length) ∧ (x = none → ∀ is m', Go G m is m' → D m' = true → False)
theorem tells_step (S : Stp G k) {m : Nat} {f : Nat → Option Nat} (h : ∀ i ∈ G m, Tells G D (m + 2 ^ i) (f i)) :
    Tells G D m (if D m = true then some 0 else (((G m).map f).filterMap fun x => x.map (· + 1)).min?) := by
  by_cases c : D m = true
  · rw [if_pos c]
    refine ⟨fun w hw => ?_, fun z => by cases z⟩
    obtain rfl := Option.some.inj hw
    exact ⟨⟨[], m, rfl, c, rfl⟩, fun _ _ _ _ => Nat.zero_le _⟩
  · rw [if_neg c]
    have mem : ∀ v, v ∈ (((G m).map f).filterMap fun x => x.map (· + 1)) ↔ ∃ i ∈ G m, ∃ u, f i = some u ∧ v = u + 1 := by
      intro v
      simp only [List.mem_filterMap, List.mem_map, Option.map_eq_some_iff]
      constructor
      · rintro ⟨x, ⟨i, hi, rfl⟩, u, hu, rfl⟩
        exact ⟨i, hi, u, hu, rfl⟩
      · rintro ⟨i, hi, u, hu, rfl⟩
        exact ⟨f i, ⟨i, hi, rfl⟩, u, hu, rfl⟩
    refine ⟨fun w hw => ?_, fun hn is m' hg hd => ?_⟩
    · obtain ⟨h1, h2⟩ := List.min?_eq_some_iff.mp hw
      obtain ⟨i, hi, u, hu, rfl⟩ := (mem w).mp h1
      obtain ⟨⟨is, m', g1, g2, g3⟩, _⟩ := (h i hi).1 u hu
      refine ⟨⟨i :: is, m', ⟨hi, g1⟩, g2, by rw [List.length_cons, g3]⟩, fun js m2 hg hd => ?_⟩
      cases js with
      | nil =>
        obtain rfl : m = m2 := hg
        exact absurd hd c
      | cons j r =>
        cases hf : f j with
        | none => exact ((h j hg.1).2 hf r m2 hg.2 hd).elim
        | some u2 =>
          have := ((h j hg.1).1 u2 hf).2 r m2 hg.2 hd
          have := h2 (u2 + 1) ((mem _).mpr ⟨j, hg.1, u2, hf, rfl⟩)
          rw [List.length_cons]
          omega
    · have he := List.min?_eq_none_iff.mp hn
      cases is with
      | nil =>
        obtain rfl : m = m' := hg
        exact absurd hd c
      | cons j r =>
        cases hf : f j with
        | none => exact (h j hg.1).2 hf r m' hg.2 hd
        | some u2 =>
          have := (mem (u2 + 1)).mpr ⟨j, hg.1, u2, hf, rfl⟩
          rw [he] at this
          cases this
theorem wantRun_ok (S : Stp G k) : ∀ t, t ≤ 2 ^ k → ∀ m, 2 ^ k - t ≤ m → m < 2 ^ k → Tells G D m ((wantRun G D k t).getD m none)
  | 0, _, m, h1, h2 => by omega
  | t + 1, ht, m, h1, h2 => by
    have ih := wantRun_ok S t (by omega)
    have hlen := wantRun_len G D k t
    unfold wantRun wantStep
    rw [List.getD_eq_getElem?_getD, List.getElem?_set]
    by_cases e : 2 ^ k - 1 - t = m
    · rw [if_pos e, if_pos (by rw [hlen]; omega), Option.getD_some, e]
      refine tells_step S fun i hi => ?_
      have := add_bit h2 (S.lt hi) (S.bit hi)
      have h2i := Nat.two_pow_pos i
      exact ih (m + 2 ^ i) (by omega) this
    · rw [if_neg e, ← List.getD_eq_getElem?_getD]
      exact ih m (by omega) h2
theorem want_ok (S : Stp G k) {m : Nat} (h : m < 2 ^ k) : Tells G D m ((want G D k).getD m none) := wantRun_ok S (2 ^ k) (Nat.le_refl _) m (by omega) h
theorem want_len (G : Nat → List Nat) (D : Nat → Bool) (k : Nat) : (want G D k).length = 2 ^ k := wantRun_len G D k _
end
/-! ### the program's order: turn by turn the first that fits -/
def firstFit (G : Nat → List Nat) (W : Nat → Option Nat) (m many : Nat) : Nat := ((G m).filter fun i => decide (W (m + 2 ^ i) = some many)).headD 0
/-- by how many are left -/
def goS (G : Nat → List Nat) (W : Nat → Option Nat) : Nat → Nat → List Nat
  | 0, _ => []
  | w + 1, m => firstFit G W m w :: goS G W w (m + 2 ^ firstFit G W m w)
section
variable {G : Nat → List Nat} {D : Nat → Bool} {k : Nat} {W : Nat → Option Nat}
theorem fit_ne (hW : ∀ m, m < 2 ^ k → Tells G D m (W m)) (S : Stp G k) {m w : Nat} (hm : m < 2 ^ k) (h : W m = some (w + 1)) : ((G m).filter fun i => decide (W (m + 2 ^ i) = some w)) ≠ [] := by
  obtain ⟨⟨is, m', g1, g2, g3⟩, hmin⟩ := (hW m hm).1 _ h
  cases is with
  | nil => cases g3
  | cons i r =>
    have hr : r.length = w := by simpa using g3
    have hm2 := add_bit hm (S.lt g1.1) (S.bit g1.1)
    have key : W (m + 2 ^ i) = some w := by
      cases hx : W (m + 2 ^ i) with
      | none => exact ((hW _ hm2).2 hx r m' g1.2 g2).elim
      | some u =>
        obtain ⟨⟨js, m2, f1, f2, f3⟩, f4⟩ := (hW _ hm2).1 u hx
        have h1 := f4 r m' g1.2 g2
        have h2 := hmin (i :: js) m2 ⟨g1.1, f1⟩ f2
        rw [List.length_cons] at h2
        congr 1
        omega
    intro z
    have : i ∈ (G m).filter fun i => decide (W (m + 2 ^ i) = some w) := List.mem_filter.mpr ⟨g1.1, decide_eq_true key⟩
    rw [z] at this
    cases this
theorem fit_ok (hW : ∀ m, m < 2 ^ k → Tells G D m (W m)) (S : Stp G k) {m w : Nat} (hm : m < 2 ^ k) (h : W m = some (w + 1)) : firstFit G W m w ∈ G m ∧ W (m + 2 ^ firstFit G W m w) = some w := by
  have := List.mem_filter.mp (headD_mem (fit_ne hW S hm h))
  exact ⟨this.1, of_decide_eq_true this.2⟩
theorem goS_ok (hW : ∀ m, m < 2 ^ k → Tells G D m (W m)) (S : Stp G k) : ∀ (w : Nat) {m : Nat}, m < 2 ^ k → W m = some w →
    (∃ m', Go G m (goS G W w m) m' ∧ D m' = true) ∧ (goS G W w m).length = w ∧ ∀ is m', Go G m is m' → D m' = true → is.length = w → before is (goS G W w m) = false
  | 0, m, hm, h => by
    obtain ⟨⟨is, m', g1, g2, g3⟩, _⟩ := (hW m hm).1 _ h
    have : is = [] := List.eq_nil_of_length_eq_zero g3
    subst this
    refine ⟨⟨m', g1, g2⟩, rfl, fun js _ _ _ hl => ?_⟩
    rw [List.eq_nil_of_length_eq_zero hl]
    rfl
  | w + 1, m, hm, h => by
    obtain ⟨f1, f2⟩ := fit_ok hW S hm h
    have hm2 := add_bit hm (S.lt f1) (S.bit f1)
    obtain ⟨⟨m', g1, g2⟩, g3, g4⟩ := goS_ok hW S w hm2 f2
    refine ⟨⟨m', ⟨f1, g1⟩, g2⟩, by unfold goS; rw [List.length_cons, g3], fun is m2 hg hd hl => ?_⟩
    cases is with
    | nil => cases hl
    | cons i r =>
      have hr : r.length = w := by simpa using hl
      have hmi := add_bit hm (S.lt hg.1) (S.bit hg.1)
      have hmin := ((hW m hm).1 _ h).2
      have key : W (m + 2 ^ i) = some w := by
        cases hx : W (m + 2 ^ i) with
        | none => exact ((hW _ hmi).2 hx r m2 hg.2 hd).elim
        | some u =>
          obtain ⟨⟨js, m3, e1, e2, e3⟩, e4⟩ := (hW _ hmi).1 u hx
          have h1 := e4 r m2 hg.2 hd
          have h2 := hmin (i :: js) m3 ⟨hg.1, e1⟩ e2
          rw [List.length_cons] at h2
          congr 1
          omega
      have hle : firstFit G W m w ≤ i := headD_le (List.Pairwise.filter _ (S.rise m)) (List.mem_filter.mpr ⟨hg.1, decide_eq_true key⟩)
      unfold goS
      simp only [before, Bool.or_eq_false_iff, decide_eq_false_iff_not, Bool.and_eq_false_iff, beq_eq_false_iff_ne]
      refine ⟨by omega, ?_⟩
      by_cases e : i = firstFit G W m w
      · right
        rw [← e]
        rw [← e] at g4
        exact g4 r m2 hg.2 hd hr
      · exact .inl e
end
/-! ### the specification's orders by sets -/
structure Least (G : Nat → List Nat) (J : Nat → Nat) (m : Nat) (x : Option (List Nat)) : Prop where
  yes : ∀ y, x = some y → ∃ is, Go G 0 is m ∧ y = is.map J ∧ ∀ js, Go G 0 js m → before (js.map J) y = false
  no : x = none → ∀ is, ¬ Go G 0 is m
section
variable {G : Nat → List Nat} {k : Nat} {J : Nat → Nat}
theorem bit_sub {m i : Nat} (h : m.testBit i = true) : 2 ^ i ≤ m ∧ (m - 2 ^ i).testBit i = false := by
  have hle : 2 ^ i ≤ m := Nat.ge_two_pow_of_testBit h
  refine ⟨hle, ?_⟩
  cases c : (m - 2 ^ i).testBit i with
  | false => rfl
  | true =>
    have := Nat.testBit_two_pow_add_eq (m - 2 ^ i) i
    rw [Nat.add_sub_cancel' hle, h, c] at this
    cases this
theorem go_zero_len (S : Stp G k) {is js : List Nat} {m : Nat} (h1 : Go G 0 is m) (h2 : Go G 0 js m) : is.length = js.length := by
  have := Go.free S h1
  have := Go.free S h2
  omega
theorem least_step (S : Stp G k) {m : Nat} (hm0 : m ≠ 0) (O : Nat → Option (List Nat)) (h : ∀ o, o < m → Least G J o (O o)) (C : Nat → Bool) (hC : ∀ i, i < k → m.testBit i = true → (C i = true ↔ i ∈ G (m - 2 ^ i))) :
    Least G J m (firstOf ((List.range k).filterMap fun i => if m.testBit i = false then none else if C i = true then (O (m - 2 ^ i)).map (fun x => x ++ [J i]) else none)) := by
  generalize hL : ((List.range k).filterMap fun i => if m.testBit i = false then none else if C i = true then (O (m - 2 ^ i)).map (fun x => x ++ [J i]) else none) = L
  have mem : ∀ y, y ∈ L ↔ ∃ i, i < k ∧ m.testBit i = true ∧ i ∈ G (m - 2 ^ i) ∧ ∃ x, O (m - 2 ^ i) = some x ∧ y = x ++ [J i] := by
    intro y
    rw [← hL, List.mem_filterMap]
    constructor
    · rintro ⟨i, hi, e⟩
      have hi := List.mem_range.mp hi
      by_cases c : m.testBit i = false
      · rw [if_pos c] at e; cases e
      · rw [if_neg c] at e
        have c' : m.testBit i = true := by simpa using c
        by_cases d : C i = true
        · rw [if_pos d] at e
          obtain ⟨x, hx, rfl⟩ := Option.map_eq_some_iff.mp e
          exact ⟨i, hi, c', (hC i hi c').mp d, x, hx, rfl⟩
        · rw [if_neg d] at e; cases e
    · rintro ⟨i, hi, c, d, x, hx, rfl⟩
      refine ⟨i, List.mem_range.mpr hi, ?_⟩
      rw [if_neg (by rw [c]; decide), if_pos ((hC i hi c).mpr d), hx]
      rfl
  have ev : ∀ js, Go G 0 js m → ∃ r i, js = r ++ [i] ∧ i < k ∧ m.testBit i = true ∧ i ∈ G (m - 2 ^ i) ∧ Go G 0 r (m - 2 ^ i) ∧ m - 2 ^ i < m := by
    intro js hj
    rcases List.eq_nil_or_concat js with e | ⟨r, i, e⟩
    · subst e
      exact absurd (show 0 = m from hj).symm hm0
    · rw [List.concat_eq_append] at e
      subst e
      obtain ⟨o, h1, h2, rfl⟩ := Go.last hj
      have hp := Nat.two_pow_pos i
      refine ⟨r, i, rfl, S.lt h2, ?_, ?_, ?_, by omega⟩
      · rw [bit_add (S.bit h2)]; simp
      · rw [Nat.add_sub_cancel]; exact h2
      · rw [Nat.add_sub_cancel]; exact h1
  rw [firstOf_eq]
  refine ⟨fun y hy => ?_, fun hn js hj => ?_⟩
  · obtain ⟨h1, h2⟩ := optLeast_ok before_st hy
    obtain ⟨i, hi, c, d, x, hx, rfl⟩ := (mem y).mp h1
    obtain ⟨hle, _⟩ := bit_sub c
    have hp := Nat.two_pow_pos i
    obtain ⟨is, g1, rfl, g2⟩ := (h (m - 2 ^ i) (by omega)).yes x hx
    have hgo : Go G 0 (is ++ [i]) m := by
      have := Go.snoc g1 d
      rwa [Nat.sub_add_cancel hle] at this
    refine ⟨is ++ [i], hgo, by rw [List.map_append]; rfl, fun js hj => ?_⟩
    obtain ⟨r, j, rfl, hjk, cj, dj, gj, hlt⟩ := ev js hj
    cases hO : O (m - 2 ^ j) with
    | none => exact absurd gj ((h _ hlt).no hO r)
    | some z =>
      obtain ⟨zs, z1, rfl, z2⟩ := (h _ hlt).yes z hO
      have hz := h2 (zs.map J ++ [J j]) ((mem _).mpr ⟨j, hjk, cj, dj, _, hO, rfl⟩)
      have hr := z2 r gj
      have hlen : (r.map J).length = (zs.map J).length := by rw [List.length_map, List.length_map]; exact go_zero_len S gj z1
      rw [List.map_append]
      show before (r.map J ++ [J j]) _ = false
      cases hb : before (r.map J ++ [J j]) (is.map J ++ [J i]) with
      | false => rfl
      | true =>
        exfalso
        -- zs ++ [j] is not behind r ++ [j]
        have hzr : before (zs.map J ++ [J j]) (r.map J ++ [J j]) = true ∨ zs.map J = r.map J := by
          rcases before_total hr with e | e
          · exact .inr e.symm
          · left
            rw [before_snoc hlen.symm, e]
            rfl
        rcases hzr with e | e
        · have := before_trans e hb
          rw [hz] at this
          cases this
        · rw [← e, hz] at hb
          cases hb
  · obtain ⟨r, j, rfl, hjk, cj, dj, gj, hlt⟩ := ev js hj
    cases hO : O (m - 2 ^ j) with
    | none => exact (h _ hlt).no hO r gj
    | some z =>
      have hmz := (mem (z ++ [J j])).mpr ⟨j, hjk, cj, dj, _, hO, rfl⟩
      cases L with
      | nil => cases hmz
      | cons a L =>
        rw [optLeast_cons] at hn
        cases hn
end
end Sc
end

section
set_option autoImplicit false
namespace Sc
open TimStorm
/-- which jobs can be done next behind a set, each by its last day -/
def goodS (s : Office) (d : List (Nat × Nat)) (m : Nat) : List Nat := (s.nexts s.left m).filter fun i => s.inTime d (s.left.getD i 0) (s.spent s.done + (s.spent (picked s.left m) + s.work (s.left.getD i 0)))
/-- a set has all that's due of the jobs left -/
def hasAll (s : Office) (d : List (Nat × Nat)) (m : Nat) : Bool := (List.range s.left.length).all fun i => !(d.any fun x => x.1 == s.left.getD i 0) || m.testBit i
def wantS (s : Office) (d : List (Nat × Nat)) (m : Nat) : Option Nat := (want (goodS s d) (hasAll s d) s.left.length).getD m none
theorem goodS_stp (s : Office) (d : List (Nat × Nat)) : Stp (goodS s d) s.left.length :=
  ⟨fun h => (mem_nexts.mp (List.mem_filter.mp h).1).1, fun h => (mem_nexts.mp (List.mem_filter.mp h).1).2.1, fun m => List.Pairwise.filter _ (nexts_rise s s.left m)⟩
theorem wantS_ok (s : Office) (d : List (Nat × Nat)) (m : Nat) (h : m < 2 ^ s.left.length) : Tells (goodS s d) (hasAll s d) m (wantS s d m) := want_ok (goodS_stp s d) h
def ordO (s : Office) (d : List (Nat × Nat)) (m : Nat) : Option (List Nat) := (s.orders s.left d).getD m none
abbrev JL (s : Office) (i : Nat) : Nat := s.left.getD i 0
theorem orders_pushes (s : Office) (l : List Nat) (d : List (Nat × Nat)) : s.orders l d = pushes (fun m t => s.orderAt l d m t) (2 ^ l.length) := rfl
theorem left_at {s : Office} {j i : Nat} (hi : i < s.left.length) (h : s.left.getD i 0 = j) : s.left[i]? = some j := by rw [← h]; exact get_of_lt hi
theorem ordO_least {s : Office} (ok : Ok s) (d : List (Nat × Nat)) : ∀ m, m < 2 ^ s.left.length → Least (goodS s d) (JL s) m (ordO s d m) := by
  intro m
  induction m using Nat.strongRecOn with
  | _ m ih =>
    intro hm
    have e : ordO s d m = s.orderAt s.left d m (pushes (fun m t => s.orderAt s.left d m t) m) := by
      unfold ordO
      rw [orders_pushes]
      exact pushes_at _ _ _ _ hm
    by_cases h0 : m = 0
    · subst h0
      have e0 : ordO s d 0 = some [] := by rw [e]; unfold Office.orderAt; rw [if_pos rfl]
      rw [e0]
      refine ⟨fun y hy => ?_, fun z => by cases z⟩
      obtain rfl := Option.some.inj hy
      refine ⟨[], rfl, rfl, fun js _ => ?_⟩
      cases js.map (JL s) <;> rfl
    · have := least_step (goodS_stp s d) (J := JL s) h0 (ordO s d) (fun o ho => ih o ho (by omega))
        (fun i => decide (s.can (picked s.left (m - 2 ^ i) ++ s.done) (s.left.getD i 0) = true ∧ s.inTime d (s.left.getD i 0) (s.spent s.done + (s.spent (picked s.left (m - 2 ^ i)) + s.work (s.left.getD i 0))) = true)) ?_
      · have hT : ∀ i, m.testBit i = true → (pushes (fun m t => s.orderAt s.left d m t) m).getD (m - 2 ^ i) none = ordO s d (m - 2 ^ i) := by
          intro i c
          have hle := (bit_sub c).1
          have hp := Nat.two_pow_pos i
          unfold ordO
          rw [orders_pushes]
          exact pushes_stay _ _ (by omega) (by omega)
        rw [e]
        generalize pushes (fun m t => s.orderAt s.left d m t) m = T at hT
        have eo : s.orderAt s.left d m T = firstOf ((List.range s.left.length).filterMap fun i => if m.testBit i = false then none else if decide (s.can (picked s.left (m - 2 ^ i) ++ s.done) (s.left.getD i 0) = true ∧ s.inTime d (s.left.getD i 0) (s.spent s.done + (s.spent (picked s.left (m - 2 ^ i)) + s.work (s.left.getD i 0))) = true) = true then (ordO s d (m - 2 ^ i)).map (fun x => x ++ [JL s i]) else none) := by
          unfold Office.orderAt
          rw [if_neg h0]
          refine congrArg firstOf (fm_congr fun i _ => ?_)
          by_cases c : m.testBit i = false
          · rw [if_pos c, if_pos c]
          · rw [if_neg c, if_neg c, ← hT i (by simpa using c)]
            simp only [decide_eq_true_eq]
        rw [eo]
        exact this
      · intro i hi hb
        have hjob := left_job' ok hi
        rw [decide_eq_true_eq]
        unfold goodS
        rw [List.mem_filter, mem_nexts]
        obtain ⟨_, hb2⟩ := bit_sub hb
        unfold Office.can
        rw [hjob.1]
        have hnot : (picked s.left (m - 2 ^ i) ++ s.done).contains (s.left.getD i 0) = false := by
          rw [← Bool.not_eq_true, List.contains_iff_mem, List.mem_append]
          rintro (h | h)
          · obtain ⟨k, h1, h2⟩ := mem_picked.mp h
            have := nodup_at (rise_nodup (left_rise s)) h1 (get_of_lt hi)
            subst this
            rw [hb2] at h2
            cases h2
          · exact hjob.2 h
        rw [hnot]
        simp only [Bool.true_and, Bool.not_false]
        exact ⟨fun ⟨h1, h2⟩ => ⟨⟨hi, hb2, h1⟩, h2⟩, fun ⟨⟨_, _, h1⟩, h2⟩ => ⟨h1, h2⟩⟩
where
  left_job' {s : Office} (ok : Ok s) {i : Nat} (hi : i < s.left.length) : s.isJob (s.left.getD i 0) = true ∧ s.left.getD i 0 ∉ s.done := by
    have := (mem_left ok).mp (List.mem_of_getElem? (get_of_lt hi))
    exact ⟨this.1, this.2.1⟩
theorem hasAll_iff {s : Office} {d : List (Nat × Nat)} (hd : ∀ x ∈ d, x.1 ∈ s.left) {is : List Nat} {m : Nat} (h : Go (goodS s d) 0 is m) : hasAll s d m = true ↔ ∀ x ∈ d, x.1 ∈ is.map (JL s) := by
  have hh := Go.has (goodS_stp s d) h
  unfold hasAll
  rw [List.all_eq_true]
  constructor
  · intro ha x hx
    obtain ⟨i, hi⟩ := List.mem_iff_getElem?.mp (hd x hx)
    have hil := (List.getElem?_eq_some_iff.mp hi).1
    have hg : s.left.getD i 0 = x.1 := by rw [List.getD_eq_getElem?_getD, hi]; rfl
    have := ha i (List.mem_range.mpr hil)
    rw [hg, List.any_eq_true.mpr ⟨x, hx, by simp⟩] at this
    have hb : m.testBit i = true := by simpa using this
    rw [hh i] at hb
    have hm : i ∈ is := by simpa using hb
    exact List.mem_map.mpr ⟨i, hm, hg⟩
  · intro ha i hi
    have hil := List.mem_range.mp hi
    cases c : d.any fun x => x.1 == s.left.getD i 0 with
    | false => rfl
    | true =>
      obtain ⟨x, hx, he⟩ := List.any_eq_true.mp c
      have he : x.1 = s.left.getD i 0 := by simpa using he
      obtain ⟨j, hj, hje⟩ := List.mem_map.mp (ha x hx)
      have hjl := Go.lts (goodS_stp s d) h j hj
      have : j = i := nodup_at (rise_nodup (left_rise s)) (left_at hjl hje) (left_at hil he.symm)
      subst this
      rw [hh j]
      simp [hj]
/-- the program's answer -/
def saveL (s : Office) (d : List (Nat × Nat)) : Option (List Nat) := if d.all (fun x => s.left.contains x.1) = true then (wantS s d 0).map fun w => (goS (goodS s d) (wantS s d) w 0).map (JL s) else none
theorem save_eq {s : Office} (ok : Ok s) (p day : Nat) : s.save p day = saveL s (s.due p day) := by
  generalize hd : s.due p day = d
  have hs : s.save p day = (firstOf (((s.orders s.left d).toList.filterMap fun (x : Option (List Nat)) => x).filter (fun (x : List Nat) => d.all fun (y : Nat × Nat) => x.contains y.1) |>.map fun (x : List Nat) => x.length :: x)).map fun (x : List Nat) => x.drop 1 := by
    unfold Office.save
    rw [hd]
  rw [hs]
  generalize hL : (((s.orders s.left d).toList.filterMap fun (x : Option (List Nat)) => x).filter (fun (x : List Nat) => d.all fun (y : Nat × Nat) => x.contains y.1) |>.map fun (x : List Nat) => x.length :: x) = L
  have mem : ∀ z, z ∈ L ↔ ∃ m, m < 2 ^ s.left.length ∧ ∃ x, ordO s d m = some x ∧ (∀ y ∈ d, y.1 ∈ x) ∧ z = x.length :: x := by
    intro z
    rw [← hL, orders_pushes, pushes_list _ none]
    simp only [List.mem_map, List.mem_filter, List.mem_filterMap, List.mem_range, List.all_eq_true, List.contains_iff_mem]
    constructor
    · rintro ⟨x, ⟨⟨o, ⟨m, hm, rfl⟩, hx⟩, ha⟩, rfl⟩
      exact ⟨m, hm, x, hx, ha, rfl⟩
    · rintro ⟨m, hm, x, hx, ha, rfl⟩
      exact ⟨x, ⟨⟨_, ⟨m, hm, rfl⟩, hx⟩, ha⟩, rfl⟩
  have hpos : 0 < 2 ^ s.left.length := Nat.two_pow_pos _
  have S := goodS_stp s d
  have hW := fun m hm => wantS_ok s d m hm
  have hJ : ∀ i j, j < s.left.length → i < j → JL s i < JL s j := fun i j hj hij => getD_rise (left_rise s) hj hij
  unfold saveL
  by_cases c : d.all (fun x => s.left.contains x.1) = true
  · rw [if_pos c]
    have hdl : ∀ x ∈ d, x.1 ∈ s.left := fun x hx => by simpa using List.all_eq_true.mp c x hx
    cases hw : wantS s d 0 with
    | none =>
      have : L = [] := by
        rw [List.eq_nil_iff_forall_not_mem]
        intro z hz
        obtain ⟨m, hm, x, hx, ha, _⟩ := (mem z).mp hz
        obtain ⟨is, g1, rfl, _⟩ := (ordO_least ok d m hm).yes x hx
        exact (hW 0 hpos).2 hw is m g1 ((hasAll_iff hdl g1).mpr ha)
      rw [this]
      rfl
    | some w =>
      obtain ⟨⟨m, g1, g2⟩, g3, g4⟩ := goS_ok hW S w hpos hw
      have hmb := Go.below S g1 hpos
      generalize hord : goS (goodS s d) (wantS s d) w 0 = ord at g1 g3 g4
      have hol := Go.lts S g1
      -- the specification's order of that set is this one
      have heq : ordO s d m = some (ord.map (JL s)) := by
        cases ho : ordO s d m with
        | none => exact absurd g1 ((ordO_least ok d m hmb).no ho ord)
        | some x =>
          obtain ⟨is, f1, rfl, f2⟩ := (ordO_least ok d m hmb).yes x ho
          have hil := Go.lts S f1
          have h1 := f2 ord g1
          have h2 := g4 is m f1 g2 (by rw [← g3]; exact go_zero_len S f1 g1)
          rw [before_map hJ hol hil] at h1
          rcases before_total h1 with e | e
          · rw [e]
          · rw [h2] at e; cases e
      have hy : w :: ord.map (JL s) ∈ L := (mem _).mpr ⟨m, hmb, _, heq, (hasAll_iff hdl g1).mp g2, by rw [List.length_map, g3]⟩
      rw [firstOf_eq, optLeast_some before_st hy fun z hz => ?_]
      · rw [Option.map_some, Option.map_some, hord]
        rfl
      · obtain ⟨m2, hm2, x, hx, ha, rfl⟩ := (mem z).mp hz
        obtain ⟨is, f1, rfl, f2⟩ := (ordO_least ok d m2 hm2).yes x hx
        have hil := Go.lts S f1
        have hd2 := (hasAll_iff hdl f1).mpr ha
        have hmin := ((hW 0 hpos).1 w hw).2 is m2 f1 hd2
        rw [List.length_map]
        simp only [before, Bool.or_eq_false_iff, decide_eq_false_iff_not, Bool.and_eq_false_iff, beq_eq_false_iff_ne]
        refine ⟨by omega, ?_⟩
        by_cases e : is.length = w
        · right
          rw [before_map hJ hil hol]
          exact g4 is m2 f1 hd2 e
        · exact .inl e
  · rw [if_neg c]
    have : L = [] := by
      rw [List.eq_nil_iff_forall_not_mem]
      intro z hz
      obtain ⟨m, hm, x, hx, ha, _⟩ := (mem z).mp hz
      obtain ⟨is, g1, rfl, _⟩ := (ordO_least ok d m hm).yes x hx
      refine c (List.all_eq_true.mpr fun y hy => ?_)
      obtain ⟨i, hi, he⟩ := List.mem_map.mp (ha y hy)
      rw [List.contains_iff_mem, ← he]
      exact List.mem_of_getElem? (get_of_lt (Go.lts S g1 i hi))
    rw [this]
    rfl
end Sc
end

section
set_option autoImplicit false
namespace Sc
open TimStorm
/-! ### drives: steps of minutes and places -/
abbrev T3 := Nat × Nat × List Nat
def flat (x : T3) : List Nat := x.1 :: x.2.1 :: x.2.2
theorem flat_inj {x y : T3} (h : flat x = flat y) : x = y := by
  unfold flat at h
  injection h with h1 h2
  injection h2 with h2 h3
  exact Prod.ext h1 (Prod.ext h2 h3)
def ext3 (x : T3) (m p : Nat) : T3 := (x.1 + m, x.2.1 + 1, x.2.2 ++ [p])
def home : T3 := (0, 1, [0])
/-- a way from place to place in so many minutes -/
def Edge (ws : List Way) (q p m : Nat) : Prop := ∃ w ∈ ws, w.minutes = m ∧ ((w.a = q ∧ w.b = p) ∨ (w.b = q ∧ w.a = p))
def Path (ws : List Way) : Nat → List (Nat × Nat) → Nat → Prop
  | q, [], p => q = p
  | q, x :: r, p => Edge ws q x.2 x.1 ∧ Path ws x.2 r p
def val (σ : List (Nat × Nat)) : T3 := σ.foldl (fun d x => ext3 d x.1 x.2) home
theorem val_snoc (σ : List (Nat × Nat)) (x : Nat × Nat) : val (σ ++ [x]) = ext3 (val σ) x.1 x.2 := by
  unfold val
  rw [List.foldl_append]
  rfl
def mins (σ : List (Nat × Nat)) : Nat := total (σ.map (·.1))
theorem val_shape (σ : List (Nat × Nat)) : (val σ).2.2.length = (val σ).2.1 ∧ (val σ).1 = mins σ := by
  have key : ∀ (σ : List (Nat × Nat)) (d : T3), d.2.2.length = d.2.1 → (σ.foldl (fun d x => ext3 d x.1 x.2) d).2.2.length = (σ.foldl (fun d x => ext3 d x.1 x.2) d).2.1 ∧ (σ.foldl (fun d x => ext3 d x.1 x.2) d).1 = d.1 + mins σ := by
    intro σ
    induction σ with
    | nil => intro d h; exact ⟨h, rfl⟩
    | cons x σ ih =>
      intro d h
      obtain ⟨h1, h2⟩ := ih (ext3 d x.1 x.2) (by simp [ext3, h])
      refine ⟨h1, h2.trans ?_⟩
      show d.1 + x.1 + mins σ = d.1 + (x.1 + mins σ)
      omega
  obtain ⟨h1, h2⟩ := key σ home rfl
  exact ⟨h1, h2.trans (Nat.zero_add _)⟩
def lt3 (x y : T3) : Bool := before (flat x) (flat y)
theorem lt3_st : StrictTotal lt3 := ⟨before_trans, fun h => (before_total h).imp flat_inj id, fun _ => before_irrefl _⟩
theorem ext3_lt {x y : T3} (hx : x.2.2.length = x.2.1) (hy : y.2.2.length = y.2.1) (m p : Nat) (h : lt3 x y = true) : lt3 (ext3 x m p) (ext3 y m p) = true := by
  obtain ⟨a, c, r⟩ := x
  obtain ⟨a', c', r'⟩ := y
  simp only at hx hy
  unfold lt3 flat ext3 at *
  simp only [before, Bool.or_eq_true, decide_eq_true_eq, Bool.and_eq_true, beq_iff_eq] at h ⊢
  rcases h with h | ⟨h1, h | ⟨h2, h⟩⟩
  · left; omega
  · right; exact ⟨by omega, .inl (by omega)⟩
  · right
    refine ⟨by omega, .inr ⟨by omega, ?_⟩⟩
    rw [before_snoc (by rw [hx, hy, h2]), h]
    rfl
section
variable {ws : List Way}
theorem Path.snoc : ∀ {σ : List (Nat × Nat)} {q p : Nat} {x : Nat × Nat}, Path ws q σ p → Edge ws p x.2 x.1 → Path ws q (σ ++ [x]) x.2
  | [], q, p, x, h, e => by
    obtain rfl : q = p := h
    exact ⟨e, rfl⟩
  | y :: r, q, p, x, h, e => ⟨h.1, Path.snoc h.2 e⟩
theorem Path.last : ∀ {σ : List (Nat × Nat)} {q p : Nat} {x : Nat × Nat}, Path ws q (σ ++ [x]) p → ∃ o, Path ws q σ o ∧ Edge ws o x.2 x.1 ∧ p = x.2
  | [], q, p, x, h => ⟨q, rfl, h.1, (show x.2 = p from h.2).symm⟩
  | y :: r, q, p, x, h => by
    obtain ⟨o, h1, h2⟩ := Path.last h.2
    exact ⟨o, ⟨h.1, h1⟩, h2⟩
theorem Path.tail : ∀ {σ : List (Nat × Nat)} {x p q : Nat}, Path ws x σ p → q ∈ x :: σ.map (·.2) → ∃ τ, Path ws q τ p ∧ τ.length ≤ σ.length ∧ mins τ ≤ mins σ
  | [], x, p, q, h, hq => by
    have : q = x := by simpa using hq
    rw [this]
    exact ⟨[], h, Nat.le_refl _, Nat.le_refl _⟩
  | y :: r, x, p, q, h, hq => by
    rcases List.mem_cons.mp hq with e | hq
    · rw [e]
      exact ⟨y :: r, h, Nat.le_refl _, Nat.le_refl _⟩
    · obtain ⟨τ, h1, h2, h3⟩ := Path.tail h.2 hq
      refine ⟨τ, h1, by rw [List.length_cons]; omega, ?_⟩
      show mins τ ≤ y.1 + mins r
      omega
theorem Path.cut (hm : ∀ w ∈ ws, 1 ≤ w.minutes) : ∀ {σ : List (Nat × Nat)} {q p : Nat}, Path ws q σ p → ¬ (q :: σ.map (·.2)).Nodup → ∃ τ, Path ws q τ p ∧ τ.length < σ.length ∧ mins τ < mins σ
  | [], q, p, h, hn => absurd (by simp) hn
  | x :: r, q, p, h, hn => by
    have hx : 1 ≤ x.1 := by
      obtain ⟨w, hw, e, _⟩ := h.1
      rw [← e]
      exact hm w hw
    by_cases c : q ∈ x.2 :: r.map (·.2)
    · obtain ⟨τ, h1, h2, h3⟩ := Path.tail h.2 c
      refine ⟨τ, h1, by rw [List.length_cons]; omega, ?_⟩
      show mins τ < x.1 + mins r
      omega
    · have hn2 : ¬ (x.2 :: r.map (·.2)).Nodup := fun z => hn (by rw [List.map_cons]; exact List.nodup_cons.mpr ⟨c, z⟩)
      obtain ⟨τ, h1, h2, h3⟩ := Path.cut hm h.2 hn2
      refine ⟨x :: τ, ⟨h.1, h1⟩, by rw [List.length_cons, List.length_cons]; omega, ?_⟩
      show x.1 + mins τ < x.1 + mins r
      omega
theorem Path.lts {n : Nat} (hw : ∀ w ∈ ws, w.a < n ∧ w.b < n) : ∀ {σ : List (Nat × Nat)} {q p : Nat}, q < n → Path ws q σ p → ∀ x ∈ q :: σ.map (·.2), x < n
  | [], q, p, hq, h, x, hx => by
    have : x = q := by simpa using hx
    rw [this]; exact hq
  | y :: r, q, p, hq, h, x, hx => by
    rcases List.mem_cons.mp hx with e | hx
    · rw [e]; exact hq
    · refine Path.lts hw ?_ h.2 x hx
      obtain ⟨w, hww, _, ⟨_, e⟩ | ⟨_, e⟩⟩ := h.1
      · rw [← e]; exact (hw w hww).2
      · rw [← e]; exact (hw w hww).1
theorem Path.end_lt {n : Nat} (hw : ∀ w ∈ ws, w.a < n ∧ w.b < n) : ∀ {σ : List (Nat × Nat)} {q p : Nat}, q < n → Path ws q σ p → p < n
  | [], q, p, hq, h => by
    obtain rfl : q = p := h
    exact hq
  | y :: r, q, p, hq, h => Path.end_lt hw (Path.lts hw hq h y.2 (by simp)) h.2
/-- a path no longer than the places, and no worse -/
theorem Path.short {n : Nat} (h0 : 0 < n) (hw : ∀ w ∈ ws, w.a < n ∧ w.b < n) (hm : ∀ w ∈ ws, 1 ≤ w.minutes) : ∀ (k : Nat) {σ : List (Nat × Nat)} {p : Nat}, σ.length ≤ k → Path ws 0 σ p → ∃ τ, Path ws 0 τ p ∧ τ.length ≤ n - 1 ∧ (τ = σ ∨ lt3 (val τ) (val σ) = true)
  | 0, σ, p, hk, h => ⟨σ, h, by omega, .inl rfl⟩
  | k + 1, σ, p, hk, h => by
    by_cases c : σ.length ≤ n - 1
    · exact ⟨σ, h, c, .inl rfl⟩
    · have hn : ¬ (0 :: σ.map (·.2)).Nodup := by
        intro hn
        have := sub_len (0 :: σ.map (·.2)) (List.range n) hn fun x hx => List.mem_range.mpr (Path.lts hw h0 h x hx)
        rw [List.length_range, List.length_cons, List.length_map] at this
        omega
      obtain ⟨τ, h1, h2, h3⟩ := Path.cut hm h hn
      obtain ⟨υ, g1, g2, g3⟩ := Path.short h0 hw hm k (by omega) h1
      have hlt : lt3 (val τ) (val σ) = true := by
        unfold lt3 flat
        simp only [before, Bool.or_eq_true, decide_eq_true_eq]
        left
        rw [(val_shape τ).2, (val_shape σ).2]
        exact h3
      refine ⟨υ, g1, g2, .inr ?_⟩
      rcases g3 with rfl | g3
      · exact hlt
      · exact lt3_st.tr g3 hlt
/-- no path to a place is better -/
structure Best (ws : List Way) (p : Nat) (x : Option T3) : Prop where
  is : ∀ d, x = some d → ∃ σ, Path ws 0 σ p ∧ val σ = d
  all : ∀ σ, Path ws 0 σ p → ∃ d, x = some d ∧ lt3 (val σ) d = false
theorem Best.one {p : Nat} {x y : Option T3} (h : Best ws p x) (g : Best ws p y) : x = y := by
  cases x with
  | none =>
    cases y with
    | none => rfl
    | some d =>
      obtain ⟨σ, h1, _⟩ := g.is d rfl
      obtain ⟨e, he, _⟩ := h.all σ h1
      cases he
  | some d =>
    obtain ⟨σ, h1, rfl⟩ := h.is d rfl
    obtain ⟨e, rfl, he⟩ := g.all σ h1
    obtain ⟨τ, g1, rfl⟩ := g.is e rfl
    obtain ⟨d', hd', h2⟩ := h.all τ g1
    obtain rfl := Option.some.inj hd'
    rcases lt3_st.tot he with z | z
    · rw [z]
    · rw [h2] at z; cases z
/-- .. of those of so many ways -/
structure BestUp (ws : List Way) (t p : Nat) (x : Option T3) : Prop where
  is : ∀ d, x = some d → ∃ σ, Path ws 0 σ p ∧ val σ = d
  all : ∀ σ, Path ws 0 σ p → σ.length ≤ t → ∃ d, x = some d ∧ lt3 (val σ) d = false
theorem BestUp.best {n t p : Nat} {x : Option T3} (h0 : 0 < n) (hw : ∀ w ∈ ws, w.a < n ∧ w.b < n) (hm : ∀ w ∈ ws, 1 ≤ w.minutes) (ht : n - 1 ≤ t) (h : BestUp ws t p x) : Best ws p x := by
  refine ⟨h.is, fun σ hσ => ?_⟩
  obtain ⟨τ, h1, h2, h3⟩ := Path.short h0 hw hm σ.length (Nat.le_refl _) hσ
  obtain ⟨d, hd, h4⟩ := h.all τ h1 (by omega)
  refine ⟨d, hd, ?_⟩
  rcases h3 with rfl | h3
  · exact h4
  · cases c : lt3 (val σ) d with
    | false => rfl
    | true =>
      rw [lt3_st.tr h3 c] at h4
      cases h4
/-! ### the program's turns -/
def better (x : T3) : Option T3 → Bool
  | none => true
  | some y => lt3 x y
def relax (D : List (Option T3)) (q p m : Nat) : List (Option T3) := match D.getD q none with
  | none => D
  | some x => if better (ext3 x m p) (D.getD p none) = true then D.set p (some (ext3 x m p)) else D
def relaxW (D : List (Option T3)) (w : Way) : List (Option T3) := relax (relax D w.a w.b w.minutes) w.b w.a w.minutes
def qrun (n : Nat) (ws : List Way) : Nat → List (Option T3)
  | 0 => (List.replicate n none).set 0 (some home)
  | t + 1 => ws.foldl relaxW (qrun n ws t)
theorem relax_len (D : List (Option T3)) (q p m : Nat) : (relax D q p m).length = D.length := by
  unfold relax
  split
  · rfl
  · split <;> simp
theorem relaxW_len (D : List (Option T3)) (w : Way) : (relaxW D w).length = D.length := by unfold relaxW; rw [relax_len, relax_len]
theorem relaxs_len : ∀ (l : List Way) (D : List (Option T3)), (l.foldl relaxW D).length = D.length
  | [], _ => rfl
  | w :: l, D => by rw [List.foldl_cons, relaxs_len l, relaxW_len]
theorem qrun_len (n : Nat) (l : List Way) : ∀ t, (qrun n l t).length = n
  | 0 => by simp [qrun]
  | t + 1 => by unfold qrun; rw [relaxs_len, qrun_len n l t]
/-- what stands is of a path -/
def Sound (ws : List Way) (D : List (Option T3)) : Prop := ∀ p d, D.getD p none = some d → ∃ σ, Path ws 0 σ p ∧ val σ = d
/-- what stands is no worse than a path -/
def Cov (D : List (Option T3)) (p : Nat) (σ : List (Nat × Nat)) : Prop := ∃ d, D.getD p none = some d ∧ lt3 (val σ) d = false
theorem relax_at {D : List (Option T3)} {q p m : Nat} (hp : p < D.length) (r : Nat) : (relax D q p m).getD r none = if r = p ∧ ∃ x, D.getD q none = some x ∧ better (ext3 x m p) (D.getD p none) = true then (D.getD q none).map fun x => ext3 x m p else D.getD r none := by
  unfold relax
  cases hq : D.getD q none with
  | none =>
    rw [if_neg (by rintro ⟨_, x, hx, _⟩; cases hx)]
  | some x =>
    simp only
    by_cases c : better (ext3 x m p) (D.getD p none) = true
    · rw [if_pos c]
      by_cases e : r = p
      · subst e
        rw [if_pos ⟨rfl, x, rfl, c⟩, List.getD_eq_getElem?_getD, List.getElem?_set_self hp]
        rfl
      · rw [if_neg (fun z => e z.1), List.getD_eq_getElem?_getD, List.getElem?_set_ne (Ne.symm e), ← List.getD_eq_getElem?_getD]
    · rw [if_neg c, if_neg]
      rintro ⟨_, y, hy, hc⟩
      obtain rfl := Option.some.inj hy
      exact c hc
theorem relax_sound {D : List (Option T3)} {q p m : Nat} (hp : p < D.length) (he : Edge ws q p m) (h : Sound ws D) : Sound ws (relax D q p m) := by
  intro r d hr
  rw [relax_at hp] at hr
  split at hr
  · rename_i c
    obtain ⟨rfl, x, hx, _⟩ := c
    rw [hx] at hr
    obtain rfl := Option.some.inj hr
    obtain ⟨σ, h1, rfl⟩ := h q x hx
    exact ⟨σ ++ [(m, r)], Path.snoc (x := (m, r)) h1 he, val_snoc _ _⟩
  · exact h r d hr
theorem relax_cov {D : List (Option T3)} {q p m : Nat} (hp : p < D.length) {r : Nat} {σ : List (Nat × Nat)} (h : Cov D r σ) : Cov (relax D q p m) r σ := by
  obtain ⟨d, h1, h2⟩ := h
  unfold Cov
  rw [relax_at hp]
  split
  · rename_i c
    obtain ⟨rfl, x, hx, hc⟩ := c
    rw [h1] at hc
    refine ⟨ext3 x m r, by rw [hx]; rfl, ?_⟩
    cases z : lt3 (val σ) (ext3 x m r) with
    | false => rfl
    | true =>
      rw [lt3_st.tr z hc] at h2
      cases h2
  · exact ⟨d, h1, h2⟩
theorem relax_new {D : List (Option T3)} {q p m : Nat} (hp : p < D.length) (hs : Sound ws D) {σ : List (Nat × Nat)} (h : Cov D q σ) : Cov (relax D q p m) p (σ ++ [(m, p)]) := by
  obtain ⟨d, h1, h2⟩ := h
  have hle : lt3 (val (σ ++ [(m, p)])) (ext3 d m p) = false := by
    rw [val_snoc]
    obtain ⟨τ, _, rfl⟩ := hs q d h1
    rcases lt3_st.tot h2 with e | e
    · rw [e]; exact lt3_st.irr _
    · have := ext3_lt (val_shape τ).1 (val_shape σ).1 m p e
      cases z : lt3 (ext3 (val σ) m p) (ext3 (val τ) m p) with
      | false => rfl
      | true =>
        have := lt3_st.tr this z
        rw [lt3_st.irr] at this
        cases this
  unfold Cov
  rw [relax_at hp]
  by_cases c : better (ext3 d m p) (D.getD p none) = true
  · rw [if_pos ⟨rfl, d, h1, c⟩, h1]
    exact ⟨_, rfl, hle⟩
  · rw [if_neg (by
      rintro ⟨_, x, hx, hc⟩
      rw [h1] at hx
      obtain rfl := Option.some.inj hx
      exact c hc)]
    cases hD : D.getD p none with
    | none => rw [hD] at c; exact absurd rfl c
    | some y =>
      rw [hD] at c
      have c' : lt3 (ext3 d m p) y = false := by simpa [better] using c
      refine ⟨y, rfl, ?_⟩
      cases z : lt3 (val (σ ++ [(m, p)])) y with
      | false => rfl
      | true =>
        exfalso
        rcases lt3_st.tot hle with e | e
        · rw [e, c'] at z; cases z
        · rw [lt3_st.tr e z] at c'; cases c'
theorem relaxs_ok {n : Nat} (hws : ∀ w ∈ ws, w.a < n ∧ w.b < n) : ∀ (l : List Way) {D : List (Option T3)}, (∀ w ∈ l, w ∈ ws) → D.length = n → Sound ws D →
    Sound ws (l.foldl relaxW D) ∧ (∀ r σ, Cov D r σ → Cov (l.foldl relaxW D) r σ) ∧ ∀ w ∈ l, ∀ σ, (Cov D w.a σ → Cov (l.foldl relaxW D) w.b (σ ++ [(w.minutes, w.b)])) ∧ (Cov D w.b σ → Cov (l.foldl relaxW D) w.a (σ ++ [(w.minutes, w.a)]))
  | [], D, _, _, hs => ⟨hs, fun _ _ h => h, fun w hw => absurd hw (by simp)⟩
  | w :: l, D, hl, hn, hs => by
    have hw := hl w List.mem_cons_self
    have hb := hws w hw
    have e1 : Edge ws w.a w.b w.minutes := ⟨w, hw, rfl, .inl ⟨rfl, rfl⟩⟩
    have e2 : Edge ws w.b w.a w.minutes := ⟨w, hw, rfl, .inr ⟨rfl, rfl⟩⟩
    have s1 := relax_sound (by rw [hn]; exact hb.2) e1 hs
    have l1 := (relax_len D w.a w.b w.minutes).trans hn
    have s2 := relax_sound (by rw [l1]; exact hb.1) e2 s1
    have l2 : (relaxW D w).length = n := (relaxW_len D w).trans hn
    have c12 : ∀ r σ, Cov D r σ → Cov (relaxW D w) r σ := fun r σ h => relax_cov (by rw [l1]; exact hb.1) (relax_cov (by rw [hn]; exact hb.2) h)
    obtain ⟨g1, g2, g3⟩ := relaxs_ok hws l (fun v hv => hl v (List.mem_cons_of_mem _ hv)) l2 s2
    rw [List.foldl_cons]
    refine ⟨g1, fun r σ h => g2 r σ (c12 r σ h), fun v hv σ => ?_⟩
    rcases List.mem_cons.mp hv with rfl | hv
    · refine ⟨fun h => g2 _ _ ?_, fun h => g2 _ _ ?_⟩
      · exact relax_cov (by rw [l1]; exact hb.1) (relax_new (by rw [hn]; exact hb.2) hs h)
      · exact relax_new (by rw [l1]; exact hb.1) s1 (relax_cov (by rw [hn]; exact hb.2) h)
    · exact ⟨fun h => (g3 v hv σ).1 (c12 _ _ h), fun h => (g3 v hv σ).2 (c12 _ _ h)⟩
theorem qrun_ok {n : Nat} (h0 : 0 < n) (hws : ∀ w ∈ ws, w.a < n ∧ w.b < n) : ∀ t, Sound ws (qrun n ws t) ∧ ∀ p σ, Path ws 0 σ p → σ.length ≤ t → Cov (qrun n ws t) p σ
  | 0 => by
    have hz : ∀ p, (qrun n ws 0).getD p none = if p = 0 then some home else none := by
      intro p
      unfold qrun
      rw [List.getD_eq_getElem?_getD, List.getElem?_set]
      by_cases e : 0 = p
      · subst e; simp [h0]
      · by_cases c : p < n
        · simp [e, Ne.symm e, c]
        · simp [e, Ne.symm e, c]
    refine ⟨fun p d h => ?_, fun p σ h hl => ?_⟩
    · rw [hz] at h
      split at h
      · rename_i e
        obtain rfl := Option.some.inj h
        exact ⟨[], e.symm, rfl⟩
      · cases h
    · have : σ = [] := List.eq_nil_of_length_eq_zero (by omega)
      subst this
      have : 0 = p := h
      exact ⟨home, by rw [hz, if_pos this.symm], lt3_st.irr _⟩
  | t + 1 => by
    obtain ⟨h1, h2⟩ := qrun_ok h0 hws t
    obtain ⟨g1, g2, g3⟩ := relaxs_ok hws ws (fun _ h => h) (qrun_len n ws t) h1
    refine ⟨g1, fun p σ h hl => ?_⟩
    rcases List.eq_nil_or_concat σ with e | ⟨τ, x, e⟩
    · subst e
      exact g2 _ _ (h2 p [] h (Nat.zero_le _))
    · rw [List.concat_eq_append] at e
      subst e
      obtain ⟨o, p1, ⟨w, hw, hm, hh⟩, rfl⟩ := Path.last h
      rw [List.length_append] at hl
      have hc := h2 o τ p1 (by simpa using hl)
      have ex : x = (w.minutes, x.2) := Prod.ext hm.symm rfl
      rcases hh with ⟨ha, hb⟩ | ⟨hb, ha⟩
      · rw [← ha] at hc
        have := (g3 w hw τ).1 hc
        rw [hb, ← ex] at this
        exact this
      · rw [← hb] at hc
        have := (g3 w hw τ).2 hc
        rw [ha, ← ex] at this
        exact this
end
/-- how long the rows grow -/
theorem relax_rows {D : List (Option T3)} {q p m k : Nat} (hp : p < D.length) (h : ∀ r d, D.getD r none = some d → d.2.2.length ≤ k) : ∀ r d, (relax D q p m).getD r none = some d → d.2.2.length ≤ k + 1 := by
  intro r d hr
  rw [relax_at hp] at hr
  split at hr
  · rename_i c
    obtain ⟨rfl, x, hx, _⟩ := c
    rw [hx] at hr
    obtain rfl := Option.some.inj hr
    have := h q x hx
    show (x.2.2 ++ [r]).length ≤ k + 1
    simp
    exact this
  · have := h r d hr
    omega
/-! ### the specification's turns -/
theorem mem_drives {s : Office} {p : Nat} {t : List (Option Drive)} {y : Drive} : y ∈ s.drives p t ↔ ∃ q m, Edge (drivable s s.done) q p m ∧ ∃ d, t.getD q none = some d ∧ y = (d.headD 0 + m) :: (d.getD 1 0 + 1) :: (d.drop 2 ++ [p]) := by
  unfold Office.drives
  rw [List.mem_flatMap]
  constructor
  · rintro ⟨k, hk, hy⟩
    by_cases c : s.isOpen s.done k = false
    · rw [if_pos c] at hy; cases hy
    · rw [if_neg c] at hy
      cases hw : s.ways[k]? with
      | none => rw [hw] at hy; cases hy
      | some w =>
        rw [hw] at hy
        simp only [List.mem_filterMap, List.mem_append] at hy
        obtain ⟨q, hq, hd⟩ := hy
        obtain ⟨d, hd1, rfl⟩ := Option.map_eq_some_iff.mp hd
        have hdr : w ∈ drivable s s.done := mem_drivable.mpr ⟨k, hw, by
          unfold Office.isOpen at c
          rw [hw] at c
          simp only [Option.any_some, Bool.not_eq_false, Bool.or_eq_true, beq_iff_eq, List.contains_iff_mem] at c
          exact c⟩
        refine ⟨q, w.minutes, ⟨w, hdr, rfl, ?_⟩, d, hd1, rfl⟩
        rcases hq with hq | hq
        · split at hq
          · exact .inl ⟨(by simpa using hq : q = w.a).symm, by assumption⟩
          · cases hq
        · split at hq
          · exact .inr ⟨(by simpa using hq : q = w.b).symm, by assumption⟩
          · cases hq
  · rintro ⟨q, m, ⟨w, hw, rfl, hh⟩, d, hd, rfl⟩
    obtain ⟨k, hk, ho⟩ := mem_drivable.mp hw
    refine ⟨k, List.mem_range.mpr (List.getElem?_eq_some_iff.mp hk).1, ?_⟩
    have hop : s.isOpen s.done k = true := by
      unfold Office.isOpen
      rw [hk]
      simpa using ho
    rw [if_neg (by rw [hop]; decide), hk]
    simp only [List.mem_filterMap, List.mem_append]
    refine ⟨q, ?_, by rw [hd]; rfl⟩
    rcases hh with ⟨rfl, hb⟩ | ⟨rfl, ha⟩
    · left; rw [if_pos hb]; simp
    · right; rw [if_pos ha]; simp
theorem driven_len (s : Office) : ∀ f, (s.driven f).length = s.n
  | 0 => by simp [Office.driven]
  | f + 1 => by simp [Office.driven]
theorem driven_zero (s : Office) {p : Nat} (hp : p < s.n) : (s.driven 0).getD p none = if p = 0 then some [0, 1, 0] else none := by
  unfold Office.driven
  rw [List.getD_eq_getElem?_getD, List.getElem?_map, List.getElem?_range hp]
  rfl
theorem driven_succ (s : Office) (f : Nat) {p : Nat} (hp : p < s.n) : (s.driven (f + 1)).getD p none = firstOf (((s.driven f).getD p none).toList ++ s.drives p (s.driven f)) := by
  show ((List.range s.n).map _).getD p none = _
  rw [List.getD_eq_getElem?_getD, List.getElem?_map, List.getElem?_range hp]
  rfl
theorem driven_ok {s : Office} (ok : Ok s) : ∀ f p, p < s.n → ∃ x, (s.driven f).getD p none = x.map flat ∧ BestUp (drivable s s.done) f p x := by
  have hws : ∀ w ∈ drivable s s.done, w.a < s.n ∧ w.b < s.n := fun w hw => drv_lt ok w (mem_drivable.mp hw)
  intro f
  induction f with
  | zero =>
    intro p hp
    rw [driven_zero s hp]
    by_cases e : p = 0
    · subst e
      refine ⟨some home, rfl, fun d hd => ?_, fun σ h hl => ?_⟩
      · obtain rfl := Option.some.inj hd
        exact ⟨[], rfl, rfl⟩
      · rw [List.eq_nil_of_length_eq_zero (show σ.length = 0 by omega)]
        exact ⟨home, rfl, lt3_st.irr _⟩
    · rw [if_neg e]
      refine ⟨none, rfl, fun d hd => (by cases hd), fun σ h hl => ?_⟩
      rw [List.eq_nil_of_length_eq_zero (show σ.length = 0 by omega)] at h
      exact absurd (show 0 = p from h).symm e
  | succ f ih =>
    intro p hp
    rw [driven_succ s f hp]
    generalize hL : ((s.driven f).getD p none).toList ++ s.drives p (s.driven f) = L
    have mem : ∀ y, y ∈ L ↔ (s.driven f).getD p none = some y ∨ ∃ q m, Edge (drivable s s.done) q p m ∧ ∃ d, (s.driven f).getD q none = some d ∧ y = (d.headD 0 + m) :: (d.getD 1 0 + 1) :: (d.drop 2 ++ [p]) := by
      intro y
      rw [← hL, List.mem_append, mem_drives, Option.mem_toList]
    have snd : ∀ y ∈ L, ∃ σ, Path (drivable s s.done) 0 σ p ∧ flat (val σ) = y := by
      intro y hy
      rcases (mem y).mp hy with h | ⟨q, m, he, d, hd, rfl⟩
      · obtain ⟨x, hx, hb⟩ := ih p hp
        rw [hx] at h
        obtain ⟨z, rfl, rfl⟩ := Option.map_eq_some_iff.mp h
        obtain ⟨σ, h1, rfl⟩ := hb.is z rfl
        exact ⟨σ, h1, rfl⟩
      · have hq : q < s.n := by
          obtain ⟨w, hw, _, ⟨e, _⟩ | ⟨e, _⟩⟩ := he
          · rw [← e]; exact (hws w hw).1
          · rw [← e]; exact (hws w hw).2
        obtain ⟨x, hx, hb⟩ := ih q hq
        rw [hx] at hd
        obtain ⟨z, rfl, rfl⟩ := Option.map_eq_some_iff.mp hd
        obtain ⟨σ, h1, rfl⟩ := hb.is z rfl
        refine ⟨σ ++ [(m, p)], Path.snoc (x := (m, p)) h1 he, ?_⟩
        rw [val_snoc]
        rfl
    have cov : ∀ σ, Path (drivable s s.done) 0 σ p → σ.length ≤ f + 1 → ∃ y ∈ L, before (flat (val σ)) y = false := by
      intro σ h hl
      rcases List.eq_nil_or_concat σ with e | ⟨τ, x, e⟩
      · subst e
        obtain ⟨y, hy, hb⟩ := ih p hp
        obtain ⟨d, rfl, hd⟩ := hb.all [] h (Nat.zero_le _)
        exact ⟨flat d, (mem _).mpr (.inl hy), hd⟩
      · rw [List.concat_eq_append] at e
        subst e
        obtain ⟨o, p1, he, rfl⟩ := Path.last h
        rw [List.length_append] at hl
        have ho : o < s.n := Path.end_lt hws ok.n0 p1
        obtain ⟨y, hy, hb⟩ := ih o ho
        obtain ⟨d, rfl, hd⟩ := hb.all τ p1 (by simpa using hl)
        refine ⟨flat (ext3 d x.1 x.2), (mem _).mpr (.inr ⟨o, x.1, he, flat d, hy, rfl⟩), ?_⟩
        rw [val_snoc]
        obtain ⟨υ, _, rfl⟩ := hb.is d rfl
        rcases lt3_st.tot hd with e | e
        · rw [e]; exact before_irrefl _
        · have := ext3_lt (val_shape υ).1 (val_shape τ).1 x.1 x.2 e
          cases z : before (flat (ext3 (val τ) x.1 x.2)) (flat (ext3 (val υ) x.1 x.2)) with
          | false => rfl
          | true =>
            have := lt3_st.tr this z
            rw [lt3_st.irr] at this
            cases this
    rw [firstOf_eq]
    cases hO : optLeast before L with
    | none =>
      refine ⟨none, rfl, fun d hd => (by cases hd), fun σ h hl => ?_⟩
      obtain ⟨y, hy, _⟩ := cov σ h hl
      cases L with
      | nil => cases hy
      | cons a L => rw [optLeast_cons] at hO; cases hO
    | some y =>
      obtain ⟨h1, h2⟩ := optLeast_ok before_st hO
      obtain ⟨σ, g1, rfl⟩ := snd y h1
      refine ⟨some (val σ), rfl, fun d hd => ?_, fun τ h hl => ?_⟩
      · obtain rfl := Option.some.inj hd
        exact ⟨σ, g1, rfl⟩
      · refine ⟨val σ, rfl, ?_⟩
        obtain ⟨z, hz, hb⟩ := cov τ h hl
        have hz2 := h2 z hz
        cases c : lt3 (val τ) (val σ) with
        | false => rfl
        | true =>
          exfalso
          rcases before_total hb with e | e
          · rw [← e] at hz2
            rw [show before (flat (val τ)) (flat (val σ)) = true from c] at hz2
            cases hz2
          · rw [before_trans e c] at hz2
            cases hz2
/-- the quickest drive, as the program finds it -/
theorem near_eq {s : Office} (ok : Ok s) {p : Nat} (hp : p < s.n) : s.near p = ((qrun s.n (drivable s s.done) (s.n - 1)).getD p none).map flat := by
  have hws : ∀ w ∈ drivable s s.done, w.a < s.n ∧ w.b < s.n := fun w hw => drv_lt ok w (mem_drivable.mp hw)
  have hm : ∀ w ∈ drivable s s.done, 1 ≤ w.minutes := fun w hw => by
    obtain ⟨k, e, _⟩ := mem_drivable.mp hw
    exact (ok.wy w (List.mem_of_getElem? e)).2.2.2.1
  obtain ⟨x, hx, hb⟩ := driven_ok ok s.n p hp
  obtain ⟨h1, h2⟩ := qrun_ok (ws := drivable s s.done) ok.n0 hws (s.n - 1)
  have b1 := hb.best ok.n0 hws hm (by omega)
  have b2 : Best (drivable s s.done) p ((qrun s.n (drivable s s.done) (s.n - 1)).getD p none) := (BestUp.mk (fun d hd => h1 p d hd) (fun σ h hl => h2 p σ h hl)).best ok.n0 hws hm (Nat.le_refl _)
  show (s.driven s.n).getD p none = _
  rw [hx, Best.one b1 b2]
end Sc
end

section
set_option autoImplicit false
namespace Sc
open TimStorm
theorem inTime_find {d : List (Nat × Nat)} (hn : (d.map (·.1)).Nodup) (j day : Nat) : (d.all fun x => x.1 != j || decide (day ≤ x.2)) = decide (day ≤ ((d.find? fun x => x.1 == j).map (·.2)).getD day) := by
  induction d with
  | nil => simp
  | cons a d ih =>
    have hn' : a.1 ∉ d.map (·.1) ∧ (d.map (·.1)).Nodup := List.nodup_cons.mp hn
    have ih := ih hn'.2
    rw [List.all_cons, ih]
    by_cases c : a.1 = j
    · rw [List.find?_cons_of_pos (by simpa using c)]
      have hd : d.find? (fun x => x.1 == j) = none := by
        rw [List.find?_eq_none]
        intro x hx hj
        exact hn'.1 (List.mem_map.mpr ⟨x, hx, (by simpa using hj : x.1 = j).trans c.symm⟩)
      rw [hd]
      simp [c]
    · rw [List.find?_cons_of_neg (by simpa using c)]
      have : (a.1 != j) = true := by simpa using c
      rw [this, Bool.true_or, Bool.true_and]
theorem due_nodup (s : Office) (p day : Nat) : ((s.due p day).map (·.1)).Nodup := by
  have : ((s.due p day).map (·.1)).Pairwise (· < ·) := by
    unfold Office.due
    rw [List.map_filterMap]
    refine List.Pairwise.filterMap _ (R := fun a b => a < b) (fun a b hab x hx y hy => ?_) List.pairwise_lt_range
    have key : ∀ (k z : Nat), Option.map (fun x : Nat × Nat => x.1) (if s.done.contains (WAYS + k) = true then none else match s.swarm k p with
      | some x => if x.2 ≤ day then some (WAYS + k, x.1) else none
      | none => none) = some z → z = WAYS + k := by
      intro k z hz
      split at hz
      · cases hz
      · split at hz
        · split at hz
          · exact (Option.some.inj hz).symm
          · cases hz
        · cases hz
    have h1 := key a x hx
    have h2 := key b y hy
    omega
  exact rise_nodup this
theorem hasAll_list (s : Office) (d : List (Nat × Nat)) (m : Nat) : ((s.left.zipIdx.filter fun z => d.any fun x => x.1 == z.1).map fun z => m.testBit z.2).all id = hasAll s d m := by
  unfold hasAll
  rw [Bool.eq_iff_iff, List.all_eq_true, List.all_eq_true]
  constructor
  · intro h i hi
    have hil := List.mem_range.mp hi
    cases c : d.any fun x => x.1 == s.left.getD i 0 with
    | false => rfl
    | true =>
      have hz : (s.left.getD i 0, i) ∈ s.left.zipIdx := by
        rw [List.mem_zipIdx_iff_getElem?]
        exact get_of_lt hil
      have := h (m.testBit i) (List.mem_map.mpr ⟨(s.left.getD i 0, i), List.mem_filter.mpr ⟨hz, c⟩, rfl⟩)
      simpa using this
  · intro h b hb
    obtain ⟨⟨j, i⟩, hz, rfl⟩ := List.mem_map.mp hb
    obtain ⟨h1, h2⟩ := List.mem_filter.mp hz
    rw [List.mem_zipIdx_iff_getElem?] at h1
    have hil := (List.getElem?_eq_some_iff.mp h1).1
    have hg : s.left.getD i 0 = j := by rw [List.getD_eq_getElem?_getD]; simp only at h1; rw [h1]; rfl
    have := h i (List.mem_range.mpr hil)
    rw [hg] at this
    simp only at h2
    rw [h2] at this
    simpa using this
theorem poss_eq (X : List (Option Nat)) : (X.filter fun x => !decide (x = none)).map (fun x => x.getD 0 + 1) = X.filterMap fun x => x.map (· + 1) := by
  induction X with
  | nil => rfl
  | cons a X ih =>
    rw [List.filter_cons, List.filterMap_cons, ← ih]
    cases a <;> simp
theorem goodS_len (s : Office) (d : List (Nat × Nat)) (m : Nat) : (goodS s d m).length ≤ s.left.length := by
  unfold goodS Office.nexts
  exact Nat.le_trans (List.length_filter_le _ _) (Nat.le_trans (List.length_filter_le _ _) (by rw [List.length_range]; exact Nat.le_refl _))
end Sc
end

section
set_option autoImplicit false
namespace Sc
open TimStorm WrtistSpec
/-! ### calls as numbers -/
def numOf : Call → Nat
  | .net _ _ _ => 1 | .way _ _ _ _ => 2 | .wood _ _ _ _ _ => 3 | .table _ _ _ => 4 | .beetle _ _ _ => 5 | .done _ => 6 | .undo => 7 | .state => 8 | .left => 9 | .reached => 10 | .near _ => 11
  | .must _ => 12 | .least _ => 13 | .try_ _ => 14 | .best => 15 | .prove => 16 | .check _ => 17 | .due _ _ => 18 | .save _ _ => 19 | .struck _ => 20 | .whatif _ => 21
def numsOf : Call → List Nat
  | .net n h d => [n, h, d] | .way a b m w => [a, b, m, w] | .wood p k c w d => [p, k, c, w, d] | .table k t _ => [k, t] | .beetle k d g => [k, d, g] | .done j => [j]
  | .near p => [p] | .must p => [p] | .due p d => [p, d] | .save p d => [p, d] | .struck d => [d] | .whatif h => [h]
  | _ => []
def intsN (l : List Nat) : List Int := l.map fun (n : Nat) => (n : Int)
def rowOf : Call → List Int
  | .table _ _ r => intsN r | .least l => intsN l | .try_ l => intsN l | .check r => r
  | _ => []
def ansOf (a : Ans) : List Int := WrtistNeutral.answerNums a
theorem ans_tells (l : List Nat) : ansOf (tells l) = intsN (0 :: l) := rfl
theorem ans_no (z : Int) : ansOf (no z) = [z] := rfl
/-- what a call changes nothing by -/
def isAsk : Call → Prop
  | .state | .left | .reached | .near _ | .must _ | .least _ | .try_ _ | .best | .prove | .check _ | .due _ _ | .save _ _ | .struck _ | .whatif _ => True
  | _ => False
theorem does_ask {s : Office} {c : Call} (h : isAsk c) : does s c = (s, asks s c) := by
  cases c <;> first | rfl | exact h.elim
theorem place_lt {p : Nat} (h : isPlace p = true) : p < 16 := of_decide_eq_true h
theorem within_iff {lo hi n : Nat} : within lo hi n = true ↔ lo ≤ n ∧ n ≤ hi := by
  unfold within
  rw [Bool.and_eq_true, decide_eq_true_eq, decide_eq_true_eq]
theorem getD_last (r : List Int) : r ≠ [] → r[r.length - 1]? = some (r.getD (r.length - 1) 0) := by
  intro h
  have : 0 < r.length := List.length_pos_iff.mpr h
  rw [List.getD_eq_getElem?_getD, List.getElem?_eq_getElem (by omega)]
  rfl
end Sc
end

section
set_option autoImplicit false
namespace Sc
open TimStorm WrtistSpec
theorem rising_iff : ∀ l : List Nat, rising l = true ↔ l.Pairwise (· ≤ ·)
  | [] => by simp [rising]
  | [x] => by simp [rising]
  | x :: y :: l => by
    have ih := rising_iff (y :: l)
    show (decide (x ≤ y) && rising (y :: l)) = true ↔ _
    rw [Bool.and_eq_true, decide_eq_true_eq, ih]
    constructor
    · rintro ⟨h1, h2⟩
      refine List.pairwise_cons.mpr ⟨fun z hz => ?_, h2⟩
      rcases List.mem_cons.mp hz with rfl | hz
      · exact h1
      · exact Nat.le_trans h1 ((List.pairwise_cons.mp h2).1 z hz)
    · intro h
      obtain ⟨h1, h2⟩ := List.pairwise_cons.mp h
      exact ⟨h1 y List.mem_cons_self, h2⟩
theorem perm_sorted : ∀ {l r : List Int}, l.Perm r → l.Pairwise (· ≤ ·) → r.Pairwise (· ≤ ·) → l = r
  | [], r, h, _, _ => (List.Perm.nil_eq h)
  | a :: l, [], h, _, _ => by
    have := h.length_eq
    cases this
  | a :: l, b :: r, h, hl, hr => by
    obtain ⟨l1, l2⟩ := List.pairwise_cons.mp hl
    obtain ⟨r1, r2⟩ := List.pairwise_cons.mp hr
    have ha : a ∈ b :: r := h.mem_iff.mp List.mem_cons_self
    have hb : b ∈ a :: l := h.mem_iff.mpr List.mem_cons_self
    have e : a = b := by
      rcases List.mem_cons.mp ha with e | ha
      · exact e
      · rcases List.mem_cons.mp hb with e | hb
        · exact e.symm
        · exact Int.le_antisymm (l1 b hb) (r1 a ha)
    subst e
    rw [perm_sorted (List.Perm.cons_inv h) l2 r2]
theorem intsN_pairwise {l : List Nat} : (intsN l).Pairwise (· ≤ ·) ↔ l.Pairwise (· ≤ ·) := by
  unfold intsN
  rw [List.pairwise_map]
  exact ⟨fun h => h.imp fun h => Int.ofNat_le.mp h, fun h => h.imp fun h => Int.ofNat_le.mpr h⟩
theorem intsN_inj {l r : List Nat} (h : intsN l = intsN r) : l = r := by
  unfold intsN at h
  exact List.map_inj_right (fun a b hab => Int.ofNat.inj hab) |>.mp h
/-- a table told: found under its kind -/
theorem tableOf_put (s : Office) (k t : Nat) (r : List Nat) (j : Nat) : ({ s with tables := ⟨k, t, r⟩ :: s.tables.filter fun (x : Table) => x.kind != k } : Office).tableOf j = if j = k then some ⟨k, t, r⟩ else s.tableOf j := by
  unfold Office.tableOf
  show List.find? (fun (t : Table) => t.kind == j) (⟨k, t, r⟩ :: s.tables.filter fun (x : Table) => x.kind != k) = _
  by_cases c : j = k
  · subst c
    rw [List.find?_cons_of_pos (by simp), if_pos rfl]
  · rw [if_neg c, List.find?_cons_of_neg (by simpa using Ne.symm c), List.find?_filter]
    congr 1
    funext x
    by_cases d : x.kind = j
    · simp [d, c]
    · simp [d]
theorem beetle_put (s : Office) (k d g : Nat) (j : Nat) : (⟨k, d, g⟩ :: s.beetles.filter fun (x : Beetle) => x.kind != k).find? (fun b => b.kind == j) = if j = k then some ⟨k, d, g⟩ else s.beetles.find? (fun b => b.kind == j) := by
  by_cases c : j = k
  · subst c
    rw [List.find?_cons_of_pos (by simp), if_pos rfl]
  · rw [if_neg c, List.find?_cons_of_neg (by simpa using Ne.symm c), List.find?_filter]
    congr 1
    funext x
    by_cases d : x.kind = j
    · simp [d, c]
    · simp [d]
/-! ### every office that is told stays in order -/
theorem isJob_way (s : Office) (w : Way) (hl : s.ways.length < 32) (j : Nat) : ({ s with ways := s.ways ++ [w] } : Office).isJob j = (s.isJob j || (decide (j = s.ways.length) && decide (0 < w.work))) := by
  unfold Office.isJob Office.isWay
  simp only
  by_cases c : j < s.ways.length
  · rw [List.getElem?_append_left c]
    have : decide (j = s.ways.length) = false := decide_eq_false (by omega)
    rw [this, Bool.false_and, Bool.or_false]
  · by_cases e : j = s.ways.length
    · subst e
      rw [List.getElem?_append_right (Nat.le_refl _), Nat.sub_self, List.getElem?_eq_none (Nat.le_refl s.ways.length)]
      have : decide (WAYS ≤ s.ways.length) = false := decide_eq_false (by unfold WAYS; omega)
      simp [this]
    · rw [List.getElem?_eq_none (l := s.ways ++ [w]) (by rw [List.length_append]; simp; omega), List.getElem?_eq_none (l := s.ways) (by omega)]
      simp [e]
theorem isJob_wood (s : Office) (w : Wood) (j : Nat) : ({ s with woods := s.woods ++ [w] } : Office).isJob j = (s.isJob j || decide (j = 32 + s.woods.length)) := by
  unfold Office.isJob
  have hw : ({ s with woods := s.woods ++ [w] } : Office).isWay j = s.isWay j := rfl
  rw [hw, Bool.or_assoc]
  congr 1
  simp only
  by_cases c : 32 ≤ j
  · have h1 : decide (WAYS ≤ j) = true := decide_eq_true c
    rw [h1, Bool.true_and, Bool.true_and]
    rcases Nat.lt_trichotomy (j - 32) s.woods.length with d | d | d
    · rw [show j - WAYS = j - 32 from rfl, List.getElem?_append_left d, List.getElem?_eq_getElem d]
      simp
    · rw [show j - WAYS = j - 32 from rfl, List.getElem?_append_right (by omega), d, Nat.sub_self, List.getElem?_eq_none (l := s.woods) (by omega)]
      have : decide (j = 32 + s.woods.length) = true := decide_eq_true (by omega)
      simp [this]
    · rw [show j - WAYS = j - 32 from rfl, List.getElem?_eq_none (l := s.woods ++ [w]) (by rw [List.length_append]; simp; omega), List.getElem?_eq_none (l := s.woods) (by omega)]
      have : decide (j = 32 + s.woods.length) = false := decide_eq_false (by omega)
      simp [this]
  · have h1 : decide (WAYS ≤ j) = false := decide_eq_false c
    have h2 : decide (j = 32 + s.woods.length) = false := decide_eq_false (by omega)
    rw [h1, h2]
    rfl
theorem mem_jobs' {s : Office} {j : Nat} : j ∈ s.jobs ↔ j < 42 ∧ s.isJob j = true := by
  unfold Office.jobs
  rw [List.mem_filter, List.mem_range]
  exact Iff.rfl
theorem jobs_nodup (s : Office) : s.jobs.Nodup := rise_nodup (jobs_rise s)
theorem woods_len {s : Office} (ok : Ok s) : s.woods.length ≤ s.jobs.length := by
  rw [jobs_list ok, List.length_append, List.length_map, List.length_range]
  omega
theorem ok_new {n h d : Nat} (r : right (.net n h d) = true) : Ok ⟨n, h, d, [], [], [], [], []⟩ := by
  have r : (within 2 PLACES n && (within 1 24 h && decide (d ≤ DAYS))) = true := r
  rw [Bool.and_eq_true, Bool.and_eq_true, within_iff, within_iff, decide_eq_true_eq] at r
  obtain ⟨r1, r2, r3⟩ := r
  have hj : ({ n := n, hours := h, first := d, ways := [], woods := [], tables := [], beetles := [], done := [] } : Office).jobs = [] := by
    rw [List.eq_nil_iff_forall_not_mem]
    intro j hj
    have := (mem_jobs'.mp hj).2
    unfold Office.isJob Office.isWay at this
    simp at this
  refine ⟨r1.1, r1.2, r2.1, r2.2, r3, Nat.zero_le _, fun w hw => (by cases hw), by rw [hj]; exact Nat.zero_le _, Nat.zero_le _, fun w hw => (by cases hw), fun w hw => (by cases hw), fun w hw => (by cases hw), List.nodup_nil, fun w hw => (by cases hw), List.nodup_nil⟩
theorem ok_way {s : Office} (ok : Ok s) {a b m w : Nat} (ha : a < s.n) (hb : b < s.n) (hne : a ≠ b) (hm : 1 ≤ m ∧ m ≤ 600) (hw : w ≤ 1000) (hl : s.ways.length < 32) (hj : 0 < w → s.jobs.length < 10) : Ok { s with ways := s.ways ++ [⟨a, b, m, w⟩] } := by
  have hi := isJob_way s ⟨a, b, m, w⟩ hl
  have mono : ∀ j, s.isJob j = true → ({ s with ways := s.ways ++ [⟨a, b, m, w⟩] } : Office).isJob j = true := fun j h => by rw [hi, h]; rfl
  have hjl : ({ s with ways := s.ways ++ [⟨a, b, m, w⟩] } : Office).jobs.length ≤ 10 := by
    by_cases c : 0 < w
    · have := sub_len _ (s.ways.length :: s.jobs) (jobs_nodup { s with ways := s.ways ++ [⟨a, b, m, w⟩] }) fun j h => by
        obtain ⟨h1, h2⟩ := mem_jobs'.mp h
        rw [hi, Bool.or_eq_true, Bool.and_eq_true, decide_eq_true_eq] at h2
        rcases h2 with h2 | h2
        · exact List.mem_cons_of_mem _ (mem_jobs'.mpr ⟨h1, h2⟩)
        · rw [h2.1]; exact List.mem_cons_self
      have := hj c
      rw [List.length_cons] at *
      omega
    · have := sub_len _ s.jobs (jobs_nodup { s with ways := s.ways ++ [⟨a, b, m, w⟩] }) fun j h => by
        obtain ⟨h1, h2⟩ := mem_jobs'.mp h
        rw [hi, Bool.or_eq_true, Bool.and_eq_true, decide_eq_true_eq, decide_eq_true_eq] at h2
        rcases h2 with h2 | h2
        · exact mem_jobs'.mpr ⟨h1, h2⟩
        · exact absurd h2.2 c
      have := ok.jl
      omega
  refine ⟨ok.n2, ok.n16, ok.h1, ok.h24, ok.fd, ?_, ?_, hjl, ok.ol, ok.wd, ok.tb, ok.bt, ok.bk, fun j h => mono j (ok.dj j h), ok.dn⟩
  · show (s.ways ++ [_]).length ≤ 32
    rw [List.length_append]
    exact hl
  · intro v hv
    rcases List.mem_append.mp hv with hv | hv
    · exact ok.wy v hv
    · rw [List.mem_singleton.mp hv]
      exact ⟨ha, hb, hne, hm.1, hm.2, hw⟩
theorem ok_wood {s : Office} (ok : Ok s) {p k c w d : Nat} (hp : p < s.n) (hk : k < 16) (hc : c ≤ 1000000000) (hw : w ≤ 1000) (hd : d ≤ 99999) (hj : s.jobs.length < 10) : Ok { s with woods := s.woods ++ [⟨p, k, c, w, d⟩] } := by
  have hi := isJob_wood s ⟨p, k, c, w, d⟩
  have hwl := woods_len ok
  have mono : ∀ j, s.isJob j = true → ({ s with woods := s.woods ++ [⟨p, k, c, w, d⟩] } : Office).isJob j = true := fun j h => by rw [hi, h]; rfl
  have hjl : ({ s with woods := s.woods ++ [⟨p, k, c, w, d⟩] } : Office).jobs.length ≤ 10 := by
    have := sub_len _ ((32 + s.woods.length) :: s.jobs) (jobs_nodup { s with woods := s.woods ++ [⟨p, k, c, w, d⟩] }) fun j h => by
      obtain ⟨h1, h2⟩ := mem_jobs'.mp h
      rw [hi, Bool.or_eq_true, decide_eq_true_eq] at h2
      rcases h2 with h2 | h2
      · exact List.mem_cons_of_mem _ (mem_jobs'.mpr ⟨h1, h2⟩)
      · rw [h2]; exact List.mem_cons_self
    rw [List.length_cons] at this
    omega
  refine ⟨ok.n2, ok.n16, ok.h1, ok.h24, ok.fd, ok.wl, ok.wy, hjl, ?_, ?_, ok.tb, ok.bt, ok.bk, fun j h => mono j (ok.dj j h), ok.dn⟩
  · show (s.woods ++ [_]).length ≤ 10
    rw [List.length_append]
    show s.woods.length + 1 ≤ 10
    omega
  · intro v hv
    rcases List.mem_append.mp hv with hv | hv
    · exact ok.wd v hv
    · rw [List.mem_singleton.mp hv]
      exact ⟨hp, hk, hc, hw, hd⟩
theorem ok_table {s : Office} (ok : Ok s) {k t : Nat} {r : List Nat} (ht : 1 ≤ t ∧ t ≤ 100) (hr : r.length ≤ 24) (hx : ∀ x ∈ r, x ≤ 1000) : Ok { s with tables := ⟨k, t, r⟩ :: s.tables.filter fun (x : Table) => x.kind != k } := by
  refine ⟨ok.n2, ok.n16, ok.h1, ok.h24, ok.fd, ok.wl, ok.wy, ok.jl, ok.ol, ok.wd, ?_, ok.bt, ok.bk, ok.dj, ok.dn⟩
  intro v hv
  rcases List.mem_cons.mp hv with hv | hv
  · rw [hv]; exact ⟨ht.1, ht.2, hr, hx⟩
  · exact ok.tb v (List.mem_filter.mp hv).1
theorem ok_beetle {s : Office} (ok : Ok s) {k d g : Nat} (hd : d ≤ 400) (hg : 1 ≤ g ∧ g ≤ 100) : Ok { s with beetles := ⟨k, d, g⟩ :: s.beetles.filter fun (x : Beetle) => x.kind != k } := by
  refine ⟨ok.n2, ok.n16, ok.h1, ok.h24, ok.fd, ok.wl, ok.wy, ok.jl, ok.ol, ok.wd, ok.tb, ?_, ?_, ok.dj, ok.dn⟩
  · intro v hv
    rcases List.mem_cons.mp hv with hv | hv
    · rw [hv]; exact ⟨hd, hg.1, hg.2⟩
    · exact ok.bt v (List.mem_filter.mp hv).1
  · show ((⟨k, d, g⟩ :: s.beetles.filter fun (x : Beetle) => x.kind != k).map fun (b : Beetle) => b.kind).Nodup
    rw [List.map_cons, List.nodup_cons]
    refine ⟨fun h => ?_, (List.filter_sublist.map _).nodup ok.bk⟩
    obtain ⟨b, hb, e⟩ := List.mem_map.mp h
    have := (List.mem_filter.mp hb).2
    simp at this
    exact this e
theorem ok_done {s : Office} (ok : Ok s) {j : Nat} (hj : s.isJob j = true) (hd : j ∉ s.done) : Ok { s with done := j :: s.done } := by
  refine ⟨ok.n2, ok.n16, ok.h1, ok.h24, ok.fd, ok.wl, ok.wy, ok.jl, ok.ol, ok.wd, ok.tb, ok.bt, ok.bk, ?_, List.nodup_cons.mpr ⟨hd, ok.dn⟩⟩
  intro i hi
  rcases List.mem_cons.mp hi with e | hi
  · rw [e]; exact hj
  · exact ok.dj i hi
theorem ok_undo {s : Office} (ok : Ok s) {j : Nat} {l : List Nat} (h : s.done = j :: l) : Ok { s with done := l } :=
  ⟨ok.n2, ok.n16, ok.h1, ok.h24, ok.fd, ok.wl, ok.wy, ok.jl, ok.ol, ok.wd, ok.tb, ok.bt, ok.bk, fun i hi => ok.dj i (by rw [h]; exact List.mem_cons_of_mem _ hi), (List.nodup_cons.mp (h ▸ ok.dn)).2⟩
theorem ok_does {s : Office} (ok : Ok s) {c : Call} (r : right c = true) : Ok (does s c).1 := by
  cases c with
  | way a b m w =>
    have r : (isPlace a && (isPlace b && (within 1 600 m && decide (w ≤ 1000)))) = true := r
    rw [Bool.and_eq_true, Bool.and_eq_true, Bool.and_eq_true, within_iff, decide_eq_true_eq] at r
    show Ok (if s.n ≤ a ∨ s.n ≤ b then (s, no (-3)) else if a = b then (s, no (-4)) else if WAYS ≤ s.ways.length ∨ (0 < w ∧ JOBS ≤ s.jobs.length) then (s, no (-9)) else ({ s with ways := s.ways ++ [⟨a, b, m, w⟩] }, tells [s.ways.length])).1
    split
    · exact ok
    · split
      · exact ok
      · split
        · exact ok
        · rename_i h1 h2 h3
          unfold WAYS JOBS at h3
          exact ok_way ok (by omega) (by omega) h2 r.2.2.1 r.2.2.2 (by omega) (fun h => by omega)
  | wood p k c w d =>
    have r : (isPlace p && (decide (k < 16) && (decide (c ≤ CENTS) && (decide (w ≤ 1000) && decide (d ≤ DAYS))))) = true := r
    simp only [Bool.and_eq_true, decide_eq_true_eq] at r
    show Ok (if s.n ≤ p then (s, no (-3)) else if s.now < d then (s, no (-4)) else if JOBS ≤ s.jobs.length then (s, no (-9)) else ({ s with woods := s.woods ++ [⟨p, k, c, w, d⟩] }, tells [WAYS + s.woods.length])).1
    split
    · exact ok
    · split
      · exact ok
      · split
        · exact ok
        · rename_i h1 h2 h3
          unfold JOBS at h3
          exact ok_wood ok (by omega) r.2.1 r.2.2.1 r.2.2.2.1 r.2.2.2.2 (by omega)
  | table k t l =>
    have r : (decide (k < 16) && (within 1 100 t && (decide (l.length ≤ 24) && l.all fun (x : Nat) => decide (x ≤ 1000)))) = true := r
    simp only [Bool.and_eq_true, decide_eq_true_eq, within_iff, List.all_eq_true] at r
    show Ok (if rising l = false then (s, no (-4)) else ({ s with tables := ⟨k, t, l⟩ :: s.tables.filter fun (x : Table) => x.kind != k }, tells [])).1
    split
    · exact ok
    · exact ok_table ok r.2.1 r.2.2.1 r.2.2.2
  | beetle k d g =>
    have r : (decide (k < 16) && (decide (d ≤ 400) && within 1 100 g)) = true := r
    simp only [Bool.and_eq_true, decide_eq_true_eq, within_iff] at r
    exact ok_beetle ok r.2.1 r.2.2
  | done j =>
    show Ok (if s.isJob j = false then (s, no (-3)) else if s.done.contains j = true then (s, no (-8)) else if s.can s.done j = false then (s, no (-4)) else ({ s with done := j :: s.done }, tells [s.dayOf (s.spent s.done + s.work j), s.loses j (s.spent s.done + s.work j)])).1
    split
    · exact ok
    · split
      · exact ok
      · split
        · exact ok
        · rename_i h1 h2 h3
          exact ok_done ok (by simpa using h1) (fun z => h2 (List.contains_iff_mem.mpr z))
  | undo =>
    show Ok (match s.done with
      | [] => (s, no (-4))
      | j :: l => ({ s with done := l }, tells [j])).1
    split
    · exact ok
    · rename_i j l h
      exact ok_undo ok h
  | _ => exact ok
end Sc
end

section
set_option autoImplicit false
namespace Sc
open TimStorm WrtistSpec
/-! ### the list of calls, as numbers -/
def hasRow : Call → Bool
  | .table _ _ _ | .least _ | .try_ _ | .check _ => true
  | _ => false
def encOf (c : Call) : List (List Int) := if hasRow c = true then [(numOf c : Int) :: intsN (numsOf c), rowOf c] else [(numOf c : Int) :: intsN (numsOf c)]
def encFlat (c : Call) : List Int := (numOf c : Int) :: (intsN (numsOf c) ++ if hasRow c = true then ((rowOf c).length : Int) :: rowOf c else [])
theorem nat_of {z : Int} (h : WrtistNeutral.num z = true) : ∃ n : Nat, z = (n : Int) := by
  unfold WrtistNeutral.num at h
  rw [Bool.and_eq_true, decide_eq_true_eq] at h
  exact ⟨z.toNat, by omega⟩
theorem nats_of {l : List Int} (h : l.all WrtistNeutral.num = true) : ∃ m : List Nat, l = intsN m := by
  induction l with
  | nil => exact ⟨[], rfl⟩
  | cons a l ih =>
    rw [List.all_cons, Bool.and_eq_true] at h
    obtain ⟨n, rfl⟩ := nat_of h.1
    obtain ⟨m, rfl⟩ := ih h.2
    exact ⟨n :: m, rfl⟩
theorem nat?_nat (n : Nat) : WrtistNeutral.nat? (n : Int) = some n := by
  unfold WrtistNeutral.nat?
  rw [if_pos (by omega), Int.toNat_natCast]
theorem nats?_nats : ∀ m : List Nat, WrtistNeutral.nats? (intsN m) = some m
  | [] => rfl
  | n :: m => by
    have ih := nats?_nats m
    unfold WrtistNeutral.nats? at *
    show List.mapM WrtistNeutral.nat? ((n : Int) :: intsN m) = _
    rw [List.mapM_cons, nat?_nat, ih]
    rfl
theorem row_of {n : Nat} {l : List Int} (h : WrtistNeutral.row n l = true) : ∃ m : List Nat, l = intsN m ∧ m.length ≤ n := by
  unfold WrtistNeutral.row at h
  rw [Bool.and_eq_true, decide_eq_true_eq] at h
  obtain ⟨m, rfl⟩ := nats_of h.2
  refine ⟨m, rfl, ?_⟩
  have := h.1
  unfold intsN at this
  rwa [List.length_map] at this
theorem flat_call {m : List Nat} {c : Call} (h : WrtistNeutral.flat? m = some c) (hn : intsN m = (numOf c : Int) :: intsN (numsOf c)) (hr : hasRow c = false) : WrtistNeutral.call? [intsN m] = some c ∧ [intsN m] = encOf c := by
  refine ⟨?_, ?_⟩
  · have : WrtistNeutral.call? [intsN m] = (WrtistNeutral.nats? (intsN m)).bind WrtistNeutral.flat? := by
      unfold WrtistNeutral.call?
      rfl
    rw [this, nats?_nats, Option.bind_some, h]
  · unfold encOf
    rw [hr, if_neg (by decide), hn]
/-- what may be asked is a call, and its numbers -/
theorem asked_call {c : List (List Int)} (h : WrtistNeutral.asked1 c = true) : ∃ k : Call, WrtistNeutral.call? c = some k ∧ c = encOf k ∧ (rowOf k).length ≤ 80 := by
  unfold WrtistNeutral.asked1 at h
  split at h
  · rename_i n hh d
    simp only [Bool.and_eq_true] at h
    obtain ⟨n, rfl⟩ := nat_of h.1
    obtain ⟨hh, rfl⟩ := nat_of h.2.1
    obtain ⟨d, rfl⟩ := nat_of h.2.2
    have := flat_call (m := [1, n, hh, d]) (c := .net n hh d) rfl rfl rfl
    exact ⟨_, this.1, this.2, Nat.zero_le _⟩
  · rename_i a b m w
    simp only [Bool.and_eq_true] at h
    obtain ⟨a, rfl⟩ := nat_of h.1
    obtain ⟨b, rfl⟩ := nat_of h.2.1
    obtain ⟨m, rfl⟩ := nat_of h.2.2.1
    obtain ⟨w, rfl⟩ := nat_of h.2.2.2
    have := flat_call (m := [2, a, b, m, w]) (c := .way a b m w) rfl rfl rfl
    exact ⟨_, this.1, this.2, Nat.zero_le _⟩
  · rename_i p k c w d
    simp only [Bool.and_eq_true] at h
    obtain ⟨p, rfl⟩ := nat_of h.1
    obtain ⟨k, rfl⟩ := nat_of h.2.1
    obtain ⟨c, rfl⟩ := nat_of h.2.2.1
    obtain ⟨w, rfl⟩ := nat_of h.2.2.2.1
    obtain ⟨d, rfl⟩ := nat_of h.2.2.2.2
    have := flat_call (m := [3, p, k, c, w, d]) (c := .wood p k c w d) rfl rfl rfl
    exact ⟨_, this.1, this.2, Nat.zero_le _⟩
  · rename_i k t r
    simp only [Bool.and_eq_true] at h
    obtain ⟨k, rfl⟩ := nat_of h.1
    obtain ⟨t, rfl⟩ := nat_of h.2.1
    obtain ⟨r, rfl, hr⟩ := row_of h.2.2
    refine ⟨.table k t r, ?_, rfl, by unfold rowOf intsN; rw [List.length_map]; omega⟩
    show (WrtistNeutral.nat? (k : Int)).bind (fun (a : Nat) => (WrtistNeutral.nat? (t : Int)).bind fun (b : Nat) => (WrtistNeutral.nats? (intsN r)).map (Call.table a b)) = _
    rw [nat?_nat, nat?_nat, nats?_nats]
    rfl
  · rename_i k d g
    simp only [Bool.and_eq_true] at h
    obtain ⟨k, rfl⟩ := nat_of h.1
    obtain ⟨d, rfl⟩ := nat_of h.2.1
    obtain ⟨g, rfl⟩ := nat_of h.2.2
    have := flat_call (m := [5, k, d, g]) (c := .beetle k d g) rfl rfl rfl
    exact ⟨_, this.1, this.2, Nat.zero_le _⟩
  · rename_i j
    obtain ⟨j, rfl⟩ := nat_of h
    have := flat_call (m := [6, j]) (c := .done j) rfl rfl rfl
    exact ⟨_, this.1, this.2, Nat.zero_le _⟩
  · rename_i k
    simp only [Bool.or_eq_true, Bool.and_eq_true, decide_eq_true_eq, beq_iff_eq] at h
    have hk : k = 7 ∨ k = 8 ∨ k = 9 ∨ k = 10 ∨ k = 15 ∨ k = 16 := by omega
    rcases hk with rfl | rfl | rfl | rfl | rfl | rfl
    · have := flat_call (m := [7]) (c := .undo) rfl rfl rfl
      exact ⟨_, this.1, this.2, Nat.zero_le _⟩
    · have := flat_call (m := [8]) (c := .state) rfl rfl rfl
      exact ⟨_, this.1, this.2, Nat.zero_le _⟩
    · have := flat_call (m := [9]) (c := .left) rfl rfl rfl
      exact ⟨_, this.1, this.2, Nat.zero_le _⟩
    · have := flat_call (m := [10]) (c := .reached) rfl rfl rfl
      exact ⟨_, this.1, this.2, Nat.zero_le _⟩
    · have := flat_call (m := [15]) (c := .best) rfl rfl rfl
      exact ⟨_, this.1, this.2, Nat.zero_le _⟩
    · have := flat_call (m := [16]) (c := .prove) rfl rfl rfl
      exact ⟨_, this.1, this.2, Nat.zero_le _⟩
  · rename_i k p _
    simp only [Bool.or_eq_true, Bool.and_eq_true, beq_iff_eq] at h
    obtain ⟨p, rfl⟩ := nat_of h.2
    rcases h.1 with rfl | rfl | rfl | rfl
    · have := flat_call (m := [11, p]) (c := .near p) rfl rfl rfl
      exact ⟨_, this.1, this.2, Nat.zero_le _⟩
    · have := flat_call (m := [12, p]) (c := .must p) rfl rfl rfl
      exact ⟨_, this.1, this.2, Nat.zero_le _⟩
    · have := flat_call (m := [20, p]) (c := .struck p) rfl rfl rfl
      exact ⟨_, this.1, this.2, Nat.zero_le _⟩
    · have := flat_call (m := [21, p]) (c := .whatif p) rfl rfl rfl
      exact ⟨_, this.1, this.2, Nat.zero_le _⟩
  · rename_i r
    obtain ⟨r, rfl, hr⟩ := row_of h
    refine ⟨.least r, ?_, rfl, by unfold rowOf intsN; rw [List.length_map]; omega⟩
    show (WrtistNeutral.nats? (intsN r)).map Call.least = _
    rw [nats?_nats]
    rfl
  · rename_i r
    obtain ⟨r, rfl, hr⟩ := row_of h
    refine ⟨.try_ r, ?_, rfl, by unfold rowOf intsN; rw [List.length_map]; omega⟩
    show (WrtistNeutral.nats? (intsN r)).map Call.try_ = _
    rw [nats?_nats]
    rfl
  · rename_i r
    rw [Bool.and_eq_true, decide_eq_true_eq] at h
    exact ⟨.check r, rfl, rfl, h.1⟩
  · rename_i k p d _
    simp only [Bool.or_eq_true, Bool.and_eq_true, beq_iff_eq] at h
    obtain ⟨p, rfl⟩ := nat_of h.2.1
    obtain ⟨d, rfl⟩ := nat_of h.2.2
    rcases h.1 with rfl | rfl
    · have := flat_call (m := [18, p, d]) (c := .due p d) rfl rfl rfl
      exact ⟨_, this.1, this.2, Nat.zero_le _⟩
    · have := flat_call (m := [19, p, d]) (c := .save p d) rfl rfl rfl
      exact ⟨_, this.1, this.2, Nat.zero_le _⟩
  · cases h
theorem shape_of (c : Call) : PyWrtist.shape (numOf c) = some ((numsOf c).length, if hasRow c = true then 1 else 0) := by
  cases c <;> rfl
/-- a call read is its numbers -/
theorem call_flat {l t : List Int} {k : Call} (h : PyFlat.call PyWrtist.shape l = some (encOf k, t)) : l = encFlat k ++ t := by
  cases l with
  | nil => cases h
  | cons p r =>
    unfold PyFlat.call at h
    simp only at h
    cases hs : PyWrtist.shape p with
    | none => rw [hs] at h; cases h
    | some nk =>
      obtain ⟨n, m⟩ := nk
      rw [hs] at h
      simp only at h
      by_cases c : r.length < n
      · rw [if_pos c] at h; cases h
      · rw [if_neg c] at h
        cases hr : PyFlat.rows m (r.drop n) with
        | none => rw [hr] at h; cases h
        | some xt =>
          obtain ⟨xs, t'⟩ := xt
          rw [hr] at h
          have h := Option.some.inj h
          injection h with h1 h2
          subst h2
          have hp : p = (numOf k : Int) ∧ r.take n = intsN (numsOf k) ∧ xs = if hasRow k = true then [rowOf k] else [] := by
            unfold encOf at h1
            split at h1
            · rename_i hk
              injection h1 with h1 h3
              injection h1 with h1 h4
              exact ⟨h1, h4, by rw [if_pos hk]; exact h3⟩
            · rename_i hk
              injection h1 with h1 h3
              injection h1 with h1 h4
              exact ⟨h1, h4, by rw [if_neg hk]; exact h3⟩
          obtain ⟨rfl, h4, h5⟩ := hp
          rw [shape_of] at hs
          have hs := Option.some.inj hs
          injection hs with hs1 hs2
          have hr2 : r.drop n = (if hasRow k = true then ((rowOf k).length : Int) :: rowOf k else []) ++ t' := by
            cases hk : hasRow k with
            | false =>
              rw [hk] at hs2 h5
              simp at hs2 h5
              rw [← hs2] at hr
              unfold PyFlat.rows at hr
              have hr := Option.some.inj hr
              injection hr with _ hr
            | true =>
              rw [hk] at hs2 h5
              simp at hs2 h5
              rw [← hs2] at hr
              unfold PyFlat.rows at hr
              cases hrow : PyFlat.row (r.drop n) with
              | none => rw [hrow] at hr; cases hr
              | some xs' =>
                obtain ⟨x, s⟩ := xs'
                rw [hrow] at hr
                unfold PyFlat.rows at hr
                have hr := Option.some.inj hr
                injection hr with hr1 hr2
                subst hr2
                rw [h5] at hr1
                have hx : x = rowOf k := (List.cons.inj hr1).1
                subst hx
                cases hd : r.drop n with
                | nil => rw [hd] at hrow; cases hrow
                | cons q r2 =>
                  rw [hd] at hrow
                  unfold PyFlat.row at hrow
                  simp only at hrow
                  split at hrow
                  · rename_i hq
                    have hrow := Option.some.inj hrow
                    injection hrow with ha hb
                    have hlen : (rowOf k).length = q.toNat := by
                      rw [← ha, List.length_take]
                      omega
                    rw [if_pos rfl, hlen]
                    have : ((q.toNat : Nat) : Int) = q := by omega
                    rw [this]
                    show q :: r2 = q :: (rowOf k ++ s)
                    rw [← ha, ← hb, List.take_append_drop]
                  · cases hrow
          unfold encFlat
          rw [List.cons_append, List.append_assoc, ← hr2, ← h4, List.take_append_drop]
/-- the calls read, one by one -/
theorem calls_flat : ∀ (f : Nat) (l : List Int) (raw : List (List (List Int))), PyFlat.calls PyWrtist.shape f l = some raw → raw.all WrtistNeutral.asked1 = true → ∃ ks : List Call, raw = ks.map encOf ∧ l = ks.flatMap encFlat ∧ ∀ k ∈ ks, WrtistNeutral.call? (encOf k) = some k ∧ (rowOf k).length ≤ 80
  | f, [], raw, h, _ => by
    have : raw = [] := by
      cases f <;> (unfold PyFlat.calls at h; exact (Option.some.inj h).symm)
    subst this
    exact ⟨[], rfl, rfl, fun k hk => (nomatch hk)⟩
  | 0, p :: r, raw, h, _ => by
    unfold PyFlat.calls at h
    cases h
  | f + 1, p :: r, raw, h, ha => by
    unfold PyFlat.calls at h
    cases hc : PyFlat.call PyWrtist.shape (p :: r) with
    | none => rw [hc] at h; cases h
    | some ct =>
      obtain ⟨c, t⟩ := ct
      rw [hc] at h
      simp only at h
      cases hcs : PyFlat.calls PyWrtist.shape f t with
      | none => rw [hcs] at h; cases h
      | some cs =>
        rw [hcs] at h
        obtain rfl := Option.some.inj h
        rw [List.all_cons, Bool.and_eq_true] at ha
        obtain ⟨k, hk, rfl, hk2⟩ := asked_call ha.1
        obtain ⟨ks, rfl, rfl, h3⟩ := calls_flat f t cs hcs ha.2
        refine ⟨k :: ks, rfl, ?_, fun j hj => ?_⟩
        · rw [List.flatMap_cons]
          exact call_flat hc
        · rcases List.mem_cons.mp hj with rfl | hj
          · exact ⟨hk, hk2⟩
          · exact h3 j hj
theorem whole_id (c : List (List Int)) : PyWrtist.whole c = c := by
  unfold PyWrtist.whole
  split <;> rfl
/-- the answers, call by call -/
def play : State → List Call → List Int
  | _, [] => []
  | s, c :: r => ((ansOf (step s c).2).length : Int) :: (ansOf (step s c).2 ++ play (step s c).1 r)
theorem play_told : ∀ (ks : List Call) (s : State), (∀ k ∈ ks, WrtistNeutral.call? (encOf k) = some k) → PyFlat.told (PyFlat.played WrtistNeutral.step s (ks.map encOf)) = play s ks
  | [], _, _ => rfl
  | k :: ks, s, h => by
    have hk := h k List.mem_cons_self
    have hst : WrtistNeutral.step s (encOf k) = ((step s k).1, ansOf (step s k).2) := by
      unfold WrtistNeutral.step
      rw [hk]
      rfl
    have ih := play_told ks (step s k).1 fun j hj => h j (List.mem_cons_of_mem _ hj)
    show PyFlat.told ((WrtistNeutral.step s (encOf k)).2 :: PyFlat.played WrtistNeutral.step (WrtistNeutral.step s (encOf k)).1 (ks.map encOf)) = _
    rw [hst]
    unfold PyFlat.told at *
    rw [List.flatMap_cons, ih]
    rfl
/-- the request: what is asked, by calls -/
theorem request {l : List Int} (h : PyWrtist.answers_asked l = true) : ∃ ks : List Call, l = ks.flatMap encFlat ∧ PyWrtist.answers l = play none ks ∧ (play none ks).length ≤ 10000000 ∧ ∀ k ∈ ks, (rowOf k).length ≤ 80 := by
  unfold PyWrtist.answers_asked at h
  cases hc : PyFlat.calls PyWrtist.shape l.length l with
  | none => rw [hc] at h; cases h
  | some raw =>
    rw [hc] at h
    simp only [Bool.and_eq_true] at h
    obtain ⟨⟨⟨⟨_, _⟩, _⟩, ha⟩, hs⟩ := h
    have hw : raw.map PyWrtist.whole = raw := by
      rw [List.map_congr_left (fun c _ => whole_id c), List.map_id']
    rw [hw] at ha
    unfold WrtistNeutral.asked at ha
    rw [Bool.and_eq_true] at ha
    obtain ⟨ks, rfl, h2, h3⟩ := calls_flat _ _ _ hc ha.1
    have hans : PyWrtist.answers l = play none ks := by
      unfold PyWrtist.answers PyWrtist.calls
      rw [hc]
      simp only
      rw [hw]
      exact play_told ks none fun k hk => (h3 k hk).1
    refine ⟨ks, h2, hans, ?_, fun k hk => (h3 k hk).2⟩
    unfold PyFlat.short at hs
    rw [hans] at hs
    exact of_decide_eq_true hs
end Sc
end

section
set_option Elab.async false
set_option linter.all false
set_option maxRecDepth 100000
set_option maxHeartbeats 0
namespace Sc
/-! ### the text by places, what stands behind the top -/
open PySem PySem.Spec PyProof.Rows L2
abbrev R : PySem.W.OpenSpec := PySem.Challenge.rw_stormclear_s01_answers
def top (i : Nat) : Stmt := PySem.Challenge.pw_stormclear_s01_answers.main.body.getD i (.Pass ⟨0, 0, 0, 0⟩)

abbrev s_is_job : Stmt := top 8
abbrev s_all_jobs : Stmt := top 9
abbrev s_work_of : Stmt := top 10
abbrev s_hours_of : Stmt := top 11
abbrev s_places_of : Stmt := top 12
abbrev s_shut_ways : Stmt := top 13
abbrev s_day_after : Stmt := top 15
abbrev s_day_now : Stmt := top 16
abbrev s_thousandths : Stmt := top 17
abbrev s_loss_of : Stmt := top 18
abbrev s_lost_so_far : Stmt := top 19
abbrev s_drivable : Stmt := top 21
abbrev s_reached_over : Stmt := top 22
abbrev s_reached_with : Stmt := top 23
abbrev s_is_at_hand : Stmt := top 24
abbrev s_both_directions : Stmt := top 25
abbrev s_quickest : Stmt := top 26
abbrev s_fewest_ways : Stmt := top 27
abbrev s_can_be_reached : Stmt := top 29
abbrev s_needed_ways : Stmt := top 30
abbrev s_all_sets : Stmt := top 31
abbrev s_opens_all : Stmt := top 32
abbrev s_least_opening : Stmt := top 33
abbrev s_left_jobs : Stmt := top 35
abbrev s_hindrance : Stmt := top 36
abbrev s_has : Stmt := top 37
abbrev s_joined : Stmt := top 38
abbrev s_jobs_in : Stmt := top 39
abbrev s_how_many_sets : Stmt := top 40
abbrev s_steps_from : Stmt := top 41
abbrev s_least_losses : Stmt := top 42
abbrev s_first_best_step : Stmt := top 43
abbrev s_best_order : Stmt := top 44
abbrev s_first_fault : Stmt := top 45
abbrev s_tried : Stmt := top 46
abbrev s_swarming : Stmt := top 48
abbrev s_strikes_at : Stmt := top 49
abbrev s_due_for : Stmt := top 50
abbrev s_struck_up_to : Stmt := top 51
abbrev s_steps_in_time : Stmt := top 52
abbrev s_has_all_due : Stmt := top 53
abbrev s_jobs_wanting : Stmt := top 54
abbrev s_saving_order : Stmt := top 55
abbrev s_in_one_row : Stmt := top 58
abbrev s_state : Stmt := top 59
abbrev s_left : Stmt := top 60
abbrev s_reached : Stmt := top 61
abbrev s_near : Stmt := top 62
abbrev s_must : Stmt := top 63
abbrev s_least : Stmt := top 64
abbrev s_try_jobs : Stmt := top 65
abbrev s_best : Stmt := top 66
abbrev s_prove : Stmt := top 67
abbrev s_check : Stmt := top 68
abbrev s_due : Stmt := top 69
abbrev s_save : Stmt := top 70
abbrev s_struck : Stmt := top 71
abbrev s_whatif : Stmt := top 72
abbrev s_how_many_numbers : Stmt := top 101
abbrev s_has_row : Stmt := top 102
abbrev s_row_fits : Stmt := top 103
abbrev s_fits : Stmt := top 104
abbrev s_net : Stmt := top 107
abbrev s_way : Stmt := top 108
abbrev s_wood : Stmt := top 109
abbrev s_table : Stmt := top 110
abbrev s_beetle : Stmt := top 111
abbrev s_done : Stmt := top 112
abbrev s_undo : Stmt := top 113
abbrev s_answer_of : Stmt := top 117
abbrev s_row_from : Stmt := top 118
abbrev s_answers : Stmt := top 119
abbrev s_Way__init__ : Stmt := inClass (top 74) 0
abbrev s_Wood__init__ : Stmt := inClass (top 75) 0
abbrev s_Office__init__ : Stmt := inClass (top 76) 0
abbrev s_Officehas_place : Stmt := inClass (top 76) 1
abbrev s_Line__init__ : Stmt := inClass (top 77) 0
def dd (x : Str) (st : Stmt) : He.DefD := ⟨(x, none), x, x, defArgs st, defBody st, defScope st, [], []⟩
def dm (c m q : Str) (st : Stmt) : He.DefD := ⟨(c, some m), m, q, defArgs st, defBody st, defScope st, [], []⟩
def fn0 : List He.DefD := [dd "is_job" s_is_job, dd "all_jobs" s_all_jobs, dd "work_of" s_work_of, dd "hours_of" s_hours_of, dd "places_of" s_places_of, dd "shut_ways" s_shut_ways, dd "day_after" s_day_after, dd "day_now" s_day_now, dd "thousandths" s_thousandths, dd "loss_of" s_loss_of, dd "lost_so_far" s_lost_so_far, dd "drivable" s_drivable, dd "reached_over" s_reached_over, dd "reached_with" s_reached_with, dd "is_at_hand" s_is_at_hand, dd "both_directions" s_both_directions, dd "quickest" s_quickest, dd "fewest_ways" s_fewest_ways, dd "can_be_reached" s_can_be_reached, dd "needed_ways" s_needed_ways]
def fn1 : List He.DefD := [dd "all_sets" s_all_sets, dd "opens_all" s_opens_all, dd "least_opening" s_least_opening, dd "left_jobs" s_left_jobs, dd "hindrance" s_hindrance, dd "has" s_has, dd "joined" s_joined, dd "jobs_in" s_jobs_in, dd "how_many_sets" s_how_many_sets, dd "steps_from" s_steps_from, dd "least_losses" s_least_losses, dd "first_best_step" s_first_best_step, dd "best_order" s_best_order, dd "first_fault" s_first_fault, dd "tried" s_tried, dd "swarming" s_swarming, dd "strikes_at" s_strikes_at, dd "due_for" s_due_for, dd "struck_up_to" s_struck_up_to, dd "steps_in_time" s_steps_in_time]
def fn2 : List He.DefD := [dd "has_all_due" s_has_all_due, dd "jobs_wanting" s_jobs_wanting, dd "saving_order" s_saving_order, dd "in_one_row" s_in_one_row, dd "state" s_state, dd "left" s_left, dd "reached" s_reached, dd "near" s_near, dd "must" s_must, dd "least" s_least, dd "try_jobs" s_try_jobs, dd "best" s_best, dd "prove" s_prove, dd "check" s_check, dd "due" s_due, dd "save" s_save, dd "struck" s_struck, dd "whatif" s_whatif, dd "how_many_numbers" s_how_many_numbers, dd "has_row" s_has_row]
def fn3 : List He.DefD := [dd "row_fits" s_row_fits, dd "fits" s_fits, dd "net" s_net, dd "way" s_way, dd "wood" s_wood, dd "table" s_table, dd "beetle" s_beetle, dd "done" s_done, dd "undo" s_undo, dd "answer_of" s_answer_of, dd "row_from" s_row_from, dd "answers" s_answers, dm "Way" "__init__" "Way.__init__" s_Way__init__, dm "Wood" "__init__" "Wood.__init__" s_Wood__init__, dm "Office" "__init__" "Office.__init__" s_Office__init__, dm "Office" "has_place" "Office.has_place" s_Officehas_place, dm "Line" "__init__" "Line.__init__" s_Line__init__]
def fnAll : List He.DefD := fn0 ++ fn1 ++ fn2 ++ fn3
def fa0 : List He.Fa := [.glo "is_job", .glo "all_jobs", .glo "work_of", .glo "hours_of", .glo "places_of", .glo "shut_ways", .glo "day_after", .glo "day_now", .glo "thousandths", .glo "loss_of", .glo "lost_so_far", .glo "drivable", .glo "reached_over", .glo "reached_with", .glo "is_at_hand", .glo "both_directions", .glo "quickest", .glo "fewest_ways", .glo "can_be_reached", .glo "needed_ways", .glo "all_sets", .glo "opens_all", .glo "least_opening", .glo "left_jobs", .glo "hindrance", .glo "has", .glo "joined", .glo "jobs_in", .glo "how_many_sets", .glo "steps_from"]
def fa1 : List He.Fa := [.glo "least_losses", .glo "first_best_step", .glo "best_order", .glo "first_fault", .glo "tried", .glo "swarming", .glo "strikes_at", .glo "due_for", .glo "struck_up_to", .glo "steps_in_time", .glo "has_all_due", .glo "jobs_wanting", .glo "saving_order", .glo "in_one_row", .glo "state", .glo "left", .glo "reached", .glo "near", .glo "must", .glo "least", .glo "try_jobs", .glo "best", .glo "prove", .glo "check", .glo "due", .glo "save", .glo "struck", .glo "whatif", .glo "how_many_numbers", .glo "has_row"]
def fa2 : List He.Fa := [.glo "row_fits", .glo "fits", .glo "net", .glo "way", .glo "wood", .glo "table", .glo "beetle", .glo "done", .glo "undo", .glo "answer_of", .glo "row_from", .glo "answers", .int "OUT_OF_RANGE" (-1), .int "NOT_THERE" (-3), .int "DONE_ALREADY" (-8), .int "CANNOT_BE" (-4), .int "FULL" (-9), .int "FIRST_WOOD" (32), .int "MOST_JOBS" (10), .int "MOST_PROVED" (6), .int "MOST" (1000000000000000), .int "TABLE_CALL" (4), .int "LEAST_CALL" (13), .int "TRY_CALL" (14), .int "CHECK_CALL" (17), .int "MOST_WAYS" (32), .int "NET_CALL" (1), .free "len", .free "max", .free "min"]
def fa3 : List He.Fa := [.free "sum", .free "all", .free "any", .free "range", .free "enumerate", .free "list", .free "dict", .free "tuple", .free "sorted", .free "zip", .glo "Way", .cls "Way", .mkr "Way", .noat "Way" "a", .noat "Way" "b", .noat "Way" "minutes", .noat "Way" "work", .glo "Wood", .cls "Wood", .mkr "Wood", .noat "Wood" "place", .noat "Wood" "kind", .noat "Wood" "cents", .noat "Wood" "work", .noat "Wood" "day", .glo "Office", .cls "Office", .mkr "Office", .noat "Office" "places", .noat "Office" "hours_a_day"]
def fa4 : List He.Fa := [.noat "Office" "first_day", .noat "Office" "ways", .noat "Office" "woods", .noat "Office" "tables", .noat "Office" "beetles", .noat "Office" "jobs_done", .glo "Line", .cls "Line", .mkr "Line", .noat "Line" "office", .meth "Office" "has_place", .glo "RANGES", .glo "ROWS", .glo "DEEDS"]
def faAll : List He.Fa := fa0 ++ fa1 ++ fa2 ++ fa3 ++ fa4
def deeds : List He.Dv := [.glo "way", .glo "wood", .glo "table", .glo "beetle", .glo "done", .glo "undo", .glo "state", .glo "left", .glo "reached", .glo "near", .glo "must", .glo "least", .glo "try_jobs", .glo "best", .glo "prove", .glo "check", .glo "due", .glo "save", .glo "struck", .glo "whatif"]
def names0 : List PySem.Str := ["OUT_OF_RANGE", "NOT_THERE", "DONE_ALREADY", "CANNOT_BE", "FULL", "FIRST_WOOD", "MOST_JOBS", "is_job", "all_jobs", "work_of", "hours_of", "places_of", "shut_ways", "day_after", "day_now", "thousandths", "loss_of", "lost_so_far", "drivable", "reached_over", "reached_with", "is_at_hand", "both_directions", "quickest", "fewest_ways"]
def names1 : List PySem.Str := ["can_be_reached", "needed_ways", "all_sets", "opens_all", "least_opening", "left_jobs", "hindrance", "has", "joined", "jobs_in", "how_many_sets", "steps_from", "least_losses", "first_best_step", "best_order", "first_fault", "tried", "swarming", "strikes_at", "due_for", "struck_up_to", "steps_in_time", "has_all_due", "jobs_wanting", "saving_order"]
def names2 : List PySem.Str := ["MOST_PROVED", "in_one_row", "state", "left", "reached", "near", "must", "least", "try_jobs", "best", "prove", "check", "due", "save", "struck", "whatif", "Way", "Wood", "Office", "Line", "MOST", "NET", "WAY", "WOOD", "TABLE"]
def names3 : List PySem.Str := ["BEETLE", "JOB", "PLACE", "PLACE_AND_DAY", "DAY", "HOURS", "NOTHING", "RANGES", "ROW_OF_TABLE", "ROW_OF_LEAST", "ROW_OF_TRY", "ROW_OF_CHECK", "TABLE_CALL", "LEAST_CALL", "TRY_CALL", "CHECK_CALL", "ROWS", "how_many_numbers", "has_row", "row_fits", "fits", "MOST_WAYS", "net", "way", "wood"]
def names4 : List PySem.Str := ["table", "beetle", "done", "undo", "NET_CALL", "DEEDS", "answer_of", "row_from"]
def namesAll : List PySem.Str := names0 ++ names1 ++ names2 ++ names3 ++ names4
/-! ### the tables of the top -/
def itemsT (K : PySem.W.Frag) : Value → Option (List Value)
  | .ref a => match K.lookup a with
    | some ⟨.type c, _, .seq its _, _⟩ => if (decide (c = "tuple") && decide (its.size ≤ sizeLine)) = true then some its.toList else none
    | _ => none
  | _ => none
def intV : Value → Option Int
  | .int i _ => some i
  | _ => none
def intsT (K : PySem.W.Frag) (v : Value) : Option (List Int) := (itemsT K v).bind fun l => l.mapM intV
def rangesV (K : PySem.W.Frag) : Option (List (List (List Int))) := (itemsT K (.ref (He.ga K "RANGES"))).bind fun l => l.mapM fun r => (itemsT K r).bind fun q => q.mapM (intsT K)
def rowsV (K : PySem.W.Frag) : Option (List (Int × List Int)) := match K.lookup (He.ga K "ROWS") with
  | some ⟨.type c, none, .dict es _, sl⟩ => if (decide (c = "dict") && (sl.isEmpty && !(He.ga K "ROWS" == sysModules))) = true then es.toList.mapM fun e => (intV e.key).bind fun i => if decide (e.hash = hashInt i) = true then (intsT K e.val).map fun l => (i, l) else none else none
  | _ => none
def nP : List (List Int) := [[0, 15]]
def rangesI : List (List (List Int)) := [[[2, 16], [1, 24], [0, 99999]], [[0, 15], [0, 15], [1, 600], [0, 1000]], [[0, 15], [0, 15], [0, 1000000000], [0, 1000], [0, 99999]], [[0, 15], [1, 100]], [[0, 15], [0, 400], [1, 100]], [[0, 41]], [], [], [], [], nP, nP, [], [], [], [], [], [[0, 15], [0, 99999]], [[0, 15], [0, 99999]], [[0, 99999]], [[1, 24]]]
def rowsI : List (Int × List Int) := [(4, [0, 24, 0, 1000]), (13, [1, 16, 0, 15]), (14, [0, 20, 0, 41]), (17, [1, 64, -1000000000000000, 1000000000000000])]
def exB (K : PySem.W.Frag) : Bool := decide (rangesV K = some rangesI) && (decide (rowsV K = some rowsI) && He.tupB K "DEEDS" deeds)
/-! ### the written part of the heap: what the main names reach in four steps -/
def kids (g : Addr → Option Obj) (as : List Addr) : List Addr := as.flatMap fun a => match g a with
  | some o => He.refsD o
  | none => []
def asF (g : Addr → Option Obj) : List Addr := mainGlobals :: (kids g [mainGlobals] ++ (kids g (kids g [mainGlobals]) ++ (kids g (kids g (kids g [mainGlobals])) ++ kids g (kids g (kids g (kids g [mainGlobals]))))))
def kF (g : Addr → Option Obj) : PySem.W.Frag := He.frT g (asF g)
def obsF (g : Addr → Option Obj) : He.AlX := (He.obsT faAll fnAll [] (kF g), exB (kF g))
theorem saysF_of {w : World} {h : Heap} (e : obsF h.get? = He.valX fnAll [] w) : He.SaysX faAll fnAll [] [] exB w h (kF h.get?) :=
  ⟨congrArg (fun z : He.AlX => z.1) e, congrArg (fun z : He.AlX => z.2) e, fun p hp => (nomatch hp), fun p hp => (nomatch hp), fun p hp => (nomatch hp)⟩
def hk : PySem.W.Hook where
  α := He.AlX
  obs := fun s => obsF s.heap.get?
  val := fun w => He.valX fnAll [] w
  says := fun w h => ∃ K : PySem.W.Frag, K.In h ∧ He.SaysX faAll fnAll [] [] exB w h K
  of := fun _ _ e => ⟨_, He.frT_in, saysF_of e⟩
  keeps := fun _ _ _ ⟨K, hK, c⟩ k => ⟨K, PySem.W.Frag.In.keeps hK k, ⟨c.t, c.more, c.hd, c.out, fun p hp => (nomatch hp)⟩⟩
def ob (s : PySem.W.SharedT) : He.AlX := obsF (HandSHeadRun.getT s)
theorem ob_eq (s : PySem.W.SharedT) : ob s = hk.obs s.abs := congrArg obsF (funext (HandSHeadRun.getT_eq s))
abbrev qv : Program := PySem.W.view R.prog [119]
end Sc
end

section
set_option Elab.async false
set_option linter.all false
set_option maxRecDepth 100000
set_option maxHeartbeats 0
namespace Sc
open PySem PySem.Spec PyProof.Rows L2
theorem run0 (w : World) : HandSHeadRun.RunEqS R qv hk ob 4000 namesAll (w.withFollow "special-get-raises" false) := by
  intro os
  kernel_rfl
theorem run1 (w : World) : HandSHeadRun.RunEqS R qv hk ob 4000 namesAll (w.withFollow "special-get-raises" true) := by
  intro os
  kernel_rfl
theorem run (w : World) : HandSHeadRun.RunEqS R qv hk ob 4000 namesAll w := PySem.W.byRow2 "special-get-raises" (P := fun w => HandSHeadRun.RunEqS R qv hk ob 4000 namesAll w) run0 run1 w
end Sc
end

section
set_option Elab.async false
set_option linter.all false
set_option maxRecDepth 100000
set_option maxHeartbeats 0
namespace Sc
open PySem PySem.Spec PyProof.Rows L2
open PySem.W (Codec WalkOS)
/-- the row's end, where the written part of the heap is told by the head's facts alone -/
theorem walk_hk {q : Program} {loose : List Str} {XP : (Str → Option Value) → Heap → Prop} {d : DefRec} {k : Nat} {ps : List Str} {sp : PySem.W.Frag → Sp}
    (hwell : R.wellSaid = true) (hlen : R.args.length = ps.length) (hr : Room k callerA)
    (F : ∀ (w : World) (mg : Str → Option Value) (fa : Addr) (h : Heap) (K : PySem.W.Frag), K.In h → He.SaysX faAll fnAll [] [] exB w h K → h.Ns mainGlobals mg → mg d.name = some (.ref fa) →
      ∃ fd : FuncData, (∀ (s : Shared) (us : List Value), us.length = ps.length → BindsTo s fd ⟨us, []⟩ (ps.zip us)) ∧ ∀ base : Heap, K.In base → base.Ns mainGlobals mg → FnOk R.prog w K mg base CX0 k fa fd ps (sp K))
    (S : ∀ (K : PySem.W.Frag) (H : Hp) (xs : List V) (a : Codec.denoteAll R.args), OnlyF H → Codec.withinAll R.args a = true → Codec.app R.args R.asked a = true → DwAll K H xs (Codec.encAll R.args a) →
      sp K xs H (fun v H' => Dw K H' v (R.ret.enc (Codec.app R.args R.f a))) fun _ _ _ => False) :
    WalkOS q loose XP hk.says R d [] (fun f vs => PySem.call f vs) := by
  intro w s₀ s₁ mg mb G Y fa o pm cd doc dV kV ho hd hcd hD hmg hg args vals as hpre hlay hrd hwl hlo
  obtain ⟨K, KX, hS⟩ := Y
  obtain ⟨a, e1, e2⟩ := PySem.W.os_pre_some hpre
  obtain ⟨rfl, hwi⟩ := Codec.encAll_of_decAll R.args args a e1
  obtain ⟨fd, hb, hF⟩ := F w mg fa _ K KX hS G.T.g hmg
  have hl : (Codec.encAll R.args a).length = ps.length := (encAll_len _ _).trans hlen
  have main := spec_call (R := []) (cl := classAt s₀.heap) (d0 := R.ret.enc (Codec.app R.args R.f a)) KX G.T.g G.T.b G.T.builtins G.T.nolimit hg hwl
    (pl_encAll _ _) (layable_weight hlay) hr hF hb hl (fun H xs hO hx => S K H xs a hO hwi e2 hx) (fun _ _ _ z => z)
  refine PySem.W.enter_call (codeAny_mono main fun r' s' hq => ?_)
  obtain ⟨u, as', rfl, h1, h2, h3, h4⟩ := hq
  refine ⟨.inl ⟨u, _, as', rfl, fun _ => rfl, h1, ?_, fun z => Bool.noConfusion (show false = true from z)⟩, h2, h3, h4⟩
  exact (PySem.W.OpenSpec.post_iff hwell hwi _ _).mpr rfl
end Sc
open PySem PySem.W PySem.Calls PyProof.Rows
theorem holdsX (call : WalkOS Sc.qv Sc.namesAll (XL Sc.qv []) Sc.hk.says Sc.R (HandSHeadRun.topDef Sc.R.prog 119) [] fun f vs => PySem.call f vs) : PySem.Challenge.rw_stormclear_s01_answers.Holds := by
  w_on
  refine HandSHeadRun.head_spec (r := PySem.Challenge.rw_stormclear_s01_answers) (q := Sc.qv) (H := Sc.hk) (ob := Sc.ob) (M := 4000) (loose := Sc.namesAll) (d := HandSHeadRun.topDef Sc.R.prog 119) (kwd := []) Sc.ob_eq
    (by kernel_rfl) (fun s => by kernel_rfl) Sc.run (by kernel_rfl) (by kernel_rfl) (by kernel_rfl) os_shapes (by decide +kernel) (by decide +kernel) ⟨rfl, rfl, rfl, rfl, rfl, by decide +kernel⟩ ⟨[.list [.int 7]], by decide +kernel, by decide +kernel⟩ call

end

section
set_option Elab.async false
set_option linter.all false
set_option maxRecDepth 100000
set_option maxHeartbeats 4000000
namespace Sc
open PySem PySem.Spec PyProof.Rows L2
/-! ### short names of operators' readings -/
abbrev rLt : R2 := rI0 fun i j => .bl (decide (i < j))
abbrev rLe : R2 := rI0 fun i j => .bl (decide (i ≤ j))
abbrev rGtI : R2 := rI0 fun i j => .bl (decide (j < i))
abbrev rGeI : R2 := rI0 fun i j => .bl (decide (j ≤ i))
abbrev rAddI : R2 := rI0 fun i j => .int (i + j)
abbrev rSubI : R2 := rI0 fun i j => .int (i - j)
abbrev rMulI : R2 := rI CMul fun i j => .int (i * j)
abbrev rDivI : R2 := rI CDiv fun i j => .int (i / j)
abbrev rShr : R2 := rI (fun _ j => 0 ≤ j) fun i j => .int (i / 2 ^ j.toNat)
abbrev rShl : R2 := rI CPow fun i j => .int (i * 2 ^ j.toNat)
abbrev rAnd : R2 := rI0 fun i j => .int (Builtin.bitAnd i j)
abbrev rOr : R2 := rI0 fun i j => .int (Builtin.bitOr i j)
abbrev rMin2 : List V → Hp → VK → Prop := fun xs H Q => ∃ i j, xs = [.int i, .int j] ∧ Q (.int (if j < i then j else i)) H
abbrev rLenS := Evl.rLenS
abbrev rListS := Evl.rListS
abbrev rTupleS (K : PySem.W.Frag) : List V → Hp → VK → Prop := fun xs H Q => ∃ p ys, xs = [.ref p] ∧ ((SqL K H p ys ∧ ∀ l, H l = none → Q (.ref l) (upd H l (.tup ys))) ∨ (SqT K H p ys ∧ Q (.ref p) H))
abbrev rDictP (K : PySem.W.Frag) : List V → Hp → VK → Prop := fun xs H Q => ∃ (a : Addr) (ps : List Addr) (kvs : List (Key × V)), xs = [.ref a] ∧ SqL K H a (ps.map V.ref) ∧ Paired (fun p kv => SqT K H p [kV kv.1, kv.2]) ps kvs ∧
  ∀ p, H p = none → Q (.ref p) (upd H p (.dK (mergeK [] kvs)))

/-! ### data: < of two, the least of a list -/
def rLtD (K : PySem.W.Frag) : R2 := fun x y H Q => ∃ d e : PyData, Dp K H x d ∧ Dp K H y e ∧ PySem.W.alike d e = true ∧ d ≠ .none ∧ d.depth ≤ 60 ∧ Q (.bl (PySem.W.dataLt d e)) H
theorem op_ltD {X : Cx} (hu : X.A.units + 64 < cLine) : OpR X (compareOp .Lt) (rLtD X.K) := by
  intro pins s σ H x y v u Q I rx ry h
  obtain ⟨d, e, hd, he, ha, hn, hdep, q⟩ := h
  obtain ⟨as, r1⟩ := Dp.reads I d x v hd rx
  obtain ⟨bs, r2⟩ := Dp.reads I e y u he ry
  have hm := Nat.min_le_left d.depth e.depth
  exact PySem.W.lt_data r1 r2 ha hn (by omega) ⟨.bl _, H, I, rfl, q⟩
theorem dpAll_at {K : PySem.W.Frag} {H : Hp} : ∀ {xs : List V} {ds : List PyData}, DpAll K H xs ds → ∀ {i : Nat} {x : V}, xs[i]? = some x → ∃ d, ds[i]? = some d ∧ Dp K H x d
  | _, _, .nil, _, _, e => by simp at e
  | _, _, .cons h t, 0, _, e => ⟨_, rfl, (Option.some.inj e) ▸ h⟩
  | _, _, .cons h t, i + 1, _, e => dpAll_at t (i := i) e
def rMinD (K : PySem.W.Frag) : List V → Hp → VK → Prop := fun vs H Q => ∃ (a : Addr) (xs : List V) (d : PyData) (ds : List PyData), vs = [.ref a] ∧ SqL K H a xs ∧ DpAll K H xs (d :: ds) ∧
  PySem.W.AlikeAll (d :: ds) ∧ PyData.depthAll (d :: ds) ≤ 60 ∧ ∀ (i : Nat) (x : V), xs[i]? = some x → (d :: ds)[i]? = some (PySem.W.minD d ds) → Q x H
theorem minD_mem (d : PyData) : ∀ (ds : List PyData) (a : PyData), a ∈ d :: ds ∨ a = d → ds.foldl (fun a y => if PySem.W.dataLt y a then y else a) a ∈ a :: ds
  | [], a, _ => List.mem_cons_self
  | y :: ds, a, h => by
    rw [List.foldl_cons]
    split
    · have := minD_mem y ds y (.inr rfl)
      exact List.mem_cons_of_mem _ this
    · have := minD_mem a ds a (.inr rfl)
      rcases List.mem_cons.mp this with e | m
      · rw [e]; exact List.mem_cons_self
      · exact List.mem_cons_of_mem _ (List.mem_cons_of_mem _ m)
theorem cr_minD {X : Cx} (hc : X.calm = true) (hu : X.A.units + 64 < cLine) : CallR X (.builtin "min") (rMinD X.K) := by
  intro pins s σ H vs us Q I r h
  obtain ⟨a, xs, d, ds, rfl, hs, hd, ha, hdep, q⟩ := h
  obtain ⟨its, rv, hl, _⟩ := I.list hs
  rw [Vals.ref1 r]
  obtain ⟨as, hr⟩ := Dp.readsAll I (d :: ds) xs its hd rv
  refine PySem.W.min_list_data (vs := its.toArray) (x := d) (xs := ds) (as := as) (I.ok.hd hc) hl.isList (by simpa using hr) ha (by omega) fun i v h' tk bs hi hrd hk => ?_
  have hi' : its[i]? = some v := by simpa using hi
  cases hx : xs[i]? with
  | none =>
    rw [rv.none_of hx] at hi'
    cases hi'
  | some x =>
    obtain ⟨u, hu', ru⟩ := rv.get hx
    rw [hi'] at hu'
    obtain rfl := Option.some.inj hu'
    obtain ⟨e, he, hde⟩ := dpAll_at hd hx
    obtain ⟨cs, hre⟩ := Dp.reads I e x v hde ru
    have hmem : PySem.W.minD d ds ∈ d :: ds := minD_mem d ds d (.inr rfl)
    have hal := ha.1 e (List.mem_of_getElem? he) _ hmem
    have eq := PySem.W.alike_unique e (PySem.W.minD d ds) v _ _ hal (PySem.W.reads_keeps hk hre) hrd
    exact ⟨x, H, I.kept (t' := tk) hk, ru, q i x hx (by rw [he, eq])⟩

/-! ### xs.extend(t), t a tuple that is tracked or written -/
def rExtendT (K : PySem.W.Frag) : V → List V → Hp → VK → Prop := fun x vs H Q => ∃ l b xs zs, x = .ref l ∧ vs = [.ref b] ∧ H l = some (.lst xs) ∧ H b = some (.tup zs) ∧ xs.length + zs.length ≤ sizeLine ∧ Q .non (upd H l (.lst (xs ++ zs)))
theorem meets_extT (l : Addr) (it1 : Array Value) (n : Nat) (b : Addr) (it2 : Array Value) (n2 : Nat) (dd : Option Addr) (sl : Array (Option Value)) (hs0 : ¬(!it1.isEmpty && Builtin.List.listTooLong (it1.size + it2.size)) = true)
    (hs1 : it1.size ≤ sizeLine) (hs2 : it1.size + it2.size ≤ sizeLine + 1) :
    Meets (Builtin.«list.extend» ⟨[.ref l, .ref b], []⟩) (fun _ R s => s.heap.get? l = some { cls := .type "list", dict := none, data := .seq it1 n, slots := #[] } ∧
      s.heap.get? b = some { cls := .type "tuple", dict := dd, data := .seq it2 n2, slots := sl } ∧ R (.ok (.ret Value.none)) { s with heap := s.heap.update l (Obj.mapSeq fun x => x ++ it2), toks := s.toks }) :=
  .of_wp fun prog w A R s h => by
    obtain ⟨hp, g, d, tk, os⟩ := s
    obtain ⟨hl, hb, h⟩ := h
    have f1 := AutoSeq1.idx_int
    have f2 := AutoSeq1.sub_tuple_tuple
    have f3 := AutoSeq1.sub_list_list
    have f4 := AutoSeq1.sub_tuple_list
    have f5 := AutoSeq1.sub_list_tuple
    have hz' : (it1 ++ it2).size ≤ sizeLine + 1 := by rw [Array.size_append]; exact hs2
    wp_walk using (wpAny_updateSeq hl rfl (hz := hs1) (_hz' := hz')), AutoSeq1.wpAny_loadPart' hl, AutoSeq1.wpAny_loadPart' hb
    exact ⟨_, rfl, h⟩
theorem mt_extendT {X : Cx} : MtM X "list.extend" (rExtendT X.K) := by
  intro pins s σ H x vs v us Q I rx rv h
  obtain ⟨l, b, xs, zs, rfl, rfl, hH, hB, hz, q⟩ := h
  cases rx
  obtain ⟨u, rfl, ru⟩ := rv.one
  cases ru
  obtain ⟨z, its, n, r, hl, e⟩ := I.lstM hH
  obtain ⟨its2, r2, ⟨⟨c2, dd, dt, sl⟩, e2, hc, n2, hd⟩, z2⟩ := I.tuple (SqT.of hB)
  cases (show c2 = _ from hc)
  cases (show dt = _ from hd)
  have hl2 := r2.length
  have hsz : its.toArray.size + its2.toArray.size ≤ sizeLine := by rw [List.size_toArray, List.size_toArray]; omega
  have hlong : ¬ (!its.toArray.isEmpty && Builtin.List.listTooLong (its.toArray.size + its2.toArray.size)) = true := by
    rw [notLongL hsz, Bool.and_false]
    exact Bool.false_ne_true
  refine call_meets F.slot_list_extend ⟨_, e, rfl⟩ F.entry_list_extend (F.args_list_extend_2 _ _) (meets_extT l its.toArray n b its2.toArray n2 dd sl hlong (by omega) (by omega)) ⟨e, e2, ?_⟩
  refine ⟨.non, _, I.lset (its' := its ++ its2) hH e (by simp) (r.append r2) ?_, rfl, q⟩
  rw [List.length_append]
  omega

/-! ### zip(a list, a tuple) -/
def ItzM (K : PySem.W.Frag) (a b : Addr) : It :=
  ⟨fun i H => ∃ (xs ys : List V) (x y : V), SqL K H a xs ∧ SqT K H b ys ∧ xs[i]? = some x ∧ ys[i]? = some y,
    fun i H v H' => ∃ T x y, v = .ref T ∧ H T = none ∧ H' = upd H T (.tup [x, y]) ∧ (∀ xs, SqL K H a xs → xs[i]? = some x) ∧ ∀ ys, SqT K H b ys → ys[i]? = some y,
    fun i H => ∃ xs ys : List V, SqL K H a xs ∧ SqT K H b ys ∧ i = min xs.length ys.length⟩
theorem zipSep {z TI TO i1 i2 a b : Addr} (D : ZipApart z TI TO i1 i2 a b) : ZipSep2 z TI TO i1 i2 [i1, a] [i2, b] := by
  obtain ⟨h1, h2, h3, h4, h5, h6, h7, h8, h9, h10, h11, h12, h13, h14, h15, h16, h17, h18⟩ := D
  refine ⟨h1, h2, h5, h6, by simp, ?_, ?_, h7, by simp, ?_, ?_, ?_, ?_⟩ <;> simp only [List.mem_cons, List.not_mem_nil, or_false, not_or]
  · exact ⟨Ne.symm h3, Ne.symm h11⟩
  · exact ⟨h8, Ne.symm h12⟩
  · exact ⟨Ne.symm h4, Ne.symm h15⟩
  · exact ⟨h9, Ne.symm h16⟩
  · exact ⟨h10, Ne.symm h17⟩
  · exact ⟨Ne.symm h10, Ne.symm h14⟩
theorem zipM_goes {P : Program} {w : World} {A : Around} {elts : List Expr} {kk : Nat} {tpos : Pos} {z TI TO i1 i2 a b : Addr} (D : ZipApart z TI TO i1 i2 a b) (hh : A.in1.handled = none) (xs ys : Array Value) :
    GoesN P w A (.Tuple elts kk tpos) z (z :: TI :: TO :: ([i1, a] ++ [i2, b])) [z, TO, i1, i2] (min xs.size ys.size) (fun i h₀ v h => ∃ T x y, v = .ref T ∧ h₀.objs.size ≤ T ∧ xs[i]? = some x ∧ ys[i]? = some y ∧ h.IsTuple T #[x, y])
      (fun i h => IsZip h z TI TO .none ∧ IsTupOf2 h TI (.ref i1) (.ref i2) ∧ (∃ a1 a2, IsTupOf2 h TO a1 a2) ∧ (h.IsListIter i1 a i ∧ h.IsList a xs) ∧ (h.IsTupleIter i2 b i ∧ h.IsTuple b ys)) :=
  GoesN.zip2 (zipSep D) (Draws.list hh i1 a D.l1i1 xs) (Draws.tuple hh i2 b D.l2i2 ys)
/-- the zip's own cells -/
def ZmSt (z TI TO i1 i2 a b : Addr) (i : Nat) (h : Heap) : Prop := IsZip h z TI TO .none ∧ IsTupOf2 h TI (.ref i1) (.ref i2) ∧ (∃ a1 a2, IsTupOf2 h TO a1 a2) ∧ h.IsListIter i1 a i ∧ h.IsTupleIter i2 b i
theorem turn_zipM {P : Program} {w : World} {K : PySem.W.Frag} {elts : List Expr} {kk : Nat} {tpos : Pos} {a b z TI TO i1 i2 : Addr} (D : ZipApart z TI TO i1 i2 a b) :
    Turn P w K (.Tuple elts kk tpos) (ItzM K a b) [z, TI, TO, i1, i2] z (ZmSt z TI TO i1 i2 a b) := by
  have live : ∀ i h, ZmSt z TI TO i1 i2 a b i h → ∀ c ∈ [z, TI, TO, i1, i2], ∃ o, h.get? c = some o ∧ ∀ v, o.data ≠ .cell v := by
    rintro i h ⟨hz, hTI, ⟨x, y, hTO⟩, ⟨o1, e1, _, d1⟩, ⟨o2, e2, _, d2⟩⟩ c hc
    simp only [List.mem_cons, List.not_mem_nil, or_false] at hc
    rcases hc with rfl | rfl | rfl | rfl | rfl
    · exact ⟨_, hz, fun v q => nomatch q⟩
    · exact ⟨_, hTI, fun v q => nomatch q⟩
    · exact ⟨_, hTO, fun v q => nomatch q⟩
    · exact ⟨o1, e1, fun v q => by rw [d1] at q; cases q⟩
    · exact ⟨o2, e2, fun v q => by rw [d2] at q; cases q⟩
  have ch : ∀ c ∈ ([z, TO, i1, i2] : List Addr), c ∈ [z, TI, TO, i1, i2] := by
    intro c hc
    simp only [List.mem_cons, List.not_mem_nil, or_false] at hc ⊢
    rcases hc with h | h | h | h <;> simp [h]
  refine ⟨by simp, live, ?_, ?_, ?_, fun A i s Q E st h => wpAny_pyIter_zip st.1 h⟩
  · rintro i h h' ⟨hz, hTI, ⟨x, y, hTO⟩, h1, h2⟩ k
    exact ⟨k z (by simp) _ hz, k TI (by simp) _ hTI, ⟨x, y, k TO (by simp) _ hTO⟩, h1.at fun o q => k i1 (by simp) o q, h2.at fun o q => k i2 (by simp) o q⟩
  · intro X hP hw hK hc i pins s σ H E I hf st hg
    subst hP hw hK
    obtain ⟨xs, ys, x, y, hqx, hqy, hx, hy⟩ := hg
    obtain ⟨its, rv, p, _⟩ := I.list hqx
    obtain ⟨its2, rv2, p2, _⟩ := I.tuple hqy
    obtain ⟨hz, hTI, hTO, h1, h2⟩ := st
    have hi : i < min its.toArray.size its2.toArray.size := by
      have a1 := (List.getElem?_eq_some_iff.mp hx).1
      have a2 := (List.getElem?_eq_some_iff.mp hy).1
      have b1 := rv.length
      have b2 := rv2.length
      simp only [List.size_toArray]
      omega
    refine (zipM_goes D (I.ok.hd hc) its.toArray its2.toArray).goes i s _ E hi ⟨hz, hTI, hTO, ⟨h1, p.isList⟩, h2, p2⟩ fun v h' tk hY st' hk htk => ?_
    obtain ⟨T, u, u2, rfl, hT, hu, hu2, hIT⟩ := hY
    obtain ⟨v1, e1, ru⟩ := rv.get hx
    obtain ⟨v2, e2, ru2⟩ := rv2.get hy
    have q1 : u = v1 := by
      have : its[i]? = some u := by simpa using hu
      rw [e1] at this
      exact (Option.some.inj this).symm
    have q2 : u2 = v2 := by
      have : its2[i]? = some u2 := by simpa using hu2
      rw [e2] at this
      exact (Option.some.inj this).symm
    subst q1 q2
    have new : ObjOk X.prog X.w (upd H T (.tup [x, y])) h' T (.tup [x, y]) := ⟨by show 2 ≤ sizeLine; decide, [u, u2], .cons ru (.cons ru2 .nil), hIT⟩
    have I1 : Inv X pins σ (upd H T (.tup [x, y])) { s with heap := h', toks := tk } := I.turnedNew (t' := tk) (ch := [z, TO, i1, i2]) hk (fun c hc' => hf c (ch c hc')) hT new
    obtain ⟨a1, a2, a3, ⟨a4, _⟩, a5, _⟩ := st'
    refine ⟨.ref T, _, I1, rfl, ⟨T, x, y, rfl, I.hok.fresh hT, rfl, fun l hl => by rw [I.list_inj hl hqx]; exact hx, fun l hl => by rw [I.tuple_inj hl hqy]; exact hy⟩, ⟨a1, a2, a3, a4, a5⟩, fun c hcm => ?_⟩
    obtain ⟨o, ho, _⟩ := live i s.heap ⟨hz, hTI, hTO, h1, h2⟩ c hcm
    rw [upd_ne (Nat.ne_of_lt (Nat.lt_of_lt_of_le (Heap.lt_size ho) hT))]
    exact (hf c hcm).1
  · intro X hP hw hK hc i pins s σ H E I hf st hg
    subst hP hw hK
    obtain ⟨xs, ys, hqx, hqy, hi⟩ := hg
    obtain ⟨its, rv, p, _⟩ := I.list hqx
    obtain ⟨its2, rv2, p2, _⟩ := I.tuple hqy
    obtain ⟨hz, hTI, hTO, h1, h2⟩ := st
    have hi' : i = min its.toArray.size its2.toArray.size := by
      rw [hi, rv.length, rv2.length]; simp
    subst hi'
    exact (zipM_goes (elts := elts) (kk := kk) (tpos := tpos) D (I.ok.hd hc) its.toArray its2.toArray).stops s (fun s' => Inv X pins σ H s') E ⟨hz, hTI, hTO, ⟨h1, p.isList⟩, h2, p2⟩ fun h' tk hk htk => I.turnedL (t' := tk) (ch := [z, TO, i1, i2]) hk fun c hc' => hf c (ch c hc')
def iZipM (K : PySem.W.Frag) (ta : TA) : TI := fun σ H R => ta σ H fun vs H1 => ∃ a b xs ys, vs = [.ref a, .ref b] ∧ SqL K H1 a xs ∧ SqT K H1 b ys ∧ R (ItzM K a b) H1
theorem pi_zipM {X : Cx} {e e2 : Expr} {ta : TA} {p pos tpos : Pos} {elts : List Expr} {kk : Nat} (hg : Gl X "zip") (hm : X.mg "zip" = none) (ha : PA X [e, e2] ta)
    (hs : starEach [e, e2] X.env = (false, eval e X.env) :: starEach [e2] X.env := by rfl) (hpl : (backTo pos (starEach [e2] X.env)).any (·.1) = false := by rfl) :
    PI X (.Tuple elts kk tpos) (.Call (.Name "zip" p) [e, e2] [] pos) (iZipM X.K ta) := by
  refine ⟨fun pins s σ H R I h => ?_⟩
  refine Call_ (ld_blt I hg hm boot_zip (callWith_type1 (thn (ha.run pos pins s σ H _ I h) fun us s1 ⟨vs, H1, I1, r1, a, b, xs, ys, ex, hqx, hqy, q⟩ => ?_) hs hpl))
  subst ex
  obtain ⟨u1, u2, rfl, ra, rb⟩ := Vals.two r1
  obtain rfl : u1 = Value.ref a := ra
  obtain rfl : u2 = Value.ref b := rb
  obtain ⟨its, rv, p1, _⟩ := I1.list hqx
  obtain ⟨its2, rv2, p2, _⟩ := I1.tuple hqy
  have la : a < s1.heap.objs.size := p1.lt
  have lb : b < s1.heap.objs.size := p2.lt
  refine zip_begins2 (begins_list a its.toArray) (begins_tuple b its2.toArray) p1.isList p2 fun h' hz hTI hTO h1 h2 hsz hk => wpAny_pyIter_zip hz ?_
  have I2 : Inv X pins σ H1 { s1 with heap := h' } := I1.kept (t' := s1.toks) hk
  refine ⟨s1.heap.objs.size + 4, [s1.heap.objs.size + 4, s1.heap.objs.size + 2, s1.heap.objs.size + 3, s1.heap.objs.size, s1.heap.objs.size + 1], _, _, H1, rfl, I2,
    turn_zipM (PySem.W.ktu_apart s1.heap.objs.size a b la lb), ⟨hz, hTI, ⟨_, _, hTO⟩, ⟨_, h1, rfl, rfl⟩, ⟨_, h2, rfl, rfl⟩⟩, fun c hcm => ?_, q⟩
  have hle : s1.heap.objs.size ≤ c := by
    simp only [List.mem_cons, List.not_mem_nil, or_false] at hcm
    rcases hcm with z | z | z | z | z <;> (rw [z]; first | exact Nat.le_add_right _ _ | exact Nat.le_refl _)
  exact I1.fpOk hle (I1.hok.fresh hle)
end Sc
end

section
set_option Elab.async false
set_option linter.all false
set_option maxRecDepth 100000
set_option maxHeartbeats 4000000
namespace Sc
open PySem PySem.Spec PyProof.Rows L2
/-! ### what the top gives -/
structure Top (K : PySem.W.Frag) (mg : Str → Option Value) : Prop where
  ex : ∃ (h : Heap) (w : World), K.In h ∧ h.Ns mainGlobals mg ∧ He.SaysX faAll fnAll [] [] exB w h K
section
variable {K : PySem.W.Frag} {mg : Str → Option Value}
theorem Top.fact (T : Top K mg) (i : Nat) {f : He.Fa} (e : faAll[i]? = some f) : f.ok K = true := let ⟨_, _, _, _, S⟩ := T.ex; S.t.d.fact i e
theorem Top.int (T : Top K mg) (i : Nat) {x : Str} {z : Int} (e : faAll[i]? = some (.int x z)) : ∃ u, mg x = some u ∧ RelV (.int z) u := let ⟨_, _, X, G, S⟩ := T.ex; let ⟨t, q⟩ := He.int_ok X G (S.t.d.fact i e); ⟨_, q, t, rfl⟩
theorem Top.free (T : Top K mg) (i : Nat) {x : Str} (e : faAll[i]? = some (.free x)) : mg x = none := let ⟨_, _, X, G, S⟩ := T.ex; He.free_ok X G (S.t.d.fact i e)
theorem Top.glo (T : Top K mg) (i : Nat) {x : Str} (e : faAll[i]? = some (.glo x)) : mg x = some (.ref (He.ga K x)) := let ⟨_, _, X, G, S⟩ := T.ex; He.glo_ok X G (S.t.d.fact i e)
theorem Top.gref (T : Top K mg) (i : Nat) {x : Str} (e : faAll[i]? = some (.glo x)) : ∃ u, mg x = some u ∧ RelV (.ref (He.ga K x)) u := ⟨_, T.glo i e, rfl⟩
theorem Top.cls (T : Top K mg) (i : Nat) {x : Str} (e : faAll[i]? = some (.cls x)) : Cls K (He.ga K x) := He.cls_ok (T.fact i e)
theorem Top.noat (T : Top K mg) (i : Nat) {x f : Str} (e : faAll[i]? = some (.noat x f)) : NoAttr K (He.ga K x) f := He.noat_ok (T.fact i e)
theorem Top.mkr (T : Top K mg) (i : Nat) {x : Str} (e : faAll[i]? = some (.mkr x)) : Mk K (He.ga K x) (He.ma K (He.ga K x) "__init__") := He.mkr_ok (T.fact i e)
theorem Top.meth (T : Top K mg) (i : Nat) {x m : Str} (e : faAll[i]? = some (.meth x m)) : Meth K (He.ga K x) m (He.ma K (He.ga K x) m) := He.meth_ok (T.fact i e)
theorem Top.def_ (T : Top K mg) (i : Nat) {d : He.DefD} (e : fnAll[i]? = some d) : ∃ fd, FunD K d.name d.qual d.params d.body d.scope (d.dvs K) (d.kws K) (He.fAd K d.at_) fd := let ⟨_, _, _, _, S⟩ := T.ex; S.t.d.def_ i e
theorem Top.exb (T : Top K mg) : exB K = true := let ⟨_, _, _, _, S⟩ := T.ex; S.more

theorem Top.g_is_job (T : Top K mg) : mg "is_job" = some (.ref (He.ga K "is_job")) := T.glo 0 rfl
theorem Top.g_all_jobs (T : Top K mg) : mg "all_jobs" = some (.ref (He.ga K "all_jobs")) := T.glo 1 rfl
theorem Top.g_work_of (T : Top K mg) : mg "work_of" = some (.ref (He.ga K "work_of")) := T.glo 2 rfl
theorem Top.g_hours_of (T : Top K mg) : mg "hours_of" = some (.ref (He.ga K "hours_of")) := T.glo 3 rfl
theorem Top.g_places_of (T : Top K mg) : mg "places_of" = some (.ref (He.ga K "places_of")) := T.glo 4 rfl
theorem Top.g_shut_ways (T : Top K mg) : mg "shut_ways" = some (.ref (He.ga K "shut_ways")) := T.glo 5 rfl
theorem Top.g_day_after (T : Top K mg) : mg "day_after" = some (.ref (He.ga K "day_after")) := T.glo 6 rfl
theorem Top.g_day_now (T : Top K mg) : mg "day_now" = some (.ref (He.ga K "day_now")) := T.glo 7 rfl
theorem Top.g_thousandths (T : Top K mg) : mg "thousandths" = some (.ref (He.ga K "thousandths")) := T.glo 8 rfl
theorem Top.g_loss_of (T : Top K mg) : mg "loss_of" = some (.ref (He.ga K "loss_of")) := T.glo 9 rfl
theorem Top.g_lost_so_far (T : Top K mg) : mg "lost_so_far" = some (.ref (He.ga K "lost_so_far")) := T.glo 10 rfl
theorem Top.g_drivable (T : Top K mg) : mg "drivable" = some (.ref (He.ga K "drivable")) := T.glo 11 rfl
theorem Top.g_reached_over (T : Top K mg) : mg "reached_over" = some (.ref (He.ga K "reached_over")) := T.glo 12 rfl
theorem Top.g_reached_with (T : Top K mg) : mg "reached_with" = some (.ref (He.ga K "reached_with")) := T.glo 13 rfl
theorem Top.g_is_at_hand (T : Top K mg) : mg "is_at_hand" = some (.ref (He.ga K "is_at_hand")) := T.glo 14 rfl
theorem Top.g_both_directions (T : Top K mg) : mg "both_directions" = some (.ref (He.ga K "both_directions")) := T.glo 15 rfl
theorem Top.g_quickest (T : Top K mg) : mg "quickest" = some (.ref (He.ga K "quickest")) := T.glo 16 rfl
theorem Top.g_fewest_ways (T : Top K mg) : mg "fewest_ways" = some (.ref (He.ga K "fewest_ways")) := T.glo 17 rfl
theorem Top.g_can_be_reached (T : Top K mg) : mg "can_be_reached" = some (.ref (He.ga K "can_be_reached")) := T.glo 18 rfl
theorem Top.g_needed_ways (T : Top K mg) : mg "needed_ways" = some (.ref (He.ga K "needed_ways")) := T.glo 19 rfl
theorem Top.g_all_sets (T : Top K mg) : mg "all_sets" = some (.ref (He.ga K "all_sets")) := T.glo 20 rfl
theorem Top.g_opens_all (T : Top K mg) : mg "opens_all" = some (.ref (He.ga K "opens_all")) := T.glo 21 rfl
theorem Top.g_least_opening (T : Top K mg) : mg "least_opening" = some (.ref (He.ga K "least_opening")) := T.glo 22 rfl
theorem Top.g_left_jobs (T : Top K mg) : mg "left_jobs" = some (.ref (He.ga K "left_jobs")) := T.glo 23 rfl
theorem Top.g_hindrance (T : Top K mg) : mg "hindrance" = some (.ref (He.ga K "hindrance")) := T.glo 24 rfl
theorem Top.g_has (T : Top K mg) : mg "has" = some (.ref (He.ga K "has")) := T.glo 25 rfl
theorem Top.g_joined (T : Top K mg) : mg "joined" = some (.ref (He.ga K "joined")) := T.glo 26 rfl
theorem Top.g_jobs_in (T : Top K mg) : mg "jobs_in" = some (.ref (He.ga K "jobs_in")) := T.glo 27 rfl
theorem Top.g_how_many_sets (T : Top K mg) : mg "how_many_sets" = some (.ref (He.ga K "how_many_sets")) := T.glo 28 rfl
theorem Top.g_steps_from (T : Top K mg) : mg "steps_from" = some (.ref (He.ga K "steps_from")) := T.glo 29 rfl
theorem Top.g_least_losses (T : Top K mg) : mg "least_losses" = some (.ref (He.ga K "least_losses")) := T.glo 30 rfl
theorem Top.g_first_best_step (T : Top K mg) : mg "first_best_step" = some (.ref (He.ga K "first_best_step")) := T.glo 31 rfl
theorem Top.g_best_order (T : Top K mg) : mg "best_order" = some (.ref (He.ga K "best_order")) := T.glo 32 rfl
theorem Top.g_first_fault (T : Top K mg) : mg "first_fault" = some (.ref (He.ga K "first_fault")) := T.glo 33 rfl
theorem Top.g_tried (T : Top K mg) : mg "tried" = some (.ref (He.ga K "tried")) := T.glo 34 rfl
theorem Top.g_swarming (T : Top K mg) : mg "swarming" = some (.ref (He.ga K "swarming")) := T.glo 35 rfl
theorem Top.g_strikes_at (T : Top K mg) : mg "strikes_at" = some (.ref (He.ga K "strikes_at")) := T.glo 36 rfl
theorem Top.g_due_for (T : Top K mg) : mg "due_for" = some (.ref (He.ga K "due_for")) := T.glo 37 rfl
theorem Top.g_struck_up_to (T : Top K mg) : mg "struck_up_to" = some (.ref (He.ga K "struck_up_to")) := T.glo 38 rfl
theorem Top.g_steps_in_time (T : Top K mg) : mg "steps_in_time" = some (.ref (He.ga K "steps_in_time")) := T.glo 39 rfl
theorem Top.g_has_all_due (T : Top K mg) : mg "has_all_due" = some (.ref (He.ga K "has_all_due")) := T.glo 40 rfl
theorem Top.g_jobs_wanting (T : Top K mg) : mg "jobs_wanting" = some (.ref (He.ga K "jobs_wanting")) := T.glo 41 rfl
theorem Top.g_saving_order (T : Top K mg) : mg "saving_order" = some (.ref (He.ga K "saving_order")) := T.glo 42 rfl
theorem Top.g_in_one_row (T : Top K mg) : mg "in_one_row" = some (.ref (He.ga K "in_one_row")) := T.glo 43 rfl
theorem Top.g_state (T : Top K mg) : mg "state" = some (.ref (He.ga K "state")) := T.glo 44 rfl
theorem Top.g_left (T : Top K mg) : mg "left" = some (.ref (He.ga K "left")) := T.glo 45 rfl
theorem Top.g_reached (T : Top K mg) : mg "reached" = some (.ref (He.ga K "reached")) := T.glo 46 rfl
theorem Top.g_near (T : Top K mg) : mg "near" = some (.ref (He.ga K "near")) := T.glo 47 rfl
theorem Top.g_must (T : Top K mg) : mg "must" = some (.ref (He.ga K "must")) := T.glo 48 rfl
theorem Top.g_least (T : Top K mg) : mg "least" = some (.ref (He.ga K "least")) := T.glo 49 rfl
theorem Top.g_try_jobs (T : Top K mg) : mg "try_jobs" = some (.ref (He.ga K "try_jobs")) := T.glo 50 rfl
theorem Top.g_best (T : Top K mg) : mg "best" = some (.ref (He.ga K "best")) := T.glo 51 rfl
theorem Top.g_prove (T : Top K mg) : mg "prove" = some (.ref (He.ga K "prove")) := T.glo 52 rfl
theorem Top.g_check (T : Top K mg) : mg "check" = some (.ref (He.ga K "check")) := T.glo 53 rfl
theorem Top.g_due (T : Top K mg) : mg "due" = some (.ref (He.ga K "due")) := T.glo 54 rfl
theorem Top.g_save (T : Top K mg) : mg "save" = some (.ref (He.ga K "save")) := T.glo 55 rfl
theorem Top.g_struck (T : Top K mg) : mg "struck" = some (.ref (He.ga K "struck")) := T.glo 56 rfl
theorem Top.g_whatif (T : Top K mg) : mg "whatif" = some (.ref (He.ga K "whatif")) := T.glo 57 rfl
theorem Top.g_how_many_numbers (T : Top K mg) : mg "how_many_numbers" = some (.ref (He.ga K "how_many_numbers")) := T.glo 58 rfl
theorem Top.g_has_row (T : Top K mg) : mg "has_row" = some (.ref (He.ga K "has_row")) := T.glo 59 rfl
theorem Top.g_row_fits (T : Top K mg) : mg "row_fits" = some (.ref (He.ga K "row_fits")) := T.glo 60 rfl
theorem Top.g_fits (T : Top K mg) : mg "fits" = some (.ref (He.ga K "fits")) := T.glo 61 rfl
theorem Top.g_net (T : Top K mg) : mg "net" = some (.ref (He.ga K "net")) := T.glo 62 rfl
theorem Top.g_way (T : Top K mg) : mg "way" = some (.ref (He.ga K "way")) := T.glo 63 rfl
theorem Top.g_wood (T : Top K mg) : mg "wood" = some (.ref (He.ga K "wood")) := T.glo 64 rfl
theorem Top.g_table (T : Top K mg) : mg "table" = some (.ref (He.ga K "table")) := T.glo 65 rfl
theorem Top.g_beetle (T : Top K mg) : mg "beetle" = some (.ref (He.ga K "beetle")) := T.glo 66 rfl
theorem Top.g_done (T : Top K mg) : mg "done" = some (.ref (He.ga K "done")) := T.glo 67 rfl
theorem Top.g_undo (T : Top K mg) : mg "undo" = some (.ref (He.ga K "undo")) := T.glo 68 rfl
theorem Top.g_answer_of (T : Top K mg) : mg "answer_of" = some (.ref (He.ga K "answer_of")) := T.glo 69 rfl
theorem Top.g_row_from (T : Top K mg) : mg "row_from" = some (.ref (He.ga K "row_from")) := T.glo 70 rfl
theorem Top.g_answers (T : Top K mg) : mg "answers" = some (.ref (He.ga K "answers")) := T.glo 71 rfl
theorem Top.c_OUT_OF_RANGE (T : Top K mg) : ∃ u, mg "OUT_OF_RANGE" = some u ∧ RelV (.int (-1)) u := T.int 72 rfl
theorem Top.c_NOT_THERE (T : Top K mg) : ∃ u, mg "NOT_THERE" = some u ∧ RelV (.int (-3)) u := T.int 73 rfl
theorem Top.c_DONE_ALREADY (T : Top K mg) : ∃ u, mg "DONE_ALREADY" = some u ∧ RelV (.int (-8)) u := T.int 74 rfl
theorem Top.c_CANNOT_BE (T : Top K mg) : ∃ u, mg "CANNOT_BE" = some u ∧ RelV (.int (-4)) u := T.int 75 rfl
theorem Top.c_FULL (T : Top K mg) : ∃ u, mg "FULL" = some u ∧ RelV (.int (-9)) u := T.int 76 rfl
theorem Top.c_FIRST_WOOD (T : Top K mg) : ∃ u, mg "FIRST_WOOD" = some u ∧ RelV (.int (32)) u := T.int 77 rfl
theorem Top.c_MOST_JOBS (T : Top K mg) : ∃ u, mg "MOST_JOBS" = some u ∧ RelV (.int (10)) u := T.int 78 rfl
theorem Top.c_MOST_PROVED (T : Top K mg) : ∃ u, mg "MOST_PROVED" = some u ∧ RelV (.int (6)) u := T.int 79 rfl
theorem Top.c_MOST (T : Top K mg) : ∃ u, mg "MOST" = some u ∧ RelV (.int (1000000000000000)) u := T.int 80 rfl
theorem Top.c_TABLE_CALL (T : Top K mg) : ∃ u, mg "TABLE_CALL" = some u ∧ RelV (.int (4)) u := T.int 81 rfl
theorem Top.c_LEAST_CALL (T : Top K mg) : ∃ u, mg "LEAST_CALL" = some u ∧ RelV (.int (13)) u := T.int 82 rfl
theorem Top.c_TRY_CALL (T : Top K mg) : ∃ u, mg "TRY_CALL" = some u ∧ RelV (.int (14)) u := T.int 83 rfl
theorem Top.c_CHECK_CALL (T : Top K mg) : ∃ u, mg "CHECK_CALL" = some u ∧ RelV (.int (17)) u := T.int 84 rfl
theorem Top.c_MOST_WAYS (T : Top K mg) : ∃ u, mg "MOST_WAYS" = some u ∧ RelV (.int (32)) u := T.int 85 rfl
theorem Top.c_NET_CALL (T : Top K mg) : ∃ u, mg "NET_CALL" = some u ∧ RelV (.int (1)) u := T.int 86 rfl
theorem Top.f_len (T : Top K mg) : mg "len" = none := T.free 87 rfl
theorem Top.f_max (T : Top K mg) : mg "max" = none := T.free 88 rfl
theorem Top.f_min (T : Top K mg) : mg "min" = none := T.free 89 rfl
theorem Top.f_sum (T : Top K mg) : mg "sum" = none := T.free 90 rfl
theorem Top.f_all (T : Top K mg) : mg "all" = none := T.free 91 rfl
theorem Top.f_any (T : Top K mg) : mg "any" = none := T.free 92 rfl
theorem Top.f_range (T : Top K mg) : mg "range" = none := T.free 93 rfl
theorem Top.f_enumerate (T : Top K mg) : mg "enumerate" = none := T.free 94 rfl
theorem Top.f_list (T : Top K mg) : mg "list" = none := T.free 95 rfl
theorem Top.f_dict (T : Top K mg) : mg "dict" = none := T.free 96 rfl
theorem Top.f_tuple (T : Top K mg) : mg "tuple" = none := T.free 97 rfl
theorem Top.f_sorted (T : Top K mg) : mg "sorted" = none := T.free 98 rfl
theorem Top.f_zip (T : Top K mg) : mg "zip" = none := T.free 99 rfl
theorem Top.g_Way (T : Top K mg) : mg "Way" = some (.ref (He.ga K "Way")) := T.glo 100 rfl
theorem Top.cl_Way (T : Top K mg) : Cls K (He.ga K "Way") := T.cls 101 rfl
theorem Top.mk_Way (T : Top K mg) : Mk K (He.ga K "Way") (He.ma K (He.ga K "Way") "__init__") := T.mkr 102 rfl
theorem Top.na_Way_a (T : Top K mg) : NoAttr K (He.ga K "Way") "a" := T.noat 103 rfl
theorem Top.na_Way_b (T : Top K mg) : NoAttr K (He.ga K "Way") "b" := T.noat 104 rfl
theorem Top.na_Way_minutes (T : Top K mg) : NoAttr K (He.ga K "Way") "minutes" := T.noat 105 rfl
theorem Top.na_Way_work (T : Top K mg) : NoAttr K (He.ga K "Way") "work" := T.noat 106 rfl
theorem Top.g_Wood (T : Top K mg) : mg "Wood" = some (.ref (He.ga K "Wood")) := T.glo 107 rfl
theorem Top.cl_Wood (T : Top K mg) : Cls K (He.ga K "Wood") := T.cls 108 rfl
theorem Top.mk_Wood (T : Top K mg) : Mk K (He.ga K "Wood") (He.ma K (He.ga K "Wood") "__init__") := T.mkr 109 rfl
theorem Top.na_Wood_place (T : Top K mg) : NoAttr K (He.ga K "Wood") "place" := T.noat 110 rfl
theorem Top.na_Wood_kind (T : Top K mg) : NoAttr K (He.ga K "Wood") "kind" := T.noat 111 rfl
theorem Top.na_Wood_cents (T : Top K mg) : NoAttr K (He.ga K "Wood") "cents" := T.noat 112 rfl
theorem Top.na_Wood_work (T : Top K mg) : NoAttr K (He.ga K "Wood") "work" := T.noat 113 rfl
theorem Top.na_Wood_day (T : Top K mg) : NoAttr K (He.ga K "Wood") "day" := T.noat 114 rfl
theorem Top.g_Office (T : Top K mg) : mg "Office" = some (.ref (He.ga K "Office")) := T.glo 115 rfl
theorem Top.cl_Office (T : Top K mg) : Cls K (He.ga K "Office") := T.cls 116 rfl
theorem Top.mk_Office (T : Top K mg) : Mk K (He.ga K "Office") (He.ma K (He.ga K "Office") "__init__") := T.mkr 117 rfl
theorem Top.na_Office_places (T : Top K mg) : NoAttr K (He.ga K "Office") "places" := T.noat 118 rfl
theorem Top.na_Office_hours_a_day (T : Top K mg) : NoAttr K (He.ga K "Office") "hours_a_day" := T.noat 119 rfl
theorem Top.na_Office_first_day (T : Top K mg) : NoAttr K (He.ga K "Office") "first_day" := T.noat 120 rfl
theorem Top.na_Office_ways (T : Top K mg) : NoAttr K (He.ga K "Office") "ways" := T.noat 121 rfl
theorem Top.na_Office_woods (T : Top K mg) : NoAttr K (He.ga K "Office") "woods" := T.noat 122 rfl
theorem Top.na_Office_tables (T : Top K mg) : NoAttr K (He.ga K "Office") "tables" := T.noat 123 rfl
theorem Top.na_Office_beetles (T : Top K mg) : NoAttr K (He.ga K "Office") "beetles" := T.noat 124 rfl
theorem Top.na_Office_jobs_done (T : Top K mg) : NoAttr K (He.ga K "Office") "jobs_done" := T.noat 125 rfl
theorem Top.g_Line (T : Top K mg) : mg "Line" = some (.ref (He.ga K "Line")) := T.glo 126 rfl
theorem Top.cl_Line (T : Top K mg) : Cls K (He.ga K "Line") := T.cls 127 rfl
theorem Top.mk_Line (T : Top K mg) : Mk K (He.ga K "Line") (He.ma K (He.ga K "Line") "__init__") := T.mkr 128 rfl
theorem Top.na_Line_office (T : Top K mg) : NoAttr K (He.ga K "Line") "office" := T.noat 129 rfl
theorem Top.me_Office_has_place (T : Top K mg) : Meth K (He.ga K "Office") "has_place" (He.ma K (He.ga K "Office") "has_place") := T.meth 130 rfl
theorem Top.c_RANGES (T : Top K mg) : ∃ u, mg "RANGES" = some u ∧ RelV (.ref (He.ga K "RANGES")) u := T.gref 131 rfl
theorem Top.c_ROWS (T : Top K mg) : ∃ u, mg "ROWS" = some u ∧ RelV (.ref (He.ga K "ROWS")) u := T.gref 132 rfl
theorem Top.c_DEEDS (T : Top K mg) : ∃ u, mg "DEEDS" = some u ∧ RelV (.ref (He.ga K "DEEDS")) u := T.gref 133 rfl
theorem Top.d_is_job (T : Top K mg) : ∃ fd, FunD K "is_job" "is_job" (defArgs s_is_job) (defBody s_is_job) (defScope s_is_job) [] [] (He.ga K "is_job") fd := T.def_ 0 rfl
theorem Top.d_all_jobs (T : Top K mg) : ∃ fd, FunD K "all_jobs" "all_jobs" (defArgs s_all_jobs) (defBody s_all_jobs) (defScope s_all_jobs) [] [] (He.ga K "all_jobs") fd := T.def_ 1 rfl
theorem Top.d_work_of (T : Top K mg) : ∃ fd, FunD K "work_of" "work_of" (defArgs s_work_of) (defBody s_work_of) (defScope s_work_of) [] [] (He.ga K "work_of") fd := T.def_ 2 rfl
theorem Top.d_hours_of (T : Top K mg) : ∃ fd, FunD K "hours_of" "hours_of" (defArgs s_hours_of) (defBody s_hours_of) (defScope s_hours_of) [] [] (He.ga K "hours_of") fd := T.def_ 3 rfl
theorem Top.d_places_of (T : Top K mg) : ∃ fd, FunD K "places_of" "places_of" (defArgs s_places_of) (defBody s_places_of) (defScope s_places_of) [] [] (He.ga K "places_of") fd := T.def_ 4 rfl
theorem Top.d_shut_ways (T : Top K mg) : ∃ fd, FunD K "shut_ways" "shut_ways" (defArgs s_shut_ways) (defBody s_shut_ways) (defScope s_shut_ways) [] [] (He.ga K "shut_ways") fd := T.def_ 5 rfl
theorem Top.d_day_after (T : Top K mg) : ∃ fd, FunD K "day_after" "day_after" (defArgs s_day_after) (defBody s_day_after) (defScope s_day_after) [] [] (He.ga K "day_after") fd := T.def_ 6 rfl
theorem Top.d_day_now (T : Top K mg) : ∃ fd, FunD K "day_now" "day_now" (defArgs s_day_now) (defBody s_day_now) (defScope s_day_now) [] [] (He.ga K "day_now") fd := T.def_ 7 rfl
theorem Top.d_thousandths (T : Top K mg) : ∃ fd, FunD K "thousandths" "thousandths" (defArgs s_thousandths) (defBody s_thousandths) (defScope s_thousandths) [] [] (He.ga K "thousandths") fd := T.def_ 8 rfl
theorem Top.d_loss_of (T : Top K mg) : ∃ fd, FunD K "loss_of" "loss_of" (defArgs s_loss_of) (defBody s_loss_of) (defScope s_loss_of) [] [] (He.ga K "loss_of") fd := T.def_ 9 rfl
theorem Top.d_lost_so_far (T : Top K mg) : ∃ fd, FunD K "lost_so_far" "lost_so_far" (defArgs s_lost_so_far) (defBody s_lost_so_far) (defScope s_lost_so_far) [] [] (He.ga K "lost_so_far") fd := T.def_ 10 rfl
theorem Top.d_drivable (T : Top K mg) : ∃ fd, FunD K "drivable" "drivable" (defArgs s_drivable) (defBody s_drivable) (defScope s_drivable) [] [] (He.ga K "drivable") fd := T.def_ 11 rfl
theorem Top.d_reached_over (T : Top K mg) : ∃ fd, FunD K "reached_over" "reached_over" (defArgs s_reached_over) (defBody s_reached_over) (defScope s_reached_over) [] [] (He.ga K "reached_over") fd := T.def_ 12 rfl
theorem Top.d_reached_with (T : Top K mg) : ∃ fd, FunD K "reached_with" "reached_with" (defArgs s_reached_with) (defBody s_reached_with) (defScope s_reached_with) [] [] (He.ga K "reached_with") fd := T.def_ 13 rfl
theorem Top.d_is_at_hand (T : Top K mg) : ∃ fd, FunD K "is_at_hand" "is_at_hand" (defArgs s_is_at_hand) (defBody s_is_at_hand) (defScope s_is_at_hand) [] [] (He.ga K "is_at_hand") fd := T.def_ 14 rfl
theorem Top.d_both_directions (T : Top K mg) : ∃ fd, FunD K "both_directions" "both_directions" (defArgs s_both_directions) (defBody s_both_directions) (defScope s_both_directions) [] [] (He.ga K "both_directions") fd := T.def_ 15 rfl
theorem Top.d_quickest (T : Top K mg) : ∃ fd, FunD K "quickest" "quickest" (defArgs s_quickest) (defBody s_quickest) (defScope s_quickest) [] [] (He.ga K "quickest") fd := T.def_ 16 rfl
theorem Top.d_fewest_ways (T : Top K mg) : ∃ fd, FunD K "fewest_ways" "fewest_ways" (defArgs s_fewest_ways) (defBody s_fewest_ways) (defScope s_fewest_ways) [] [] (He.ga K "fewest_ways") fd := T.def_ 17 rfl
theorem Top.d_can_be_reached (T : Top K mg) : ∃ fd, FunD K "can_be_reached" "can_be_reached" (defArgs s_can_be_reached) (defBody s_can_be_reached) (defScope s_can_be_reached) [] [] (He.ga K "can_be_reached") fd := T.def_ 18 rfl
theorem Top.d_needed_ways (T : Top K mg) : ∃ fd, FunD K "needed_ways" "needed_ways" (defArgs s_needed_ways) (defBody s_needed_ways) (defScope s_needed_ways) [] [] (He.ga K "needed_ways") fd := T.def_ 19 rfl
theorem Top.d_all_sets (T : Top K mg) : ∃ fd, FunD K "all_sets" "all_sets" (defArgs s_all_sets) (defBody s_all_sets) (defScope s_all_sets) [] [] (He.ga K "all_sets") fd := T.def_ 20 rfl
theorem Top.d_opens_all (T : Top K mg) : ∃ fd, FunD K "opens_all" "opens_all" (defArgs s_opens_all) (defBody s_opens_all) (defScope s_opens_all) [] [] (He.ga K "opens_all") fd := T.def_ 21 rfl
theorem Top.d_least_opening (T : Top K mg) : ∃ fd, FunD K "least_opening" "least_opening" (defArgs s_least_opening) (defBody s_least_opening) (defScope s_least_opening) [] [] (He.ga K "least_opening") fd := T.def_ 22 rfl
theorem Top.d_left_jobs (T : Top K mg) : ∃ fd, FunD K "left_jobs" "left_jobs" (defArgs s_left_jobs) (defBody s_left_jobs) (defScope s_left_jobs) [] [] (He.ga K "left_jobs") fd := T.def_ 23 rfl
theorem Top.d_hindrance (T : Top K mg) : ∃ fd, FunD K "hindrance" "hindrance" (defArgs s_hindrance) (defBody s_hindrance) (defScope s_hindrance) [] [] (He.ga K "hindrance") fd := T.def_ 24 rfl
theorem Top.d_has (T : Top K mg) : ∃ fd, FunD K "has" "has" (defArgs s_has) (defBody s_has) (defScope s_has) [] [] (He.ga K "has") fd := T.def_ 25 rfl
theorem Top.d_joined (T : Top K mg) : ∃ fd, FunD K "joined" "joined" (defArgs s_joined) (defBody s_joined) (defScope s_joined) [] [] (He.ga K "joined") fd := T.def_ 26 rfl
theorem Top.d_jobs_in (T : Top K mg) : ∃ fd, FunD K "jobs_in" "jobs_in" (defArgs s_jobs_in) (defBody s_jobs_in) (defScope s_jobs_in) [] [] (He.ga K "jobs_in") fd := T.def_ 27 rfl
theorem Top.d_how_many_sets (T : Top K mg) : ∃ fd, FunD K "how_many_sets" "how_many_sets" (defArgs s_how_many_sets) (defBody s_how_many_sets) (defScope s_how_many_sets) [] [] (He.ga K "how_many_sets") fd := T.def_ 28 rfl
theorem Top.d_steps_from (T : Top K mg) : ∃ fd, FunD K "steps_from" "steps_from" (defArgs s_steps_from) (defBody s_steps_from) (defScope s_steps_from) [] [] (He.ga K "steps_from") fd := T.def_ 29 rfl
theorem Top.d_least_losses (T : Top K mg) : ∃ fd, FunD K "least_losses" "least_losses" (defArgs s_least_losses) (defBody s_least_losses) (defScope s_least_losses) [] [] (He.ga K "least_losses") fd := T.def_ 30 rfl
theorem Top.d_first_best_step (T : Top K mg) : ∃ fd, FunD K "first_best_step" "first_best_step" (defArgs s_first_best_step) (defBody s_first_best_step) (defScope s_first_best_step) [] [] (He.ga K "first_best_step") fd := T.def_ 31 rfl
theorem Top.d_best_order (T : Top K mg) : ∃ fd, FunD K "best_order" "best_order" (defArgs s_best_order) (defBody s_best_order) (defScope s_best_order) [] [] (He.ga K "best_order") fd := T.def_ 32 rfl
theorem Top.d_first_fault (T : Top K mg) : ∃ fd, FunD K "first_fault" "first_fault" (defArgs s_first_fault) (defBody s_first_fault) (defScope s_first_fault) [] [] (He.ga K "first_fault") fd := T.def_ 33 rfl
theorem Top.d_tried (T : Top K mg) : ∃ fd, FunD K "tried" "tried" (defArgs s_tried) (defBody s_tried) (defScope s_tried) [] [] (He.ga K "tried") fd := T.def_ 34 rfl
theorem Top.d_swarming (T : Top K mg) : ∃ fd, FunD K "swarming" "swarming" (defArgs s_swarming) (defBody s_swarming) (defScope s_swarming) [] [] (He.ga K "swarming") fd := T.def_ 35 rfl
theorem Top.d_strikes_at (T : Top K mg) : ∃ fd, FunD K "strikes_at" "strikes_at" (defArgs s_strikes_at) (defBody s_strikes_at) (defScope s_strikes_at) [] [] (He.ga K "strikes_at") fd := T.def_ 36 rfl
theorem Top.d_due_for (T : Top K mg) : ∃ fd, FunD K "due_for" "due_for" (defArgs s_due_for) (defBody s_due_for) (defScope s_due_for) [] [] (He.ga K "due_for") fd := T.def_ 37 rfl
theorem Top.d_struck_up_to (T : Top K mg) : ∃ fd, FunD K "struck_up_to" "struck_up_to" (defArgs s_struck_up_to) (defBody s_struck_up_to) (defScope s_struck_up_to) [] [] (He.ga K "struck_up_to") fd := T.def_ 38 rfl
theorem Top.d_steps_in_time (T : Top K mg) : ∃ fd, FunD K "steps_in_time" "steps_in_time" (defArgs s_steps_in_time) (defBody s_steps_in_time) (defScope s_steps_in_time) [] [] (He.ga K "steps_in_time") fd := T.def_ 39 rfl
theorem Top.d_has_all_due (T : Top K mg) : ∃ fd, FunD K "has_all_due" "has_all_due" (defArgs s_has_all_due) (defBody s_has_all_due) (defScope s_has_all_due) [] [] (He.ga K "has_all_due") fd := T.def_ 40 rfl
theorem Top.d_jobs_wanting (T : Top K mg) : ∃ fd, FunD K "jobs_wanting" "jobs_wanting" (defArgs s_jobs_wanting) (defBody s_jobs_wanting) (defScope s_jobs_wanting) [] [] (He.ga K "jobs_wanting") fd := T.def_ 41 rfl
theorem Top.d_saving_order (T : Top K mg) : ∃ fd, FunD K "saving_order" "saving_order" (defArgs s_saving_order) (defBody s_saving_order) (defScope s_saving_order) [] [] (He.ga K "saving_order") fd := T.def_ 42 rfl
theorem Top.d_in_one_row (T : Top K mg) : ∃ fd, FunD K "in_one_row" "in_one_row" (defArgs s_in_one_row) (defBody s_in_one_row) (defScope s_in_one_row) [] [] (He.ga K "in_one_row") fd := T.def_ 43 rfl
theorem Top.d_state (T : Top K mg) : ∃ fd, FunD K "state" "state" (defArgs s_state) (defBody s_state) (defScope s_state) [] [] (He.ga K "state") fd := T.def_ 44 rfl
theorem Top.d_left (T : Top K mg) : ∃ fd, FunD K "left" "left" (defArgs s_left) (defBody s_left) (defScope s_left) [] [] (He.ga K "left") fd := T.def_ 45 rfl
theorem Top.d_reached (T : Top K mg) : ∃ fd, FunD K "reached" "reached" (defArgs s_reached) (defBody s_reached) (defScope s_reached) [] [] (He.ga K "reached") fd := T.def_ 46 rfl
theorem Top.d_near (T : Top K mg) : ∃ fd, FunD K "near" "near" (defArgs s_near) (defBody s_near) (defScope s_near) [] [] (He.ga K "near") fd := T.def_ 47 rfl
theorem Top.d_must (T : Top K mg) : ∃ fd, FunD K "must" "must" (defArgs s_must) (defBody s_must) (defScope s_must) [] [] (He.ga K "must") fd := T.def_ 48 rfl
theorem Top.d_least (T : Top K mg) : ∃ fd, FunD K "least" "least" (defArgs s_least) (defBody s_least) (defScope s_least) [] [] (He.ga K "least") fd := T.def_ 49 rfl
theorem Top.d_try_jobs (T : Top K mg) : ∃ fd, FunD K "try_jobs" "try_jobs" (defArgs s_try_jobs) (defBody s_try_jobs) (defScope s_try_jobs) [] [] (He.ga K "try_jobs") fd := T.def_ 50 rfl
theorem Top.d_best (T : Top K mg) : ∃ fd, FunD K "best" "best" (defArgs s_best) (defBody s_best) (defScope s_best) [] [] (He.ga K "best") fd := T.def_ 51 rfl
theorem Top.d_prove (T : Top K mg) : ∃ fd, FunD K "prove" "prove" (defArgs s_prove) (defBody s_prove) (defScope s_prove) [] [] (He.ga K "prove") fd := T.def_ 52 rfl
theorem Top.d_check (T : Top K mg) : ∃ fd, FunD K "check" "check" (defArgs s_check) (defBody s_check) (defScope s_check) [] [] (He.ga K "check") fd := T.def_ 53 rfl
theorem Top.d_due (T : Top K mg) : ∃ fd, FunD K "due" "due" (defArgs s_due) (defBody s_due) (defScope s_due) [] [] (He.ga K "due") fd := T.def_ 54 rfl
theorem Top.d_save (T : Top K mg) : ∃ fd, FunD K "save" "save" (defArgs s_save) (defBody s_save) (defScope s_save) [] [] (He.ga K "save") fd := T.def_ 55 rfl
theorem Top.d_struck (T : Top K mg) : ∃ fd, FunD K "struck" "struck" (defArgs s_struck) (defBody s_struck) (defScope s_struck) [] [] (He.ga K "struck") fd := T.def_ 56 rfl
theorem Top.d_whatif (T : Top K mg) : ∃ fd, FunD K "whatif" "whatif" (defArgs s_whatif) (defBody s_whatif) (defScope s_whatif) [] [] (He.ga K "whatif") fd := T.def_ 57 rfl
theorem Top.d_how_many_numbers (T : Top K mg) : ∃ fd, FunD K "how_many_numbers" "how_many_numbers" (defArgs s_how_many_numbers) (defBody s_how_many_numbers) (defScope s_how_many_numbers) [] [] (He.ga K "how_many_numbers") fd := T.def_ 58 rfl
theorem Top.d_has_row (T : Top K mg) : ∃ fd, FunD K "has_row" "has_row" (defArgs s_has_row) (defBody s_has_row) (defScope s_has_row) [] [] (He.ga K "has_row") fd := T.def_ 59 rfl
theorem Top.d_row_fits (T : Top K mg) : ∃ fd, FunD K "row_fits" "row_fits" (defArgs s_row_fits) (defBody s_row_fits) (defScope s_row_fits) [] [] (He.ga K "row_fits") fd := T.def_ 60 rfl
theorem Top.d_fits (T : Top K mg) : ∃ fd, FunD K "fits" "fits" (defArgs s_fits) (defBody s_fits) (defScope s_fits) [] [] (He.ga K "fits") fd := T.def_ 61 rfl
theorem Top.d_net (T : Top K mg) : ∃ fd, FunD K "net" "net" (defArgs s_net) (defBody s_net) (defScope s_net) [] [] (He.ga K "net") fd := T.def_ 62 rfl
theorem Top.d_way (T : Top K mg) : ∃ fd, FunD K "way" "way" (defArgs s_way) (defBody s_way) (defScope s_way) [] [] (He.ga K "way") fd := T.def_ 63 rfl
theorem Top.d_wood (T : Top K mg) : ∃ fd, FunD K "wood" "wood" (defArgs s_wood) (defBody s_wood) (defScope s_wood) [] [] (He.ga K "wood") fd := T.def_ 64 rfl
theorem Top.d_table (T : Top K mg) : ∃ fd, FunD K "table" "table" (defArgs s_table) (defBody s_table) (defScope s_table) [] [] (He.ga K "table") fd := T.def_ 65 rfl
theorem Top.d_beetle (T : Top K mg) : ∃ fd, FunD K "beetle" "beetle" (defArgs s_beetle) (defBody s_beetle) (defScope s_beetle) [] [] (He.ga K "beetle") fd := T.def_ 66 rfl
theorem Top.d_done (T : Top K mg) : ∃ fd, FunD K "done" "done" (defArgs s_done) (defBody s_done) (defScope s_done) [] [] (He.ga K "done") fd := T.def_ 67 rfl
theorem Top.d_undo (T : Top K mg) : ∃ fd, FunD K "undo" "undo" (defArgs s_undo) (defBody s_undo) (defScope s_undo) [] [] (He.ga K "undo") fd := T.def_ 68 rfl
theorem Top.d_answer_of (T : Top K mg) : ∃ fd, FunD K "answer_of" "answer_of" (defArgs s_answer_of) (defBody s_answer_of) (defScope s_answer_of) [] [] (He.ga K "answer_of") fd := T.def_ 69 rfl
theorem Top.d_row_from (T : Top K mg) : ∃ fd, FunD K "row_from" "row_from" (defArgs s_row_from) (defBody s_row_from) (defScope s_row_from) [] [] (He.ga K "row_from") fd := T.def_ 70 rfl
theorem Top.d_answers (T : Top K mg) : ∃ fd, FunD K "answers" "answers" (defArgs s_answers) (defBody s_answers) (defScope s_answers) [] [] (He.ga K "answers") fd := T.def_ 71 rfl
theorem Top.d_Way__init__ (T : Top K mg) : ∃ fd, FunD K "__init__" "Way.__init__" (defArgs s_Way__init__) (defBody s_Way__init__) (defScope s_Way__init__) [] [] (He.ma K (He.ga K "Way") "__init__") fd := T.def_ 72 rfl
theorem Top.d_Wood__init__ (T : Top K mg) : ∃ fd, FunD K "__init__" "Wood.__init__" (defArgs s_Wood__init__) (defBody s_Wood__init__) (defScope s_Wood__init__) [] [] (He.ma K (He.ga K "Wood") "__init__") fd := T.def_ 73 rfl
theorem Top.d_Office__init__ (T : Top K mg) : ∃ fd, FunD K "__init__" "Office.__init__" (defArgs s_Office__init__) (defBody s_Office__init__) (defScope s_Office__init__) [] [] (He.ma K (He.ga K "Office") "__init__") fd := T.def_ 74 rfl
theorem Top.d_Officehas_place (T : Top K mg) : ∃ fd, FunD K "has_place" "Office.has_place" (defArgs s_Officehas_place) (defBody s_Officehas_place) (defScope s_Officehas_place) [] [] (He.ma K (He.ga K "Office") "has_place") fd := T.def_ 75 rfl
theorem Top.d_Line__init__ (T : Top K mg) : ∃ fd, FunD K "__init__" "Line.__init__" (defArgs s_Line__init__) (defBody s_Line__init__) (defScope s_Line__init__) [] [] (He.ma K (He.ga K "Line") "__init__") fd := T.def_ 76 rfl
end
/-! ### the tables -/
theorem itemsT_ok {K : PySem.W.Frag} {v : Value} {us : List Value} (e : itemsT K v = some us) : ∃ a, v = .ref a ∧ ∀ (H : Hp) (xs : List V), Vals xs us → SqT K H a xs := by
  unfold itemsT at e
  split at e
  · rename_i a
    refine ⟨a, rfl, fun H xs hv => ?_⟩
    split at e
    · rename_i c dd its n sl q
      split at e
      · rename_i hc
        have e' := Option.some.inj e
        rw [Bool.and_eq_true, decide_eq_true_eq, decide_eq_true_eq] at hc
        subst e'
        exact .inr ⟨_, its, n, q, congrArg Value.type hc.1, rfl, hc.2, hv⟩
      · cases e
    · cases e
  · cases e
theorem mapM_ok {α β : Type} {f : α → Option β} : ∀ {l : List α} {r : List β}, l.mapM f = some r → Paired (fun a b => f a = some b) l r
  | [], r, e => by
    simp only [List.mapM_nil, Option.pure_def, Option.some.injEq] at e
    subst e
    exact .nil
  | a :: l, r, e => by
    simp only [List.mapM_cons, Option.pure_def, Option.bind_eq_bind] at e
    obtain ⟨b, hb, e⟩ := Option.bind_eq_some_iff.mp e
    obtain ⟨bs, hbs, e⟩ := Option.bind_eq_some_iff.mp e
    obtain rfl := Option.some.inj e
    exact .cons hb (mapM_ok hbs)
theorem intV_ok {v : Value} {i : Int} (e : intV v = some i) : RelV (.int i) v := by
  cases v <;> first | (cases e; done) | (cases e; exact ⟨_, rfl⟩)
theorem vals_ints {us : List Value} {l : List Int} (h : Paired (fun a b => intV a = some b) us l) : Vals (l.map V.int) us := by
  induction h with
  | nil => exact .nil
  | cons h _ ih => exact .cons (intV_ok h) ih
theorem intsT_ok {K : PySem.W.Frag} {v : Value} {l : List Int} (e : intsT K v = some l) : ∃ a, v = .ref a ∧ ∀ H : Hp, SqT K H a (l.map V.int) := by
  unfold intsT at e
  obtain ⟨us, h1, h2⟩ := Option.bind_eq_some_iff.mp e
  obtain ⟨a, ea, h⟩ := itemsT_ok h1
  exact ⟨a, ea, fun H => h H _ (vals_ints (mapM_ok h2))⟩
/-- a tuple of tuples of ints -/
def TT2 (K : PySem.W.Frag) (a : Addr) (l : List (List Int)) : Prop := ∃ ps : List Addr, (∀ H : Hp, SqT K H a (ps.map V.ref)) ∧ Paired (fun (p : Addr) (q : List Int) => ∀ H : Hp, SqT K H p (q.map V.int)) ps l
theorem refs_of {β : Type} {Pr : Addr → β → Prop} : ∀ {us : List Value} {l : List β}, Paired (fun v b => ∃ a, v = Value.ref a ∧ Pr a b) us l → ∃ ps : List Addr, Vals (ps.map V.ref) us ∧ Paired Pr ps l
  | _, _, .nil => ⟨[], .nil, .nil⟩
  | _, _, .cons ⟨a, e, h⟩ t => let ⟨ps, h1, h2⟩ := refs_of t; ⟨a :: ps, .cons e h1, .cons h h2⟩
theorem paired_mono {α β : Type} {F G : α → β → Prop} (f : ∀ a b, F a b → G a b) : ∀ {l₁ : List α} {l₂ : List β}, Paired F l₁ l₂ → Paired G l₁ l₂
  | _, _, .nil => .nil
  | _, _, .cons r t => .cons (f _ _ r) (paired_mono f t)
theorem Top.ranges {K : PySem.W.Frag} {mg : Str → Option Value} (T : Top K mg) : ∃ ps : List Addr, (∀ H : Hp, SqT K H (He.ga K "RANGES") (ps.map V.ref)) ∧ Paired (fun p q => TT2 K p q) ps rangesI := by
  have h := T.exb
  unfold exB at h
  rw [Bool.and_eq_true, decide_eq_true_eq] at h
  have h1 := h.1
  unfold rangesV at h1
  obtain ⟨us, e1, e2⟩ := Option.bind_eq_some_iff.mp h1
  obtain ⟨a, ea, ha⟩ := itemsT_ok e1
  obtain rfl := Value.ref.inj ea
  have h2 := mapM_ok e2
  have h3 : Paired (fun v b => ∃ a, v = Value.ref a ∧ TT2 K a b) us rangesI := paired_mono (fun v q hv => by
    obtain ⟨ws, f1, f2⟩ := Option.bind_eq_some_iff.mp hv
    obtain ⟨c, ec, hc⟩ := itemsT_ok f1
    obtain ⟨ps, p1, p2⟩ := refs_of (Pr := fun (p : Addr) (q : List Int) => ∀ H : Hp, SqT K H p (q.map V.int)) (paired_mono (fun v b hb => intsT_ok hb) (mapM_ok f2))
    exact ⟨c, ec, ps, fun H => hc H _ p1, p2⟩) h2
  obtain ⟨ps, p1, p2⟩ := refs_of h3
  exact ⟨ps, fun H => ha H _ p1, p2⟩
theorem Top.deeds {K : PySem.W.Frag} {mg : Str → Option Value} (T : Top K mg) (H : Hp) : SqT K H (He.ga K "DEEDS") (deeds.map (He.Dv.v K)) := by
  have h := T.exb
  unfold exB at h
  rw [Bool.and_eq_true, Bool.and_eq_true] at h
  exact He.tupB_ok h.2.2 H
/-- ROWS as a dict of the heap -/
theorem rows_dict {K : PySem.W.Frag} (h : rowsV K = some rowsI) : ∃ (o : Obj) (es : Array DictEntry) (ep : Nat), K.lookup (He.ga K "ROWS") = some o ∧ o.ExactDict ∧ o.data = .dict es ep ∧ (He.ga K "ROWS" == sysModules) = false ∧
    Paired (fun (e : DictEntry) (r : Int × List Int) => RelV (.int r.1) e.key ∧ e.hash = hashInt r.1 ∧ ∃ a, e.val = .ref a ∧ ∀ H : Hp, SqT K H a (r.2.map V.int)) es.toList rowsI := by
  unfold rowsV at h
  split at h
  · rename_i c es ep sl q
    split at h
    · rename_i hc
      rw [Bool.and_eq_true, Bool.and_eq_true, decide_eq_true_eq, Array.isEmpty_iff, Bool.not_eq_true'] at hc
      refine ⟨_, es, ep, q, ⟨congrArg Value.type hc.1, rfl, hc.2.1⟩, rfl, hc.2.2, paired_mono (fun e r hr => ?_) (mapM_ok h)⟩
      obtain ⟨i, h1, h2⟩ := Option.bind_eq_some_iff.mp hr
      split at h2
      · rename_i hh
        obtain ⟨l, h3, h4⟩ := Option.map_eq_some_iff.mp h2
        subst h4
        exact ⟨intV_ok h1, of_decide_eq_true hh, intsT_ok h3⟩
      · cases h2
    · cases h
  · cases h
theorem Top.rows {K : PySem.W.Frag} {mg : Str → Option Value} (T : Top K mg) : rowsV K = some rowsI := by
  have h := T.exb
  unfold exB at h
  rw [Bool.and_eq_true, Bool.and_eq_true, decide_eq_true_eq, decide_eq_true_eq] at h
  exact h.2.1
theorem rows_of {P : Program} {w : World} {K : PySem.W.Frag} {h : Heap} (X : K.In h) (e : rowsV K = some rowsI) : (He.ga K "ROWS" == sysModules) = false ∧
    ∃ vs : List (Int × Value), h.DictOf (intKind P w) (He.ga K "ROWS") vs ∧ Paired (fun (v : Int × Value) (r : Int × List Int) => v.1 = r.1 ∧ ∃ a, v.2 = .ref a ∧ ∀ H : Hp, SqT K H a (r.2.map V.int)) vs rowsI := by
  obtain ⟨o, es, ep, h1, h2, h3, h4, h5⟩ := rows_dict e
  refine ⟨h4, ?_⟩
  have key : ∀ {l : List DictEntry} {r : List (Int × List Int)}, Paired (fun (e : DictEntry) (r : Int × List Int) => RelV (.int r.1) e.key ∧ e.hash = hashInt r.1 ∧ ∃ a, e.val = .ref a ∧ ∀ H : Hp, SqT K H a (r.2.map V.int)) l r →
      ∃ vs : List (Int × Value), Pairs (intKind P w) l vs ∧ vs.map (·.1) = r.map (·.1) ∧ (∀ e ∈ l, ∃ k, (intKind P w).is k e.key = true ∧ e.hash = (intKind P w).hash k) ∧
        Paired (fun (v : Int × Value) (r : Int × List Int) => v.1 = r.1 ∧ ∃ a, v.2 = .ref a ∧ ∀ H : Hp, SqT K H a (r.2.map V.int)) vs r := by
    intro l r hp
    induction hp with
    | nil => exact ⟨[], .nil, rfl, fun e he => absurd he (by simp), .nil⟩
    | @cons e q l r hq _ ih =>
      obtain ⟨vs, a1, a2, a3, a4⟩ := ih
      obtain ⟨⟨t, ht⟩, q2, a, q3, q4⟩ := hq
      have his : (intKind P w).is q.1 e.key = true := by rw [ht]; exact PySem.intKind_is P w q.1 t
      refine ⟨(q.1, e.val) :: vs, .cons his rfl a1, by simp [a2], fun e' he' => ?_, .cons ⟨rfl, a, q3, q4⟩ a4⟩
      rcases List.mem_cons.mp he' with z | z
      · subst z
        exact ⟨q.1, his, q2⟩
      · exact a3 e' z
  obtain ⟨vs, a1, a2, a3, a4⟩ := key h5
  refine ⟨vs, ⟨o, es, ep, X _ _ h1, h2, h3, fun e he => a3 e (by simpa using he), a1, ?_⟩, a4⟩
  rw [a2]
  decide
theorem rows_at {K : PySem.W.Frag} : ∀ {vs : List (Int × Value)} {rs : List (Int × List Int)}, Paired (fun (v : Int × Value) (r : Int × List Int) => v.1 = r.1 ∧ ∃ a, v.2 = .ref a ∧ ∀ H : Hp, SqT K H a (r.2.map V.int)) vs rs → ∀ i : Int,
    (valueAt vs i).isSome = rs.any (fun r => decide (r.1 = i)) ∧ ∀ l, (rs.find? fun r => decide (r.1 = i)).map (·.2) = some l → ∃ a, valueAt vs i = some (.ref a) ∧ ∀ H : Hp, SqT K H a (l.map V.int)
  | _, _, .nil, i => ⟨rfl, fun l h => by simp at h⟩
  | _, _, .cons (a := v) (b := r) ⟨e, a, ev, hs⟩ t, i => by
    have ih := rows_at t i
    unfold valueAt at *
    by_cases c : v.1 = i
    · have c' : r.1 = i := e ▸ c
      simp only [List.find?_cons, c, c', decide_true, List.any_cons, Bool.true_or]
      refine ⟨rfl, fun l hl => ?_⟩
      have hl' : r.2 = l := Option.some.inj hl
      exact ⟨a, by simp [ev], hl' ▸ hs⟩
    · have c' : ¬ r.1 = i := fun z => c (e.trans z)
      simp only [List.find?_cons, c, c', decide_false, List.any_cons, Bool.false_or]
      exact ih
/-- call in ROWS; ROWS[call] -/
def rInRows (K : PySem.W.Frag) : R2 := fun x y H Q => ∃ i : Int, x = .int i ∧ y = .ref (He.ga K "ROWS") ∧ Q (.bl (rowsI.any fun r => decide (r.1 = i))) H
theorem op_inRows {X : Cx} (T : Top X.K X.mg) : OpR X (compareOp .In) (rInRows X.K) := by
  intro pins s σ H x y v u Q I rx ry h
  obtain ⟨i, rfl, rfl, q⟩ := h
  obtain ⟨t, rfl⟩ := rx
  cases ry
  obtain ⟨hm, vs, hd, hp⟩ := rows_of (P := X.prog) (w := X.w) I.kIn T.rows
  refine wpAny_in_of (PySem.intKind_is X.prog X.w i t) hm hd.mapOf ⟨.bl _, H, I.tok _, rfl, ?_⟩
  rw [(rows_at hp i).1]
  exact q
def tRows (K : PySem.W.Frag) (ti : TE) : TE := fun σ H Q => ti σ H fun x H1 => ∃ (i : Int) (l : List Int), x = .int i ∧ (rowsI.find? fun r => decide (r.1 = i)).map (·.2) = some l ∧ ∀ a, SqT K H1 a (l.map V.int) → Q (.ref a) H1
theorem pe_ixRows {X : Cx} (T : Top X.K X.mg) {i : Expr} {ti : TE} {p pos : Pos} (hi : PE X i ti) (hg : Gl X "ROWS" := by rfl) (hs : NoSl i := by exact fun _ _ => rfl) : PE X (.Subscript (.Name "ROWS" p) i pos) (tRows X.K ti) := by
  refine ⟨fun pins s σ H Q I h => ?_⟩
  obtain ⟨u0, hu0, r0⟩ := T.c_ROWS
  cases r0
  refine subD_of PySem.F.slot_dict_getitem.lookup hs (ld_glob I hg hu0 (thn (hi.run pins s σ H _ I h) fun u s1 ⟨x, H1, I1, r1, z, l, ex, hl, q⟩ => ?_))
  subst ex
  obtain ⟨t, rfl⟩ := r1
  obtain ⟨hm, vs, hd, hp⟩ := rows_of (P := X.prog) (w := X.w) I1.kIn T.rows
  obtain ⟨a, h1, h2⟩ := (rows_at hp z).2 l hl
  exact ⟨hd.typeIs, wpAny_getItem_of (PySem.intKind_is X.prog X.w z t) hd.mapOf h1 ⟨.ref a, H1, I1.tok _, rfl, q a (h2 H1)⟩⟩
end Sc
end

section
set_option Elab.async false
set_option linter.all false
set_option maxRecDepth 100000
set_option maxHeartbeats 4000000
namespace Sc
open PySem PySem.Spec PyProof.Rows L2 Evl
open TimStorm (Office Way Wood Table Beetle)
/-! ### how an office lies in the heap -/
abbrev nv (n : Nat) : V := .int (n : Int)
def nvs (l : List Nat) : List V := l.map nv
theorem nvs_len (l : List Nat) : (nvs l).length = l.length := List.length_map ..
theorem nvs_at {l : List Nat} {i j : Nat} (h : l[i]? = some j) : (nvs l)[i]? = some (nv j) := by unfold nvs; rw [List.getElem?_map, h]; rfl
theorem nvs_of {l : List Nat} {i : Nat} {x : V} (h : (nvs l)[i]? = some x) : ∃ j, l[i]? = some j ∧ x = nv j := by
  unfold nvs at h
  rw [List.getElem?_map] at h
  obtain ⟨j, h1, h2⟩ := Option.map_eq_some_iff.mp h
  exact ⟨j, h1, h2.symm⟩
theorem nvs_app (l r : List Nat) : nvs (l ++ r) = nvs l ++ nvs r := List.map_append ..
theorem nvs_flat : ∀ l : List Nat, (nvs l).all flatV = true
  | [] => rfl
  | _ :: l => nvs_flat l
theorem inV_nat (j : Nat) : ∀ l : List Nat, inV (nv j) (nvs l) = l.contains j
  | [] => rfl
  | a :: l => by
    have ih := inV_nat j l
    unfold inV at *
    show (eqV (nv a) (nv j) || (nvs l).any fun y => eqV y (nv j)) = (a :: l).contains j
    rw [ih, List.contains_cons]
    congr 1
    show ((a : Int) == (j : Int)) = (j == a)
    by_cases h : a = j
    · subst h; simp
    · rw [beq_eq_false_iff_ne.mpr (by omega), beq_eq_false_iff_ne.mpr (Ne.symm h)]
abbrev CW (K : PySem.W.Frag) : Addr := He.ga K "Way"
abbrev CD (K : PySem.W.Frag) : Addr := He.ga K "Wood"
abbrev CO (K : PySem.W.Frag) : Addr := He.ga K "Office"
abbrev CL (K : PySem.W.Frag) : Addr := He.ga K "Line"
def wayF (w : Way) : List (Str × V) := [("a", nv w.a), ("b", nv w.b), ("minutes", nv w.minutes), ("work", nv w.work)]
def woodF (w : Wood) : List (Str × V) := [("place", nv w.place), ("kind", nv w.kind), ("cents", nv w.cents), ("work", nv w.work), ("day", nv w.day)]
structure OA where
  o : Addr
  ways : Addr
  woods : Addr
  tables : Addr
  beetles : Addr
  done : Addr
def offF (A : OA) (s : Office) : List (Str × V) := [("places", nv s.n), ("hours_a_day", nv s.hours), ("first_day", nv s.first), ("ways", .ref A.ways), ("woods", .ref A.woods), ("tables", .ref A.tables), ("beetles", .ref A.beetles), ("jobs_done", .ref A.done)]
def WayAt (K : PySem.W.Frag) (H : Hp) (p : Addr) (w : Way) : Prop := ∃ dx, H p = some (.ins (CW K) dx (wayF w))
def WoodAt (K : PySem.W.Frag) (H : Hp) (p : Addr) (w : Wood) : Prop := ∃ dx, H p = some (.ins (CD K) dx (woodF w))
/-- a kind's table, a kind's beetles, as the dict holds them -/
def TabAt (H : Hp) (v : Option V) : Option Table → Prop
  | none => v = none
  | some t => ∃ p q, v = some (.ref p) ∧ H p = some (.tup [nv t.step, .ref q]) ∧ H q = some (.tup (nvs t.row))
def BeeAt (H : Hp) (v : Option V) : Option Beetle → Prop
  | none => v = none
  | some b => ∃ p, v = some (.ref p) ∧ H p = some (.tup [nv b.days, nv b.gap])
/-- keys below 16, none twice -/
def Keys16 (kvs : List (Key × V)) : Prop := (kvs.map (·.1)).Nodup ∧ ∀ x ∈ kvs, ∃ k : Nat, k < 16 ∧ x.1 = .inl (k : Int)
structure OffAt (K : PySem.W.Frag) (H : Hp) (A : OA) (s : Office) : Prop where
  off : ∃ dx, H A.o = some (.ins (CO K) dx (offF A s))
  ways : ∃ ps : List Addr, H A.ways = some (.lst (ps.map V.ref)) ∧ Paired (WayAt K H) ps s.ways
  woods : ∃ ps : List Addr, H A.woods = some (.lst (ps.map V.ref)) ∧ Paired (WoodAt K H) ps s.woods
  tables : ∃ kvs, H A.tables = some (.dK kvs) ∧ Keys16 kvs ∧ ∀ k : Nat, TabAt H (valV kvs (.inl (k : Int))) (s.tableOf k)
  beetles : ∃ kvs, H A.beetles = some (.dK kvs) ∧ Keys16 kvs ∧ ∀ k : Nat, BeeAt H (valV kvs (.inl (k : Int))) (s.beetles.find? fun b => b.kind == k)
  done : H A.done = some (.lst (nvs s.done.reverse))
section
variable {K : PySem.W.Frag} {H H' : Hp} {A : OA} {s : Office}
theorem WayAt.mono (e : Ex H H') {p : Addr} {w : Way} (h : WayAt K H p w) : WayAt K H' p w := let ⟨dx, q⟩ := h; ⟨dx, e _ _ q⟩
theorem WoodAt.mono (e : Ex H H') {p : Addr} {w : Wood} (h : WoodAt K H p w) : WoodAt K H' p w := let ⟨dx, q⟩ := h; ⟨dx, e _ _ q⟩
theorem TabAt.mono (e : Ex H H') {v : Option V} {t : Option Table} (h : TabAt H v t) : TabAt H' v t := by
  cases t with
  | none => exact h
  | some t =>
    obtain ⟨p, q, h1, h2, h3⟩ := h
    exact ⟨p, q, h1, e _ _ h2, e _ _ h3⟩
theorem BeeAt.mono (e : Ex H H') {v : Option V} {t : Option Beetle} (h : BeeAt H v t) : BeeAt H' v t := by
  cases t with
  | none => exact h
  | some t =>
    obtain ⟨p, h1, h2⟩ := h
    exact ⟨p, h1, e _ _ h2⟩
theorem OffAt.mono (e : Ex H H') (h : OffAt K H A s) : OffAt K H' A s :=
  ⟨let ⟨dx, q⟩ := h.off; ⟨dx, e _ _ q⟩, let ⟨ps, q, r⟩ := h.ways; ⟨ps, e _ _ q, paired_mono (fun _ _ z => z.mono e) r⟩, let ⟨ps, q, r⟩ := h.woods; ⟨ps, e _ _ q, paired_mono (fun _ _ z => z.mono e) r⟩,
    let ⟨kvs, q, u, r⟩ := h.tables; ⟨kvs, e _ _ q, u, fun k => (r k).mono e⟩, let ⟨kvs, q, u, r⟩ := h.beetles; ⟨kvs, e _ _ q, u, fun k => (r k).mono e⟩, e _ _ h.done⟩
end
theorem paired_at {α β : Type} {F : α → β → Prop} : ∀ {l₁ : List α} {l₂ : List β}, Paired F l₁ l₂ → ∀ {i : Nat} {b : β}, l₂[i]? = some b → ∃ a, l₁[i]? = some a ∧ F a b
  | _, _, .nil, _, _, e => by simp at e
  | _, _, .cons h t, 0, _, e => ⟨_, rfl, (Option.some.inj e) ▸ h⟩
  | _, _, .cons h t, i + 1, _, e => paired_at t (i := i) e
theorem paired_at1 {α β : Type} {F : α → β → Prop} : ∀ {l₁ : List α} {l₂ : List β}, Paired F l₁ l₂ → ∀ {i : Nat} {a : α}, l₁[i]? = some a → ∃ b, l₂[i]? = some b ∧ F a b
  | _, _, .nil, _, _, e => by simp at e
  | _, _, .cons h t, 0, _, e => ⟨_, rfl, (Option.some.inj e) ▸ h⟩
  | _, _, .cons h t, i + 1, _, e => paired_at1 t (i := i) e
theorem refs_get {ps : List Addr} {i : Nat} {p : Addr} (h : ps[i]? = some p) : (ps.map V.ref)[i]? = some (.ref p) := by rw [List.getElem?_map, h]; rfl
theorem refs_get1 {ps : List Addr} {i : Nat} {x : V} (h : (ps.map V.ref)[i]? = some x) : ∃ p, ps[i]? = some p ∧ x = .ref p := by
  rw [List.getElem?_map] at h
  obtain ⟨j, h1, h2⟩ := Option.map_eq_some_iff.mp h
  exact ⟨j, h1, h2.symm⟩
theorem lk_hd {k : Str} {v : V} {r : List (Str × V)} : List.lookup k ((k, v) :: r) = some v := by
  simp only [List.lookup, beq_self_eq_true]
theorem lk_tl {k g : Str} {v : V} {r : List (Str × V)} (h : (k == g) = false) : List.lookup k ((g, v) :: r) = List.lookup k r := by
  simp only [List.lookup, h]

/-! ### fields -/
section
variable {K : PySem.W.Frag} {mg : Str → Option Value} {σ : L2.St} {H : Hp} {A : OA} {s : Office} {ta tb te : TE} {p : Addr}
theorem ev_fld {a C dx : Addr} {fs : List (Str × V)} {f : Str} {v : V} (c : Cls K C) (n : NoAttr K C f) (h : Ev ta σ H (.ref a)) (ho : H a = some (.ins C dx fs)) (hl : fs.lookup f = some v) : Ev (tFld K ta f) σ H v :=
  fun H1 e Q q => h H1 e _ fun H2 e2 => ⟨a, C, dx, fs, v, rfl, e2 _ _ (e _ _ ho), c, n, hl, q H2 e2⟩
theorem ev_w_a (T : Top K mg) {w : Way} (hw : WayAt K H p w) (h : Ev ta σ H (.ref p)) : Ev (tFld K ta "a") σ H (nv w.a) := let ⟨dx, q⟩ := hw; ev_fld T.cl_Way T.na_Way_a h q lk_hd
theorem ev_w_b (T : Top K mg) {w : Way} (hw : WayAt K H p w) (h : Ev ta σ H (.ref p)) : Ev (tFld K ta "b") σ H (nv w.b) := let ⟨dx, q⟩ := hw; ev_fld T.cl_Way T.na_Way_b h q ((lk_tl (by decide +kernel)).trans lk_hd)
theorem ev_w_minutes (T : Top K mg) {w : Way} (hw : WayAt K H p w) (h : Ev ta σ H (.ref p)) : Ev (tFld K ta "minutes") σ H (nv w.minutes) := let ⟨dx, q⟩ := hw; ev_fld T.cl_Way T.na_Way_minutes h q ((lk_tl (by decide +kernel)).trans ((lk_tl (by decide +kernel)).trans lk_hd))
theorem ev_w_work (T : Top K mg) {w : Way} (hw : WayAt K H p w) (h : Ev ta σ H (.ref p)) : Ev (tFld K ta "work") σ H (nv w.work) := let ⟨dx, q⟩ := hw; ev_fld T.cl_Way T.na_Way_work h q ((lk_tl (by decide +kernel)).trans ((lk_tl (by decide +kernel)).trans ((lk_tl (by decide +kernel)).trans lk_hd)))
theorem ev_d_place (T : Top K mg) {w : Wood} (hw : WoodAt K H p w) (h : Ev ta σ H (.ref p)) : Ev (tFld K ta "place") σ H (nv w.place) := let ⟨dx, q⟩ := hw; ev_fld T.cl_Wood T.na_Wood_place h q lk_hd
theorem ev_d_kind (T : Top K mg) {w : Wood} (hw : WoodAt K H p w) (h : Ev ta σ H (.ref p)) : Ev (tFld K ta "kind") σ H (nv w.kind) := let ⟨dx, q⟩ := hw; ev_fld T.cl_Wood T.na_Wood_kind h q ((lk_tl (by decide +kernel)).trans lk_hd)
theorem ev_d_cents (T : Top K mg) {w : Wood} (hw : WoodAt K H p w) (h : Ev ta σ H (.ref p)) : Ev (tFld K ta "cents") σ H (nv w.cents) := let ⟨dx, q⟩ := hw; ev_fld T.cl_Wood T.na_Wood_cents h q ((lk_tl (by decide +kernel)).trans ((lk_tl (by decide +kernel)).trans lk_hd))
theorem ev_d_work (T : Top K mg) {w : Wood} (hw : WoodAt K H p w) (h : Ev ta σ H (.ref p)) : Ev (tFld K ta "work") σ H (nv w.work) := let ⟨dx, q⟩ := hw; ev_fld T.cl_Wood T.na_Wood_work h q ((lk_tl (by decide +kernel)).trans ((lk_tl (by decide +kernel)).trans ((lk_tl (by decide +kernel)).trans lk_hd)))
theorem ev_d_day (T : Top K mg) {w : Wood} (hw : WoodAt K H p w) (h : Ev ta σ H (.ref p)) : Ev (tFld K ta "day") σ H (nv w.day) := let ⟨dx, q⟩ := hw; ev_fld T.cl_Wood T.na_Wood_day h q ((lk_tl (by decide +kernel)).trans ((lk_tl (by decide +kernel)).trans ((lk_tl (by decide +kernel)).trans ((lk_tl (by decide +kernel)).trans lk_hd))))
theorem ev_places (T : Top K mg) (hO : OffAt K H A s) (h : Ev ta σ H (.ref A.o)) : Ev (tFld K ta "places") σ H (nv s.n) := let ⟨dx, q⟩ := hO.off; ev_fld T.cl_Office T.na_Office_places h q lk_hd
theorem ev_hours_a_day (T : Top K mg) (hO : OffAt K H A s) (h : Ev ta σ H (.ref A.o)) : Ev (tFld K ta "hours_a_day") σ H (nv s.hours) := let ⟨dx, q⟩ := hO.off; ev_fld T.cl_Office T.na_Office_hours_a_day h q ((lk_tl (by decide +kernel)).trans lk_hd)
theorem ev_first_day (T : Top K mg) (hO : OffAt K H A s) (h : Ev ta σ H (.ref A.o)) : Ev (tFld K ta "first_day") σ H (nv s.first) := let ⟨dx, q⟩ := hO.off; ev_fld T.cl_Office T.na_Office_first_day h q ((lk_tl (by decide +kernel)).trans ((lk_tl (by decide +kernel)).trans lk_hd))
theorem ev_ways (T : Top K mg) (hO : OffAt K H A s) (h : Ev ta σ H (.ref A.o)) : Ev (tFld K ta "ways") σ H (.ref A.ways) := let ⟨dx, q⟩ := hO.off; ev_fld T.cl_Office T.na_Office_ways h q ((lk_tl (by decide +kernel)).trans ((lk_tl (by decide +kernel)).trans ((lk_tl (by decide +kernel)).trans lk_hd)))
theorem ev_woods (T : Top K mg) (hO : OffAt K H A s) (h : Ev ta σ H (.ref A.o)) : Ev (tFld K ta "woods") σ H (.ref A.woods) := let ⟨dx, q⟩ := hO.off; ev_fld T.cl_Office T.na_Office_woods h q ((lk_tl (by decide +kernel)).trans ((lk_tl (by decide +kernel)).trans ((lk_tl (by decide +kernel)).trans ((lk_tl (by decide +kernel)).trans lk_hd))))
theorem ev_tables (T : Top K mg) (hO : OffAt K H A s) (h : Ev ta σ H (.ref A.o)) : Ev (tFld K ta "tables") σ H (.ref A.tables) := let ⟨dx, q⟩ := hO.off; ev_fld T.cl_Office T.na_Office_tables h q ((lk_tl (by decide +kernel)).trans ((lk_tl (by decide +kernel)).trans ((lk_tl (by decide +kernel)).trans ((lk_tl (by decide +kernel)).trans ((lk_tl (by decide +kernel)).trans lk_hd)))))
theorem ev_beetles (T : Top K mg) (hO : OffAt K H A s) (h : Ev ta σ H (.ref A.o)) : Ev (tFld K ta "beetles") σ H (.ref A.beetles) := let ⟨dx, q⟩ := hO.off; ev_fld T.cl_Office T.na_Office_beetles h q ((lk_tl (by decide +kernel)).trans ((lk_tl (by decide +kernel)).trans ((lk_tl (by decide +kernel)).trans ((lk_tl (by decide +kernel)).trans ((lk_tl (by decide +kernel)).trans ((lk_tl (by decide +kernel)).trans lk_hd))))))
theorem ev_jobs_done (T : Top K mg) (hO : OffAt K H A s) (h : Ev ta σ H (.ref A.o)) : Ev (tFld K ta "jobs_done") σ H (.ref A.done) := let ⟨dx, q⟩ := hO.off; ev_fld T.cl_Office T.na_Office_jobs_done h q ((lk_tl (by decide +kernel)).trans ((lk_tl (by decide +kernel)).trans ((lk_tl (by decide +kernel)).trans ((lk_tl (by decide +kernel)).trans ((lk_tl (by decide +kernel)).trans ((lk_tl (by decide +kernel)).trans ((lk_tl (by decide +kernel)).trans lk_hd)))))))

theorem paired_len {α β : Type} {F : α → β → Prop} : ∀ {l₁ : List α} {l₂ : List β}, Paired F l₁ l₂ → l₁.length = l₂.length
  | _, _, .nil => rfl
  | _, _, .cons _ t => congrArg Nat.succ (paired_len t)
/-! ### lengths, items -/
theorem ev_nways (T : Top K mg) (hO : OffAt K H A s) (h : Ev ta σ H (.ref A.o)) : Ev (tCB (rLenS K) (tCons (tFld K ta "ways") tNil)) σ H (nv s.ways.length) := by
  obtain ⟨ps, h1, h2⟩ := hO.ways
  refine ev_is (ev_len (ev_ways T hO h) (sq_of h1)) ?_
  rw [List.length_map, paired_len h2]
theorem ev_nwoods (T : Top K mg) (hO : OffAt K H A s) (h : Ev ta σ H (.ref A.o)) : Ev (tCB (rLenS K) (tCons (tFld K ta "woods") tNil)) σ H (nv s.woods.length) := by
  obtain ⟨ps, h1, h2⟩ := hO.woods
  refine ev_is (ev_len (ev_woods T hO h) (sq_of h1)) ?_
  rw [List.length_map, paired_len h2]
theorem ev_ndone (T : Top K mg) (hO : OffAt K H A s) (h : Ev ta σ H (.ref A.o)) : Ev (tCB (rLenS K) (tCons (tFld K ta "jobs_done") tNil)) σ H (nv s.done.length) := by
  refine ev_is (ev_len (ev_jobs_done T hO h) (sq_of hO.done)) ?_
  rw [nvs_len, List.length_reverse]
theorem ev_ix {l : Addr} {xs : List V} {j : Nat} {v : V} (ha : Ev ta σ H (.ref l)) (hl : SqL K H l xs) (hj : Ev tb σ H (nv j)) (e : xs[j]? = some v) : Ev (tOp (rIxL K) ta tb) σ H v := ev_op ha hj (rv_ixL hl (atI_nat e))
theorem ev_ixT {l : Addr} {xs : List V} {j : Nat} {v : V} (ha : Ev ta σ H (.ref l)) (hl : SqT K H l xs) (hj : Ev tb σ H (nv j)) (e : xs[j]? = some v) : Ev (tOp (rIxT K) ta tb) σ H v := ev_op ha hj (rv_ixT hl (atI_nat e))
theorem ev_wayIx (T : Top K mg) (hO : OffAt K H A s) {j : Nat} {w : Way} (e : s.ways[j]? = some w) : ∃ p, WayAt K H p w ∧ ∀ {σ : L2.St} {ta tb : TE}, Ev ta σ H (.ref A.o) → Ev tb σ H (nv j) → Ev (tOp (rIxL K) (tFld K ta "ways") tb) σ H (.ref p) := by
  obtain ⟨ps, h1, h2⟩ := hO.ways
  obtain ⟨p, h3, h4⟩ := paired_at h2 e
  exact ⟨p, h4, fun h hj => ev_ix (ev_ways T hO h) (sq_of h1) hj (refs_get h3)⟩
theorem ev_woodIx (T : Top K mg) (hO : OffAt K H A s) {j : Nat} {w : Wood} (e : s.woods[j]? = some w) : ∃ p, WoodAt K H p w ∧ ∀ {σ : L2.St} {ta tb : TE}, Ev ta σ H (.ref A.o) → Ev tb σ H (nv j) → Ev (tOp (rIxL K) (tFld K ta "woods") tb) σ H (.ref p) := by
  obtain ⟨ps, h1, h2⟩ := hO.woods
  obtain ⟨p, h3, h4⟩ := paired_at h2 e
  exact ⟨p, h4, fun h hj => ev_ix (ev_woods T hO h) (sq_of h1) hj (refs_get h3)⟩

/-! ### numbers -/
theorem ev_lt {i j : Nat} (ha : Ev ta σ H (nv i)) (hb : Ev tb σ H (nv j)) : Ev (tOp rLt ta tb) σ H (.bl (decide (i < j))) := by
  refine ev_is (ev_op ha hb rv_I0) ?_
  exact congrArg V.bl (decide_eq_decide.mpr Int.ofNat_lt)
theorem ev_gt {i j : Nat} (ha : Ev ta σ H (nv i)) (hb : Ev tb σ H (nv j)) : Ev (tOp rGtI ta tb) σ H (.bl (decide (j < i))) := by
  refine ev_is (ev_op ha hb rv_I0) ?_
  exact congrArg V.bl (decide_eq_decide.mpr Int.ofNat_lt)
theorem ev_le {i j : Nat} (ha : Ev ta σ H (nv i)) (hb : Ev tb σ H (nv j)) : Ev (tOp rLe ta tb) σ H (.bl (decide (i ≤ j))) := by
  refine ev_is (ev_op ha hb rv_I0) ?_
  exact congrArg V.bl (decide_eq_decide.mpr Int.ofNat_le)
theorem ev_eqN {i j : Nat} (ha : Ev ta σ H (nv i)) (hb : Ev tb σ H (nv j)) : Ev (tOp rEq ta tb) σ H (.bl (decide (i = j))) := by
  refine ev_is (ev_op ha hb (rv_eq rfl)) ?_
  refine congrArg V.bl (decide_eq_decide.mpr ?_)
  constructor
  · intro h
    have := V.int.inj h
    omega
  · intro h; rw [h]
theorem ev_neN {i j : Nat} (ha : Ev ta σ H (nv i)) (hb : Ev tb σ H (nv j)) : Ev (tOp rNe ta tb) σ H (.bl (!decide (i = j))) := by
  refine ev_is (ev_op ha hb (rv_ne rfl)) ?_
  refine congrArg (fun b => V.bl (!b)) (decide_eq_decide.mpr ?_)
  constructor
  · intro h
    have := V.int.inj h
    omega
  · intro h; rw [h]
theorem ev_add {i j : Nat} (ha : Ev ta σ H (nv i)) (hb : Ev tb σ H (nv j)) : Ev (tOp rAddI ta tb) σ H (nv (i + j)) := ev_is (ev_op ha hb rv_I0) (by rw [nv, Int.natCast_add])
/-- a difference that isn't below 0 -/
theorem ev_sub {i j : Nat} (hij : j ≤ i) (ha : Ev ta σ H (nv i)) (hb : Ev tb σ H (nv j)) : Ev (tOp rSubI ta tb) σ H (nv (i - j)) := ev_is (ev_op ha hb rv_I0) (by rw [nv, Int.natCast_sub hij])
/-- max(i - j, 0) -/
theorem ev_sub0 {i j : Nat} (ha : Ev ta σ H (nv i)) (hb : Ev tb σ H (nv j)) : Ev (tCB rMax2 (tCons (tOp rSubI ta tb) (tCons (tC (.int 0)) tNil))) σ H (nv (i - j)) := by
  refine ev_is (ev_max2 (ev_op ha hb rv_I0) ev_c) ?_
  refine congrArg V.int ?_
  split <;> omega
theorem ev_div {i j : Nat} (hj : 0 < j) (hj' : j < 1073741824) (ha : Ev ta σ H (nv i)) (hb : Ev tb σ H (nv j)) : Ev (tOp rDivI ta tb) σ H (nv (i / j)) := ev_is (ev_op ha hb (rv_I ⟨by omega, by omega⟩)) (by rw [nv, Int.natCast_ediv])
theorem ev_mul {i j : Nat} (hi : i < 2 ^ 64) (ha : Ev ta σ H (nv i)) (hb : Ev tb σ H (nv j)) : Ev (tOp rMulI ta tb) σ H (nv (i * j)) := by
  refine ev_is (ev_op ha hb (rv_I (.inl ⟨by omega, by omega⟩))) (by rw [nv, Int.natCast_mul])
theorem ev_nat (n : Nat) {z : Int} (e : z = (n : Int)) : Ev (tC (.int z)) σ H (nv n) := by rw [e]; exact ev_c
theorem ev_in {l : Addr} {xs : List Nat} {j : Nat} (ha : Ev ta σ H (nv j)) (hb : Ev tb σ H (.ref l)) (hl : SqL K H l (nvs xs)) : Ev (tOp (rIn K false) ta tb) σ H (.bl (xs.contains j)) := ev_is (ev_op ha hb (rv_isL hl rfl (nvs_flat xs))) (by rw [inV_nat])
theorem ev_notIn {l : Addr} {xs : List Nat} {j : Nat} (ha : Ev ta σ H (nv j)) (hb : Ev tb σ H (.ref l)) (hl : SqL K H l (nvs xs)) : Ev (tOp (rIn K true) ta tb) σ H (.bl (!xs.contains j)) := ev_is (ev_op ha hb (rv_niL hl rfl (nvs_flat xs))) (by rw [inV_nat])
theorem contains_rev (l : List Nat) (j : Nat) : l.reverse.contains j = l.contains j := by
  rw [Bool.eq_iff_iff, List.contains_iff_mem, List.contains_iff_mem, List.mem_reverse]
end
end Sc
end

section
set_option Elab.async false
set_option linter.all false
set_option maxRecDepth 100000
set_option maxHeartbeats 4000000
namespace Sc
open PySem PySem.Spec PyProof.Rows L2 Evl
/-! ### comprehensions over data, lists of tuples -/
/-- which of l give, by places -/
def pick {β : Type} (l : List β) (p : Nat → β → Bool) (v : Nat → β → V) : List V := (l.zipIdx.filter fun z => p z.2 z.1).map fun z => v z.2 z.1
def atF {β : Type} (l : List β) (p : Nat → β → Bool) (k : Nat) : Bool := match l[k]? with
  | some b => p k b
  | none => false
def atV {β : Type} (l : List β) (v : Nat → β → V) (k : Nat) : V := match l[k]? with
  | some b => v k b
  | none => .non
theorem given_take {β : Type} (l : List β) (p : Nat → β → Bool) (v : Nat → β → V) : ∀ n, n ≤ l.length → given n (atF l p) (atV l v) = ((l.zipIdx.take n).filter fun z => p z.2 z.1).map fun z => v z.2 z.1
  | 0, _ => rfl
  | n + 1, h => by
    have ih := given_take l p v n (by omega)
    have hn : l[n]? = some l[n] := List.getElem?_eq_getElem (by omega)
    have e : l.zipIdx.take (n + 1) = l.zipIdx.take n ++ [(l[n], n)] := by
      rw [List.take_add_one]
      congr 1
      simp [List.getElem?_zipIdx, hn]
    have ef : atF l p n = p n l[n] := by unfold atF; rw [hn]
    have ev : atV l v n = v n l[n] := by unfold atV; rw [hn]
    rw [e, List.filter_append, List.map_append, ← ih]
    cases c : p n l[n] with
    | true =>
      rw [given_yes (by rw [ef, c]), ev]
      simp [c]
    | false =>
      rw [given_no (by rw [ef, c])]
      simp [c]
theorem given_pick {β : Type} (l : List β) (p : Nat → β → Bool) (v : Nat → β → V) : given l.length (atF l p) (atV l v) = pick l p v := by
  rw [given_take l p v _ (Nat.le_refl _), List.take_of_length_le (by simp)]
  rfl
theorem pick_plain {β : Type} (l : List β) (p : β → Bool) (v : β → V) : pick l (fun _ b => p b) (fun _ b => v b) = (l.filter p).map v := by
  unfold pick
  have key : ∀ (l : List β) (k : Nat), ((l.zipIdx k).filter fun z => p z.1).map (fun z => v z.1) = (l.filter p).map v := by
    intro l
    induction l with
    | nil => intro k; rfl
    | cons a l ih =>
      intro k
      rw [List.zipIdx_cons, List.filter_cons, List.filter_cons]
      by_cases c : p a = true
      · simp only [c, if_true, List.map_cons, ih]
      · simp only [c, if_false, ih]; simp [ih]
  exact key l 0
section
variable {K : PySem.W.Frag} {σ : L2.St} {H H' : Hp} {ta tb te tl : TE} {t : TT} {g : TG} {vs : List Nat} {a : Addr} {xs : List V}
/-- over a list that stands, any target; f, v by places -/
theorem el_lc {tA : TI} (f : Nat → Bool) (v : Nat → V) (hz : xs.length ≤ 40000) (hi : ∀ H1, Ex H H1 → ∀ R : It → Hp → Prop, (∀ H2, Ex H1 H2 → SqL K H2 a xs → R (Itl K a) H2) → tA σ H1 R)
    (ht : ∀ k x, xs[k]? = some x → ∀ H1, Ex H H1 → ∃ σ2, (∀ Q : L2.St → Hp → Prop, Q σ2 H1 → g x (wipe σ vs) H1 Q) ∧ wipe σ2 vs = wipe σ vs ∧ EvT t σ2 H1 (f k) ∧ (f k = true → Ev te σ2 H1 (v k))) :
    EvL (tLc tA g t te vs) σ H (given xs.length f v) := fun H0 e Q q => hi H0 e _ fun H1 e1 hx Dl hD =>
  lc_list (K := K) (a := a) (xs := xs) (Cw H1 f v Dl) ⟨hD, Ex.new hD, upd_same⟩ (fun i H' _ p => ex_l p.2.1 hx) (fun i x H' hi p => by
    obtain ⟨σ2, h1, h2, h3, h4⟩ := ht i x hi H' ((e.trans e1).trans p.2.1)
    refine h1 _ ⟨h2, ?_⟩
    have hlt := (List.getElem?_eq_some_iff.mp hi).1
    obtain ⟨p1, p2, p3⟩ := p
    refine h3 H' (Ex.refl _) _ fun H3 e3 => ?_
    cases hf : f i with
    | true =>
      rw [if_pos rfl]
      refine h4 hf H3 e3 _ fun H4 e4 => ⟨given i f v, e4 Dl _ (e3 Dl _ p3), sz_lt (by have := given_len i f v; omega), p1, Ex.mut ((p2.trans e3).trans e4) p1, ?_⟩
      rw [given_yes hf]
      exact upd_same
    | false =>
      rw [if_neg Bool.false_ne_true]
      refine ⟨p1, p2.trans e3, ?_⟩
      rw [given_no hf]
      exact e3 Dl _ p3) (fun H' p => q Dl H' (fresh_back e1 p.1) (e1.trans p.2.1) p.2.2)
theorem it_list (h : Ev tl σ H (.ref a)) (hx : SqL K H a xs) : ∀ H1, Ex H H1 → ∀ R : It → Hp → Prop, (∀ H2, Ex H1 H2 → SqL K H2 a xs → R (Itl K a) H2) → iList K tl σ H1 R := fun H1 e R q =>
  h H1 e _ fun H2 e2 => ⟨a, rfl, ⟨xs, ex_l (e.trans e2) hx⟩, q H2 e2 (ex_l (e.trans e2) hx)⟩
/-- [v for x in l if p], one name -/
theorem el_lcN {β : Type} (l : List β) (p : β → Bool) (v : β → V) {j : Nat} (gx : β → V) (h : Ev tl σ H (.ref a)) (hx : SqL K H a (l.map gx)) (hz : l.length ≤ 40000) (hw : ∀ x, wipe ((wipe σ vs).set j (some x)) vs = wipe σ vs)
    (ht : ∀ x ∈ l, ∀ H1, Ex H H1 → EvT t ((wipe σ vs).set j (some (gx x))) H1 (p x)) (he : ∀ x ∈ l, ∀ H1, Ex H H1 → p x = true → Ev te ((wipe σ vs).set j (some (gx x))) H1 (v x)) :
    EvL (tLc (iList K tl) (gName j) t te vs) σ H ((l.filter p).map v) := by
  rw [← pick_plain, ← given_pick]
  have hl : (l.map gx).length = l.length := List.length_map ..
  rw [← hl]
  refine el_lc (K := K) (a := a) _ _ (by rw [hl]; exact hz) (it_list h hx) fun k x hk H1 e => ?_
  rw [List.getElem?_map] at hk
  obtain ⟨b, hb, rfl⟩ := Option.map_eq_some_iff.mp hk
  have e1 : atF l (fun _ b => p b) k = p b := by unfold atF; rw [hb]
  have e2 : atV l (fun _ b => v b) k = v b := by unfold atV; rw [hb]
  refine ⟨(wipe σ vs).set j (some (gx b)), fun Q q => q, hw _, ?_, fun hf => ?_⟩
  · rw [e1]; exact ht b (List.mem_of_getElem? hb) H1 e
  · rw [e2]
    rw [e1] at hf
    exact he b (List.mem_of_getElem? hb) H1 e hf
theorem et_yes : EvT tYes σ H true := fun H1 _ _ q => q H1 (Ex.refl H1)
/-- [v for x in l] -/
theorem el_lcA {β : Type} (l : List β) (v : β → V) {j : Nat} (gx : β → V) (h : Ev tl σ H (.ref a)) (hx : SqL K H a (l.map gx)) (hz : l.length ≤ 40000) (hw : ∀ x, wipe ((wipe σ vs).set j (some x)) vs = wipe σ vs)
    (he : ∀ x ∈ l, ∀ H1, Ex H H1 → Ev te ((wipe σ vs).set j (some (gx x))) H1 (v x)) :
    EvL (tLc (iList K tl) (gName j) tYes te vs) σ H (l.map v) := by
  have := el_lcN (K := K) (te := te) (t := tYes) l (fun _ => true) v gx h hx hz hw (fun _ _ _ _ => et_yes) (fun x hx' H1 e _ => he x hx' H1 e)
  rwa [List.filter_eq_self.mpr (fun _ _ => rfl)] at this
/-- over range(n) -/
theorem el_lcR {ta : TA} {j n : Nat} (p : Nat → Bool) (v : Nat → V) (h : EvA ta σ H [nv n]) (hn : n ≤ 40000) (hw : ∀ x, wipe ((wipe σ vs).set j (some x)) vs = wipe σ vs)
    (ht : ∀ i H1, Ex H H1 → i < n → EvT t ((wipe σ vs).set j (some (nv i))) H1 (p i)) (he : ∀ i H1, Ex H H1 → i < n → p i = true → Ev te ((wipe σ vs).set j (some (nv i))) H1 (v i)) :
    EvL (tLc (iRng1 ta) (gName j) t te vs) σ H (((List.range n).filter p).map v) :=
  el_lcR1 (n := (n : Int)) p v h ⟨by omega, by omega⟩ hw (fun i H1 e hi => ht i H1 e (by omega)) (fun i H1 e hi => he i H1 e (by omega))
/-- over enumerate(a list) -/
theorem el_lcE {β : Type} (l : List β) (p : Nat → β → Bool) (v : Nat → β → V) {ta : TA} {i j : Nat} (h : EvA ta σ H [.ref a]) (hx : SqL K H a xs) (hl : xs.length = l.length) (hz : l.length ≤ 40000)
    (hw : ∀ x y, wipe (((wipe σ vs).set i (some x)).set j (some y)) vs = wipe σ vs)
    (ht : ∀ k x b, xs[k]? = some x → l[k]? = some b → ∀ H1, Ex H H1 → EvT t (((wipe σ vs).set i (some (nv k))).set j (some x)) H1 (p k b))
    (he : ∀ k x b, xs[k]? = some x → l[k]? = some b → ∀ H1, Ex H H1 → p k b = true → Ev te (((wipe σ vs).set i (some (nv k))).set j (some x)) H1 (v k b)) :
    EvL (tLc (iEnum K ta) (gTup K 2 (gCons (gName i) (gCons (gName j) gNil))) t te vs) σ H (pick l p v) := fun H0 e Q q => h H0 e _ fun H1 e1 => ⟨a, xs, rfl, ex_l (e.trans e1) hx, fun Dl hD => by
  rw [← given_pick, ← hl] at q
  refine lc_it (walk_enum (K := K) (a := a) (xs := xs)) (Cw H1 (atF l p) (atV l v) Dl) ⟨hD, Ex.new hD, upd_same⟩ (fun k H' _ c => ex_l ((e.trans e1).trans c.2.1) hx) (fun k y H2 H3 hk c hy => ?_) (fun H' c => q Dl H' (fresh_back e1 c.1) (e1.trans c.2.1) c.2.2)
  obtain ⟨T, y1, y2, rfl, hT, rfl, h1, h2⟩ := hy
  obtain rfl : V.int (k : Int) = y1 := Option.some.inj h1
  obtain ⟨c1, c2, c3⟩ := c
  have eT : Ex H2 (upd H2 T (.tup [nv k, y2])) := Ex.new hT
  have hb : l[k]? = some l[k] := List.getElem?_eq_getElem (by omega)
  have ef : atF l p k = p k l[k] := by unfold atF; rw [hb]
  have ev : atV l v k = v k l[k] := by unfold atV; rw [hb]
  refine ⟨T, [nv k, y2], rfl, SqT.of upd_same, rfl, nv k, [y2], rfl, y2, [], rfl, rfl, hw _ _, ?_⟩
  refine ht k y2 _ h2 hb _ (((e.trans e1).trans c2).trans eT) _ (Ex.refl _) _ fun H4 e4 => ?_
  cases hf : p k l[k] with
  | true =>
    rw [if_pos rfl]
    refine he k y2 _ h2 hb _ (((e.trans e1).trans c2).trans eT) hf H4 e4 _ fun H5 e5 => ⟨given k (atF l p) (atV l v), e5 _ _ (e4 _ _ (eT _ _ c3)), sz_lt (by have := given_len k (atF l p) (atV l v); omega), c1, Ex.mut (((c2.trans eT).trans e4).trans e5) c1, ?_⟩
    rw [given_yes (by rw [ef, hf]), ev]
    exact upd_same
  | false =>
    rw [if_neg Bool.false_ne_true]
    refine ⟨c1, (c2.trans eT).trans e4, ?_⟩
    rw [given_no (by rw [ef, hf])]
    exact e4 _ _ (eT _ _ c3)⟩
/-! ### new tuples, lists of them -/
def Tups (H : Hp) (ps : List Addr) (ts : List (List V)) : Prop := Paired (fun p t => H p = some (.tup t)) ps ts
theorem Tups.mono (e : Ex H H') {ps : List Addr} {ts : List (List V)} (h : Tups H ps ts) : Tups H' ps ts := paired_mono (fun _ _ z => e _ _ z) h
theorem Tups.put {D : Addr} {ys zs : List V} {ps : List Addr} {ts : List (List V)} (h : Tups H ps ts) (hD : H D = some (.lst ys)) : Tups (upd H D (.lst zs)) ps ts :=
  paired_mono (fun p t z => by rw [upd_ne (ne_of z hD (by intro q; cases q))]; exact z) h
/-- a list of tuples is made -/
def RetTs (ts : List (List V)) (H : Hp) (Q : VK) : Prop := ∀ p ps H2, H p = none → Ex H H2 → H2 p = some (.lst (ps.map V.ref)) → Tups H2 ps ts → Q (.ref p) H2
def RetU (xs : List V) (H : Hp) (Q : VK) : Prop := ∀ p H2, H p = none → Ex H H2 → H2 p = some (.tup xs) → Q (.ref p) H2
def EvTs (te : TE) (σ : L2.St) (H : Hp) (ts : List (List V)) : Prop := ∀ H1, Ex H H1 → ∀ Q : VK, RetTs ts H1 Q → te σ H1 Q
def SpTs (sp : Sp) (vs : List V) (H : Hp) (ts : List (List V)) : Prop := ∀ H1, Ex H H1 → ∀ Q : VK, RetTs ts H1 Q → ∀ E : XK, sp vs H1 Q E
def SpU (sp : Sp) (vs : List V) (H : Hp) (xs : List V) : Prop := ∀ H1, Ex H H1 → ∀ Q : VK, RetU xs H1 Q → ∀ E : XK, sp vs H1 Q E
theorem ets_call {sp : Sp} {E : XK} {ta : TA} {ws : List V} {ts : List (List V)} (h : EvA ta σ H ws) (hs : SpTs sp (ws ++ []) H ts) : EvTs (tCall sp [] E ta) σ H ts := fun H1 e Q q =>
  h H1 e _ fun H2 e2 => hs H2 (e.trans e2) Q (fun p ps H3 hp e3 h3 h4 => q p ps H3 (fresh_back e2 hp) (e2.trans e3) h3 h4) E
theorem eu_call {sp : Sp} {E : XK} {ta : TA} {ws xs : List V} (h : EvA ta σ H ws) (hs : SpU sp (ws ++ []) H xs) : EvU (tCall sp [] E ta) σ H xs := fun H1 e Q q =>
  h H1 e _ fun H2 e2 => hs H2 (e.trans e2) Q (fun p H3 hp e3 h3 => q p H3 (fresh_back e2 hp) (e2.trans e3) h3) E
/-- the names of a tuple's items -/
def gNames : List Nat → TGs
  | [] => gNil
  | i :: r => gCons (gName i) (gNames r)
def setAll (σ : L2.St) : List Nat → List V → L2.St
  | i :: r, v :: q => setAll (σ.set i (some v)) r q
  | _, _ => σ
theorem gNames_ok : ∀ (is : List Nat) (vs : List V) (σ : L2.St) (H : Hp) (Q : L2.St → Hp → Prop), vs.length = is.length → Q (setAll σ is vs) H → gNames is vs σ H Q
  | [], [], _, _, _, _, q => ⟨rfl, q⟩
  | [], _ :: _, _, _, _, h, _ => by cases h
  | i :: r, [], _, _, _, h, _ => by cases h
  | i :: r, v :: q, σ, H, Q, h, k => ⟨v, q, rfl, gNames_ok r q (σ.set i (some v)) H Q (by simpa using h) k⟩
theorem gTup_ok {is : List Nat} {ws : List V} {p : Addr} {Q : L2.St → Hp → Prop} (hp : SqT K H p ws) (hl : ws.length = is.length) (q : Q (setAll σ is ws) H) : gTup K is.length (gNames is) (.ref p) σ H Q :=
  ⟨p, ws, rfl, hp, hl, gNames_ok is ws σ H Q hl q⟩
/-- over a list of tuples -/
theorem el_lcT {is : List Nat} (ts : List (List V)) (p : List V → Bool) (v : List V → V) {ps : List Addr} (h : Ev tl σ H (.ref a)) (hx : SqL K H a (ps.map V.ref)) (hts : Tups H ps ts) (hz : ts.length ≤ 40000)
    (hn : ∀ t ∈ ts, t.length = is.length) (hw : ∀ t, t.length = is.length → wipe (setAll (wipe σ vs) is t) vs = wipe σ vs)
    (ht : ∀ x ∈ ts, ∀ H1, Ex H H1 → EvT t (setAll (wipe σ vs) is x) H1 (p x)) (he : ∀ x ∈ ts, ∀ H1, Ex H H1 → p x = true → Ev te (setAll (wipe σ vs) is x) H1 (v x)) :
    EvL (tLc (iList K tl) (gTup K is.length (gNames is)) t te vs) σ H ((ts.filter p).map v) := by
  have hl : (ps.map V.ref).length = ts.length := by rw [List.length_map, paired_len hts]
  rw [← pick_plain, ← given_pick, ← hl]
  refine el_lc (K := K) (a := a) _ _ (by rw [hl]; exact hz) (it_list h hx) fun k x hk H1 e => ?_
  obtain ⟨q, hq, rfl⟩ := refs_get1 hk
  obtain ⟨b, hb, hqt⟩ := paired_at1 hts hq
  have e1 : atF ts (fun _ b => p b) k = p b := by unfold atF; rw [hb]
  have e2 : atV ts (fun _ b => v b) k = v b := by unfold atV; rw [hb]
  have hm := List.mem_of_getElem? hb
  refine ⟨setAll (wipe σ vs) is b, fun Q q' => gTup_ok (SqT.of (e _ _ hqt)) (hn b hm) q', hw b (hn b hm), ?_, fun hf => ?_⟩
  · rw [e1]; exact ht b hm H1 e
  · rw [e2]
    rw [e1] at hf
    exact he b hm H1 e hf
end
end Sc
end

section
set_option Elab.async false
set_option linter.all false
set_option maxRecDepth 100000
set_option maxHeartbeats 4000000
namespace Sc
open PySem PySem.Spec PyProof.Rows L2 Evl
section
variable {K : PySem.W.Frag} {σ : L2.St} {H H' : Hp} {ta tb te tl : TE} {t : TT} {g : TG} {vs : List Nat} {a : Addr} {xs : List V}
/-! ### comprehensions whose items are new objects -/
def EvN (te : TE) (σ : L2.St) (H : Hp) (o : HO) : Prop := ∀ H1, Ex H H1 → ∀ Q : VK, (∀ p H2, H1 p = none → Ex H1 H2 → H2 p = some o → Q (.ref p) H2) → te σ H1 Q
def Objs {γ : Type} (F : γ → HO) (H : Hp) (ps : List Addr) (ts : List γ) : Prop := Paired (fun p t => H p = some (F t)) ps ts
theorem Objs.mono {γ : Type} {F : γ → HO} (e : Ex H H') {ps : List Addr} {ts : List γ} (h : Objs F H ps ts) : Objs F H' ps ts := paired_mono (fun _ _ z => e _ _ z) h
theorem Objs.upd {γ : Type} {F : γ → HO} {D : Addr} {o : HO} : ∀ {ps : List Addr} {ts : List γ}, Objs F H ps ts → (∀ q ∈ ps, q ≠ D) → Objs F (upd H D o) ps ts
  | _, _, .nil, _ => .nil
  | _, _, .cons z t, h => .cons (by rw [upd_ne (h _ List.mem_cons_self)]; exact z) (Objs.upd t fun q hq => h q (List.mem_cons_of_mem _ hq))
def RetOs {γ : Type} (F : γ → HO) (ts : List γ) (H : Hp) (Q : VK) : Prop := ∀ p ps H2, H p = none → Ex H H2 → H2 p = some (.lst (ps.map V.ref)) → Objs F H2 ps ts → (∀ q ∈ ps, q ≠ p) → Q (.ref p) H2
def EvOs {γ : Type} (F : γ → HO) (te : TE) (σ : L2.St) (H : Hp) (ts : List γ) : Prop := ∀ H1, Ex H H1 → ∀ Q : VK, RetOs F ts H1 Q → te σ H1 Q
theorem EvOs.ts {ts : List (List V)} (h : EvOs HO.tup te σ H ts) : EvTs te σ H ts := fun H1 e Q q => h H1 e Q fun p ps H2 h1 h2 h3 h4 _ => q p ps H2 h1 h2 h3 h4
theorem range_yes {γ : Type} {n : Nat} {f : Nat → Bool} (u : Nat → γ) (h : f n = true) : ((List.range (n + 1)).filter f).map u = ((List.range n).filter f).map u ++ [u n] := by
  rw [List.range_succ, List.filter_append, List.map_append]
  simp [h]
theorem range_no {γ : Type} {n : Nat} {f : Nat → Bool} (u : Nat → γ) (h : f n = false) : ((List.range (n + 1)).filter f).map u = ((List.range n).filter f).map u := by
  rw [List.range_succ, List.filter_append, List.map_append]
  simp [h]
theorem eos_lc {γ : Type} (F : γ → HO) {tA : TI} (f : Nat → Bool) (u : Nat → γ) (hz : xs.length ≤ 40000) (hi : ∀ H1, Ex H H1 → ∀ R : It → Hp → Prop, (∀ H2, Ex H1 H2 → SqL K H2 a xs → R (Itl K a) H2) → tA σ H1 R)
    (ht : ∀ k x, xs[k]? = some x → ∀ H1, Ex H H1 → ∃ σ2, (∀ Q : L2.St → Hp → Prop, Q σ2 H1 → g x (wipe σ vs) H1 Q) ∧ wipe σ2 vs = wipe σ vs ∧ EvT t σ2 H1 (f k) ∧ (f k = true → EvN te σ2 H1 (F (u k)))) :
    EvOs F (tLc tA g t te vs) σ H (((List.range xs.length).filter f).map u) := fun H0 e Q q => hi H0 e _ fun H1 e1 hx Dl hD =>
  lc_list (K := K) (a := a) (xs := xs) (fun i H' => H1 Dl = none ∧ Ex H1 H' ∧ ∃ qs : List Addr, H' Dl = some (.lst (qs.map V.ref)) ∧ qs.length ≤ i ∧ Objs F H' qs (((List.range i).filter f).map u) ∧ ∀ q ∈ qs, q ≠ Dl)
    ⟨hD, Ex.new hD, [], upd_same, Nat.le_refl _, .nil, fun q hq => absurd hq (by simp)⟩ (fun i H' _ p => ex_l p.2.1 hx) (fun i x H' hi p => by
    obtain ⟨p1, p2, qs, p3, p4, p5, p6⟩ := p
    obtain ⟨σ2, h1, h2, h3, h4⟩ := ht i x hi H' ((e.trans e1).trans p2)
    refine h1 _ ⟨h2, ?_⟩
    have hlt := (List.getElem?_eq_some_iff.mp hi).1
    refine h3 H' (Ex.refl _) _ fun H3 e3 => ?_
    cases hf : f i with
    | true =>
      rw [if_pos rfl]
      refine h4 hf H3 e3 _ fun q H4 hq e4 ho => ?_
      have hDl : H4 Dl = some (.lst (qs.map V.ref)) := e4 _ _ (e3 _ _ p3)
      have hne : q ≠ Dl := by
        intro z
        rw [z, e3 _ _ p3] at hq
        cases hq
      refine ⟨qs.map V.ref, hDl, sz_lt (by rw [List.length_map]; omega), p1, Ex.mut ((p2.trans e3).trans e4) p1, qs ++ [q], ?_, by simp; omega, ?_, ?_⟩
      · rw [upd_same, List.map_append]; rfl
      · rw [range_yes u hf]
        exact Paired.snoc ((p5.mono (e3.trans e4)).upd p6) (by rw [upd_ne hne]; exact ho)
      · intro z hz'
        rcases List.mem_append.mp hz' with m | m
        · exact p6 z m
        · rw [List.mem_singleton.mp m]; exact hne
    | false =>
      rw [if_neg Bool.false_ne_true]
      refine ⟨p1, p2.trans e3, qs, e3 _ _ p3, by omega, ?_, p6⟩
      rw [range_no u hf]
      exact p5.mono e3) (fun H' p => by
        obtain ⟨p1, p2, qs, p3, p4, p5, p6⟩ := p
        exact q Dl qs H' (fresh_back e1 p1) (e1.trans p2) p3 p5 p6)
/-- over a list of tuples, giving new things -/
theorem eos_lcT {γ : Type} (F : γ → HO) {is : List Nat} (ts : List (List V)) (p : List V → Bool) (v : List V → γ) {ps : List Addr} (h : Ev tl σ H (.ref a)) (hx : SqL K H a (ps.map V.ref)) (hts : Tups H ps ts) (hz : ts.length ≤ 40000)
    (hn : ∀ t ∈ ts, t.length = is.length) (hw : ∀ t, t.length = is.length → wipe (setAll (wipe σ vs) is t) vs = wipe σ vs)
    (ht : ∀ x ∈ ts, ∀ H1, Ex H H1 → EvT t (setAll (wipe σ vs) is x) H1 (p x)) (he : ∀ x ∈ ts, ∀ H1, Ex H H1 → p x = true → EvN te (setAll (wipe σ vs) is x) H1 (F (v x))) :
    EvOs F (tLc (iList K tl) (gTup K is.length (gNames is)) t te vs) σ H ((ts.filter p).map v) := by
  have hl : (ps.map V.ref).length = ts.length := by rw [List.length_map, paired_len hts]
  by_cases h0 : ts = []
  · subst h0
    have := eos_lc (te := te) (g := gTup K is.length (gNames is)) (t := t) (vs := vs) (K := K) (a := a) (xs := ps.map V.ref) F (fun _ => false) (fun _ => v []) (by rw [hl]; exact Nat.zero_le _) (it_list h hx) (fun k x hk => by
      have := (List.getElem?_eq_some_iff.mp hk).1
      rw [hl] at this
      exact absurd this (Nat.not_lt_zero _))
    rw [hl] at this
    exact this
  · obtain ⟨d0, hd0⟩ := List.exists_mem_of_ne_nil _ h0
    have e : (ts.filter p).map v = ((List.range (ps.map V.ref).length).filter fun k => p (ts.getD k d0)).map fun k => v (ts.getD k d0) := by
      rw [hl]
      have er : ts = (List.range ts.length).map fun k => ts.getD k d0 := by
        apply List.ext_getElem
        · simp
        · intro i h1 h2
          simp [List.getD_eq_getElem?_getD, h1]
      conv => lhs; rw [er]
      rw [List.filter_map, List.map_map]
      rfl
    rw [e]
    refine eos_lc (K := K) (a := a) F _ _ (by rw [hl]; exact hz) (it_list h hx) fun k x hk H1 e' => ?_
    obtain ⟨q, hq, rfl⟩ := refs_get1 hk
    obtain ⟨b, hb, hqt⟩ := paired_at1 hts hq
    have e1 : ts.getD k d0 = b := by rw [List.getD_eq_getElem?_getD, hb]; rfl
    have hm := List.mem_of_getElem? hb
    rw [e1]
    exact ⟨setAll (wipe σ vs) is b, fun Q q' => gTup_ok (SqT.of (e' _ _ hqt)) (hn b hm) q', hw b (hn b hm), ht b hm H1 e', fun hf => he b hm H1 e' hf⟩
/-! ### loops -/
variable {D : Ends} {tu tz : TS}
/-- over enumerate(a list) -/
theorem s_forE {ta : TA} {i j : Nat} (h : EvA ta σ H [.ref a]) (hx : SqL K H a xs) (Pv : Nat → L2.St → Hp → Prop) (h0 : ∀ H1, Ex H H1 → Pv 0 σ H1) (hG : ∀ k σ' H', k ≤ xs.length → Pv k σ' H' → SqL K H' a xs)
    (hs : ∀ k x σ' H', xs[k]? = some x → Pv k σ' H' → ∀ H2, Ex H' H2 → (∀ b o, H' b = none → H2 b = some o → ∃ l, o = .tup l) → tu { D with nx := Pv (k + 1), ct := Pv (k + 1), bk := D.nx } ((σ'.set i (some (nv k))).set j (some x)) H2) (hd : ∀ σ' H', Pv xs.length σ' H' → D.nx σ' H') :
    tFor (iEnum K ta) (gTup K 2 (gCons (gName i) (gCons (gName j) gNil))) tu D σ H :=
  h H (Ex.refl H) _ fun H1 e => ⟨a, xs, rfl, ex_l e hx, for_it walk_enum Pv (h0 H1 e) hG (fun k x σ' H2 H3 hk p hy => by
    obtain ⟨T, y1, y2, rfl, hT, rfl, h1, h2⟩ := hy
    obtain rfl : V.int (k : Int) = y1 := Option.some.inj h1
    refine ⟨T, [nv k, y2], rfl, SqT.of upd_same, rfl, nv k, [y2], rfl, y2, [], rfl, rfl, ?_⟩
    refine hs k y2 σ' H2 h2 p _ (Ex.new hT) fun b o hb ho => ?_
    by_cases c : b = T
    · subst c
      rw [upd_same] at ho
      exact ⟨_, (Option.some.inj ho).symm⟩
    · rw [upd_ne c, hb] at ho
      cases ho) hd⟩
theorem q_forE {ta : TA} {i j : Nat} (h : EvA ta σ H [.ref a]) (hx : SqL K H a xs) (Pv : Nat → L2.St → Hp → Prop) (h0 : ∀ H1, Ex H H1 → Pv 0 σ H1) (hG : ∀ k σ' H', k ≤ xs.length → Pv k σ' H' → SqL K H' a xs)
    (hs : ∀ k x σ' H', xs[k]? = some x → Pv k σ' H' → ∀ H2, Ex H' H2 → (∀ b o, H' b = none → H2 b = some o → ∃ l, o = .tup l) → tu { D with nx := Pv (k + 1), ct := Pv (k + 1), bk := tz D } ((σ'.set i (some (nv k))).set j (some x)) H2) (hd : ∀ σ' H', Pv xs.length σ' H' → tz D σ' H') :
    tSeq (tFor (iEnum K ta) (gTup K 2 (gCons (gName i) (gCons (gName j) gNil))) tu) tz D σ H := s_forE (D := { D with nx := tz D }) h hx Pv h0 hG hs hd
/-- over m - 1, m - 2, .., 0 -/
theorem s_forDown {ta : TA} {j m : Nat} (h : EvA ta σ H [.int ((m : Int) - 1), .int (-1), .int (-1)]) (hm : m ≤ 100000) (Pv : Nat → L2.St → Hp → Prop) (h0 : ∀ H1, Ex H H1 → Pv 0 σ H1)
    (hs : ∀ k σ' H', k < m → Pv k σ' H' → tu { D with nx := Pv (k + 1), ct := Pv (k + 1), bk := D.nx } (σ'.set j (some (nv (m - 1 - k)))) H') (hd : ∀ σ' H', Pv m σ' H' → D.nx σ' H') :
    tFor (iRng3 ta) (gName j) tu D σ H :=
  h H (Ex.refl H) _ fun H1 e => by
    have hr : RgC ((m : Int) - 1) (-1) (-1) m := by
      have := RgC.neg (i := (m : Int) - 1) (j := -1) (by omega) (by omega) (by omega) (by omega)
      have e1 : ((m : Int) - 1 - -1).toNat = m := by omega
      rwa [e1] at this
    refine ⟨_, _, _, m, rfl, hr, for_rangeC Pv (h0 H1 e) (fun k σ' H' hk p => ?_) hd⟩
    have e2 : (m : Int) - 1 + (k : Int) * -1 = ((m - 1 - k : Nat) : Int) := by omega
    rw [e2]
    exact hs k σ' H' hk p
theorem q_forDown {ta : TA} {j m : Nat} (h : EvA ta σ H [.int ((m : Int) - 1), .int (-1), .int (-1)]) (hm : m ≤ 100000) (Pv : Nat → L2.St → Hp → Prop) (h0 : ∀ H1, Ex H H1 → Pv 0 σ H1)
    (hs : ∀ k σ' H', k < m → Pv k σ' H' → tu { D with nx := Pv (k + 1), ct := Pv (k + 1), bk := tz D } (σ'.set j (some (nv (m - 1 - k)))) H') (hd : ∀ σ' H', Pv m σ' H' → tz D σ' H') :
    tSeq (tFor (iRng3 ta) (gName j) tu) tz D σ H := s_forDown (D := { D with nx := tz D }) h hm Pv h0 hs hd
/-- list + list -/
theorem el_cat {xs ys : List V} (ha : EvL ta σ H xs) (hb : EvL tb σ H ys) (hz : xs.length + ys.length ≤ 100000) : EvL (tOp rCat ta tb) σ H (xs ++ ys) := fun H1 e Q q =>
  ha H1 e _ fun p H2 hp e2 h2 => hb H2 (e.trans e2) _ fun r H3 hr e3 h3 => ⟨p, r, xs, ys, rfl, rfl, e3 _ _ h2, h3, sz_of hz, fun l hl => q l _ (fresh_back e2 (fresh_back e3 hl)) ((e2.trans e3).trans (Ex.new hl)) upd_same⟩
/-- a list that stands + a new list -/
theorem el_cat1 {p : Addr} {xs ys : List V} (ha : Ev ta σ H (.ref p)) (hp : H p = some (.lst xs)) (hb : EvL tb σ H ys) (hz : xs.length + ys.length ≤ 100000) : EvL (tOp rCat ta tb) σ H (xs ++ ys) := fun H1 e Q q =>
  ha H1 e _ fun H2 e2 => hb H2 (e.trans e2) _ fun r H3 hr e3 h3 => ⟨p, r, xs, ys, rfl, rfl, e3 _ _ (e2 _ _ (e _ _ hp)), h3, sz_of hz, fun l hl => q l _ (fresh_back e2 (fresh_back e3 hl)) ((e2.trans e3).trans (Ex.new hl)) upd_same⟩
theorem el_cat2 {p r : Addr} {xs ys : List V} (ha : Ev ta σ H (.ref p)) (hp : H p = some (.lst xs)) (hb : Ev tb σ H (.ref r)) (hr : H r = some (.lst ys)) (hz : xs.length + ys.length ≤ 100000) : EvL (tOp rCat ta tb) σ H (xs ++ ys) := fun H1 e Q q =>
  ha H1 e _ fun H2 e2 => hb H2 (e.trans e2) _ fun H3 e3 => ⟨p, r, xs, ys, rfl, rfl, e3 _ _ (e2 _ _ (e _ _ hp)), e3 _ _ (e2 _ _ (e _ _ hr)), sz_of hz, fun l hl => q l _ (fresh_back e2 (fresh_back e3 hl)) ((e2.trans e3).trans (Ex.new hl)) upd_same⟩
theorem el_catR {r : Addr} {xs ys : List V} (ha : EvL ta σ H xs) (hb : Ev tb σ H (.ref r)) (hr : H r = some (.lst ys)) (hz : xs.length + ys.length ≤ 100000) : EvL (tOp rCat ta tb) σ H (xs ++ ys) := fun H1 e Q q =>
  ha H1 e _ fun p H2 hp e2 h2 => hb H2 (e.trans e2) _ fun H3 e3 => ⟨p, r, xs, ys, rfl, rfl, e3 _ _ h2, e3 _ _ (e2 _ _ (e _ _ hr)), sz_of hz, fun l hl => q l _ (fresh_back e2 (fresh_back e3 hl)) ((e2.trans e3).trans (Ex.new hl)) upd_same⟩
/-- [v] * n -/
theorem el_rep {v : V} {n : Nat} (ha : EvL ta σ H [v]) (hb : Ev tb σ H (nv n)) (hz : n ≤ 100000) : EvL (tOp rRep ta tb) σ H (List.replicate n v) := fun H1 e Q q =>
  ha H1 e _ fun p H2 hp e2 h2 => hb H2 (e.trans e2) _ fun H3 e3 => ⟨p, (n : Int), [v], rfl, rfl, e3 _ _ h2, by omega, by omega, by simp only [List.length_singleton, Int.toNat_natCast, Nat.one_mul]; exact sz_of hz, fun l hl => q l _ (fresh_back e2 (fresh_back e3 hl)) ((e2.trans e3).trans (Ex.new hl)) (by
    rw [upd_same]
    congr 2
    have : ∀ k : Nat, (List.replicate k [v]).flatten = List.replicate k v := by
      intro k
      induction k with
      | zero => rfl
      | succ k ih => rw [List.replicate_succ, List.flatten_cons, ih, List.replicate_succ]; rfl
    simpa using this n)⟩
/-- any, all, sum over a new list -/
theorem ev_any {bs : List Bool} (ha : EvL ta σ H (bs.map V.bl)) : Ev (tCB (rAny K) (tCons ta tNil)) σ H (.bl (bs.any id)) := fun H1 e Q q => ha H1 e _ fun p H2 _ e2 h2 => ⟨p, bs, rfl, sq_of h2, q H2 e2⟩
theorem ev_all {bs : List Bool} (ha : EvL ta σ H (bs.map V.bl)) : Ev (tCB (rAll K) (tCons ta tNil)) σ H (.bl (bs.all id)) := fun H1 e Q q => ha H1 e _ fun p H2 _ e2 h2 => ⟨p, bs, rfl, sq_of h2, q H2 e2⟩
theorem ev_sum {ns : List Int} (ha : EvL ta σ H (ns.map V.int)) : Ev (tCB (rSum K) (tCons ta tNil)) σ H (.int ns.sum) := fun H1 e Q q => ha H1 e _ fun p H2 _ e2 h2 => ⟨p, ns, rfl, sq_of h2, q H2 e2⟩
end
end Sc
end

section
set_option Elab.async false
set_option linter.all false
set_option maxRecDepth 100000
set_option maxHeartbeats 4000000
namespace Sc
open PySem PySem.Spec PyProof.Rows L2 Evl
open TimStorm (Office Way Wood Table Beetle)
/-! ### jobs, days, losses: what each def promises -/
def sp_is_job (K : PySem.W.Frag) : Sp := fun vs H Q _ => ∃ (A : OA) (s : Office) (j : Nat), vs = [.ref A.o, nv j] ∧ OffAt K H A s ∧ Ok s ∧ RetV (.bl (s.isJob j)) H Q
def sp_all_jobs (K : PySem.W.Frag) : Sp := fun vs H Q _ => ∃ (A : OA) (s : Office), vs = [.ref A.o] ∧ OffAt K H A s ∧ Ok s ∧ RetL (nvs s.jobs) H Q
def sp_work_of (K : PySem.W.Frag) : Sp := fun vs H Q _ => ∃ (A : OA) (s : Office) (j : Nat), vs = [.ref A.o, nv j] ∧ OffAt K H A s ∧ Ok s ∧ s.isJob j = true ∧ RetV (nv (s.work j)) H Q
def sp_hours_of (K : PySem.W.Frag) : Sp := fun vs H Q _ => ∃ (A : OA) (s : Office) (l : Addr) (js : List Nat), vs = [.ref A.o, .ref l] ∧ OffAt K H A s ∧ Ok s ∧ SqL K H l (nvs js) ∧ (∀ j ∈ js, s.isJob j = true) ∧ js.length ≤ 100 ∧ RetV (nv (s.spent js)) H Q
def sp_places_of (K : PySem.W.Frag) : Sp := fun vs H Q _ => ∃ (A : OA) (s : Office) (j : Nat), vs = [.ref A.o, nv j] ∧ OffAt K H A s ∧ Ok s ∧ s.isJob j = true ∧ RetU (nvs (placesOf s j)) H Q
def sp_shut_ways (K : PySem.W.Frag) : Sp := fun vs H Q _ => ∃ (A : OA) (s : Office), vs = [.ref A.o] ∧ OffAt K H A s ∧ Ok s ∧ RetL (nvs s.shut) H Q
def sp_day_after (K : PySem.W.Frag) : Sp := fun vs H Q _ => ∃ (A : OA) (s : Office) (hd h : Nat), vs = [.ref A.o, nv hd, nv h] ∧ OffAt K H A s ∧ 0 < hd ∧ hd ≤ 24 ∧ RetV (nv (s.first + (h - 1) / hd)) H Q
def sp_day_now (K : PySem.W.Frag) : Sp := fun vs H Q _ => ∃ (A : OA) (s : Office), vs = [.ref A.o] ∧ OffAt K H A s ∧ Ok s ∧ RetV (nv s.now) H Q
def sp_thousandths (K : PySem.W.Frag) : Sp := fun vs H Q _ => ∃ (A : OA) (s : Office) (k a : Nat), vs = [.ref A.o, nv k, nv a] ∧ OffAt K H A s ∧ Ok s ∧ RetV (nv (s.share k a)) H Q
/-- what a job loses that ends on a day -/
def lossAt (s : Office) (j day : Nat) : Nat := if j < 32 then 0 else match s.woods[j - 32]? with
  | some w => w.cents * s.share w.kind (day - w.day)
  | none => 0
theorem loses_eq (s : Office) (j h : Nat) : s.loses j h = lossAt s j (s.dayOf h) := rfl
def sp_loss_of (K : PySem.W.Frag) : Sp := fun vs H Q _ => ∃ (A : OA) (s : Office) (j d : Nat), vs = [.ref A.o, nv j, nv d] ∧ OffAt K H A s ∧ Ok s ∧ s.isJob j = true ∧ RetV (nv (lossAt s j d)) H Q
def sp_lost_so_far (K : PySem.W.Frag) : Sp := fun vs H Q _ => ∃ (A : OA) (s : Office), vs = [.ref A.o] ∧ OffAt K H A s ∧ Ok s ∧ RetV (nv s.lost) H Q
theorem sc_is_job : FnScope ["office", "job"] ["office", "job"] (defScope s_is_job) := C8.fnScope_by (by decide +kernel)
def t_is_job (K : PySem.W.Frag) : TS :=
  (tSeq (tIfS (tTest (tOp rLt (tVar 1) (tC (.int (32))))) (tRet (tAndV (tOp rLt (tVar 1) (tCB (rLenS K) (tCons (tFld K (tVar 0) "ways") tNil))) (tOp rGtI (tFld K (tOp (rIxL K) (tFld K (tVar 0) "ways") (tVar 1)) "work") (tC (.int 0))))) tNext)
    (tRet (tOp rLt (tOp rSubI (tVar 1) (tC (.int (32)))) (tCB (rLenS K) (tCons (tFld K (tVar 0) "woods") tNil)))))
theorem sc_all_jobs : FnScope ["office", "ways", "number", "way"] ["office"] (defScope s_all_jobs) := C8.fnScope_by (by decide +kernel)
def t_all_jobs (K : PySem.W.Frag) : TS :=
  (tSeq (tAsg (tLc (iEnum K (tCons (tFld K (tVar 0) "ways") tNil)) (gTup K 2 (gCons (gName 2) (gCons (gName 3) gNil))) (tTest (tOp rGtI (tFld K (tVar 3) "work") (tC (.int 0)))) (tVar 2) [2, 3]) (gName 1))
    (tRet (tOp rCat (tVar 1) (tLc (iRng1 (tCons (tCB (rLenS K) (tCons (tFld K (tVar 0) "woods") tNil)) tNil)) (gName 2) tYes (tOp rAddI (tC (.int (32))) (tVar 2)) [2]))))
theorem sc_work_of : FnScope ["office", "job"] ["office", "job"] (defScope s_work_of) := C8.fnScope_by (by decide +kernel)
def t_work_of (K : PySem.W.Frag) : TS :=
  (tSeq (tIfS (tTest (tOp rLt (tVar 1) (tC (.int (32))))) (tRet (tFld K (tOp (rIxL K) (tFld K (tVar 0) "ways") (tVar 1)) "work")) tNext)
    (tRet (tFld K (tOp (rIxL K) (tFld K (tVar 0) "woods") (tOp rSubI (tVar 1) (tC (.int (32))))) "work")))
theorem sc_hours_of : FnScope ["office", "jobs", "job"] ["office", "jobs"] (defScope s_hours_of) := C8.fnScope_by (by decide +kernel)
def t_hours_of (K : PySem.W.Frag) : TS :=
  (tRet (tCB (rSum K) (tCons (tLc (iList K (tVar 1)) (gName 2) tYes (tCall (sp_work_of K) [] C8.E0 (tCons (tVar 0) (tCons (tVar 2) tNil))) [2]) tNil)))
theorem sc_places_of : FnScope ["office", "job"] ["office", "job"] (defScope s_places_of) := C8.fnScope_by (by decide +kernel)
def t_places_of (K : PySem.W.Frag) : TS :=
  (tSeq (tIfS (tTest (tOp rLt (tVar 1) (tC (.int (32))))) (tRet (tTup (tCons (tFld K (tOp (rIxL K) (tFld K (tVar 0) "ways") (tVar 1)) "a") (tCons (tFld K (tOp (rIxL K) (tFld K (tVar 0) "ways") (tVar 1)) "b") tNil)))) tNext)
    (tRet (tTup (tCons (tFld K (tOp (rIxL K) (tFld K (tVar 0) "woods") (tOp rSubI (tVar 1) (tC (.int (32))))) "place") tNil))))
theorem sc_shut_ways : FnScope ["office", "number", "way"] ["office"] (defScope s_shut_ways) := C8.fnScope_by (by decide +kernel)
def t_shut_ways (K : PySem.W.Frag) : TS :=
  (tRet (tLc (iEnum K (tCons (tFld K (tVar 0) "ways") tNil)) (gTup K 2 (gCons (gName 1) (gCons (gName 2) gNil))) (tAnd (tTest (tOp rGtI (tFld K (tVar 2) "work") (tC (.int 0)))) (tTest (tOp (rIn K true) (tVar 1) (tFld K (tVar 0) "jobs_done")))) (tVar 1) [1, 2]))
theorem sc_day_after : FnScope ["office", "hours_a_day", "hours"] ["office", "hours_a_day", "hours"] (defScope s_day_after) := C8.fnScope_by (by decide +kernel)
def t_day_after (K : PySem.W.Frag) : TS :=
  (tRet (tOp rAddI (tFld K (tVar 0) "first_day") (tOp rDivI (tCB Evl.rMax2 (tCons (tOp rSubI (tVar 2) (tC (.int 1))) (tCons (tC (.int 0)) tNil))) (tVar 1))))
theorem sc_day_now : FnScope ["office"] ["office"] (defScope s_day_now) := C8.fnScope_by (by decide +kernel)
def t_day_now (K : PySem.W.Frag) : TS :=
  (tRet (tCall (sp_day_after K) [] C8.E0 (tCons (tVar 0) (tCons (tFld K (tVar 0) "hours_a_day") (tCons (tCall (sp_hours_of K) [] C8.E0 (tCons (tVar 0) (tCons (tFld K (tVar 0) "jobs_done") tNil))) tNil)))))
theorem sc_thousandths : FnScope ["office", "kind", "age", "step", "row"] ["office", "kind", "age"] (defScope s_thousandths) := C8.fnScope_by (by decide +kernel)
def t_thousandths (K : PySem.W.Frag) : TS :=
  (tSeq (tIfS (tB (tDNotIn (tVar 1) (tFld K (tVar 0) "tables"))) (tRet (tC (.int 0))) tNext)
    (tSeq (tAsg (tDGet (tFld K (tVar 0) "tables") (tVar 1)) (gTup K 2 (gCons (gName 3) (gCons (gName 4) gNil))))
    (tSeq (tIfS (tTest (tOp rEq (tCB (rLenS K) (tCons (tVar 4) tNil)) (tC (.int 0)))) (tRet (tC (.int 0))) tNext)
    (tRet (tOp (rIxT K) (tVar 4) (tCB rMin2 (tCons (tOp rDivI (tVar 2) (tVar 3)) (tCons (tOp rSubI (tCB (rLenS K) (tCons (tVar 4) tNil)) (tC (.int 1))) tNil))))))))
theorem sc_loss_of : FnScope ["office", "job", "day", "wood"] ["office", "job", "day"] (defScope s_loss_of) := C8.fnScope_by (by decide +kernel)
def t_loss_of (K : PySem.W.Frag) : TS :=
  (tSeq (tIfS (tTest (tOp rLt (tVar 1) (tC (.int (32))))) (tRet (tC (.int 0))) tNext)
    (tSeq (tAsg (tOp (rIxL K) (tFld K (tVar 0) "woods") (tOp rSubI (tVar 1) (tC (.int (32))))) (gName 3))
    (tRet (tOp rMulI (tFld K (tVar 3) "cents") (tCall (sp_thousandths K) [] C8.E0 (tCons (tVar 0) (tCons (tFld K (tVar 3) "kind") (tCons (tCB Evl.rMax2 (tCons (tOp rSubI (tVar 2) (tFld K (tVar 3) "day")) (tCons (tC (.int 0)) tNil))) tNil))))))))
theorem sc_lost_so_far : FnScope ["office", "hours", "lost", "job"] ["office"] (defScope s_lost_so_far) := C8.fnScope_by (by decide +kernel)
def t_lost_so_far (K : PySem.W.Frag) : TS :=
  (tSeq (tAsg (tC (.int 0)) (gName 1))
    (tSeq (tAsg (tC (.int 0)) (gName 2))
    (tSeq (tFor (iList K (tFld K (tVar 0) "jobs_done")) (gName 3) (tSeq (tAug 1 (tCall (sp_work_of K) [] C8.E0 (tCons (tVar 0) (tCons (tVar 3) tNil))) (ipI fun i j => i + j))
    (tAug 2 (tCall (sp_loss_of K) [] C8.E0 (tCons (tVar 0) (tCons (tVar 3) (tCons (tCall (sp_day_after K) [] C8.E0 (tCons (tVar 0) (tCons (tFld K (tVar 0) "hours_a_day") (tCons (tVar 1) tNil)))) tNil)))) (ipI fun i j => i + j))))
    (tRet (tVar 2)))))
section
variable {K : PySem.W.Frag} {mg : Str → Option Value}
theorem p_is_job (T : Top K mg) (vs : List V) (H : Hp) (Q : VK) (E : XK) (h : sp_is_job K vs H Q E) : t_is_job K { nx := fun _ H' => Q .non H', rt := Q } (start ["office", "job"] vs) H := by
  obtain ⟨A, s, j, rfl, hO, ok, q⟩ := h
  rw [isJob_eq ok] at q
  refine q_when (b := decide (j < 32)) (et_test (ev_lt (ev_var rfl) (ev_nat 32 rfl))) (fun hb H1 e1 => ?_) (fun hb H1 e1 => ?_)
  · rw [if_pos (of_decide_eq_true hb)] at q
    have hO1 := hO.mono e1
    refine s_ret (ev_is (ev_andV (b := (s.ways[j]?).any fun w => decide (0 < w.work)) (ev_lt (ev_var rfl) (ev_nways T hO1 (ev_var rfl))) fun hlt => ?_) ?_) fun H2 e2 => q H2 (e1.trans e2)
    · have hw := List.getElem?_eq_getElem (of_decide_eq_true hlt)
      obtain ⟨p, h1, h2⟩ := ev_wayIx T hO1 hw
      rw [hw]
      exact ev_gt (ev_w_work T h1 (h2 (ev_var rfl) (ev_var rfl))) (ev_nat 0 rfl)
    · by_cases c : j < s.ways.length
      · rw [decide_eq_true c]; rfl
      · rw [decide_eq_false c, List.getElem?_eq_none_iff.mpr (by omega)]; rfl
  · rw [if_neg (of_decide_eq_false hb)] at q
    have hO1 := hO.mono e1
    have := of_decide_eq_false hb
    exact s_ret (ev_lt (ev_sub (by omega) (ev_var rfl) (ev_nat 32 rfl)) (ev_nwoods T hO1 (ev_var rfl))) fun H2 e2 => q H2 (e1.trans e2)
theorem p_work_of (T : Top K mg) (vs : List V) (H : Hp) (Q : VK) (E : XK) (h : sp_work_of K vs H Q E) : t_work_of K { nx := fun _ H' => Q .non H', rt := Q } (start ["office", "job"] vs) H := by
  obtain ⟨A, s, j, rfl, hO, ok, hj, q⟩ := h
  refine q_when (b := decide (j < 32)) (et_test (ev_lt (ev_var rfl) (ev_nat 32 rfl))) (fun hb H1 e1 => ?_) (fun hb H1 e1 => ?_)
  · have c := of_decide_eq_true hb
    have hO1 := hO.mono e1
    obtain ⟨w, hw, _⟩ := job_way ok c hj
    obtain ⟨p, h1, h2⟩ := ev_wayIx T hO1 hw
    rw [work_way c, hw] at q
    exact s_ret (ev_w_work T h1 (h2 (ev_var rfl) (ev_var rfl))) fun H2 e2 => q H2 (e1.trans e2)
  · have c := of_decide_eq_false hb
    have hO1 := hO.mono e1
    obtain ⟨w, hw⟩ := job_wood ok c hj
    obtain ⟨p, h1, h2⟩ := ev_woodIx T hO1 hw
    rw [work_wood c, hw] at q
    exact s_ret (ev_d_work T h1 (h2 (ev_var rfl) (ev_sub (by omega) (ev_var rfl) (ev_nat 32 rfl)))) fun H2 e2 => q H2 (e1.trans e2)
theorem v_work_of {H : Hp} {A : OA} {s : Office} {j : Nat} (hO : OffAt K H A s) (ok : Ok s) (hj : s.isJob j = true) : SpV (sp_work_of K) [.ref A.o, nv j] H (nv (s.work j)) := fun H1 e Q q E => ⟨A, s, j, rfl, hO.mono e, ok, hj, q⟩
theorem sum_nat : ∀ (l : List Nat), (l.map fun (n : Nat) => (n : Int)).sum = ((TimStorm.total l : Nat) : Int)
  | [] => rfl
  | a :: l => by
    rw [List.map_cons, List.sum_cons, sum_nat l]
    show (a : Int) + _ = ((a + TimStorm.total l : Nat) : Int)
    omega
theorem p_hours_of (T : Top K mg) (vs : List V) (H : Hp) (Q : VK) (E : XK) (h : sp_hours_of K vs H Q E) : t_hours_of K { nx := fun _ H' => Q .non H', rt := Q } (start ["office", "jobs", "job"] vs) H := by
  obtain ⟨A, s, l, js, rfl, hO, ok, hl, hjs, hz, q⟩ := h
  refine s_ret (ev_is (ev_sum (ns := js.map fun j => ((s.work j : Nat) : Int)) (by
    rw [List.map_map]
    exact el_lcA js (fun j => nv (s.work j)) nv (ev_var rfl) hl (by omega) (fun _ => rfl) fun j hj H1 e => ev_call (ea_cons (ev_var rfl) (ea_cons (ev_var rfl) ea_nil)) (v_work_of (hO.mono e) ok (hjs j hj)))) ?_) fun H1 e => q H1 e
  have := sum_nat (js.map s.work)
  rw [List.map_map] at this
  exact congrArg V.int this
theorem v_hours_of {H : Hp} {A : OA} {s : Office} {l : Addr} {js : List Nat} (hO : OffAt K H A s) (ok : Ok s) (hl : SqL K H l (nvs js)) (hj : ∀ j ∈ js, s.isJob j = true) (hz : js.length ≤ 100) : SpV (sp_hours_of K) [.ref A.o, .ref l] H (nv (s.spent js)) :=
  fun H1 e Q q E => ⟨A, s, l, js, rfl, hO.mono e, ok, ex_l e hl, hj, hz, q⟩
theorem p_day_after (T : Top K mg) (vs : List V) (H : Hp) (Q : VK) (E : XK) (h : sp_day_after K vs H Q E) : t_day_after K { nx := fun _ H' => Q .non H', rt := Q } (start ["office", "hours_a_day", "hours"] vs) H := by
  obtain ⟨A, s, hd, h, rfl, hO, h0, h24, q⟩ := h
  exact s_ret (ev_add (ev_first_day T hO (ev_var rfl)) (ev_div h0 (by omega) (ev_sub0 (ev_var rfl) (ev_nat 1 rfl)) (ev_var rfl))) q
theorem v_day_after {H : Hp} {A : OA} {s : Office} {hd h : Nat} (hO : OffAt K H A s) (h0 : 0 < hd) (h1 : hd ≤ 24) : SpV (sp_day_after K) [.ref A.o, nv hd, nv h] H (nv (s.first + (h - 1) / hd)) := fun H1 e Q q E => ⟨A, s, hd, h, rfl, hO.mono e, h0, h1, q⟩
theorem p_day_now (T : Top K mg) (vs : List V) (H : Hp) (Q : VK) (E : XK) (h : sp_day_now K vs H Q E) : t_day_now K { nx := fun _ H' => Q .non H', rt := Q } (start ["office"] vs) H := by
  obtain ⟨A, s, rfl, hO, ok, q⟩ := h
  have hs : s.spent s.done.reverse = s.spent s.done := spent_reverse s s.done
  refine s_ret (ev_call (ea_cons (ev_var rfl) (ea_cons (ev_hours_a_day T hO (ev_var rfl)) (ea_cons (ev_call (ea_cons (ev_var rfl) (ea_cons (ev_jobs_done T hO (ev_var rfl)) ea_nil))
    (v_hours_of hO ok (sq_of hO.done) (fun j hj => ok.dj j (List.mem_reverse.mp hj)) (by have := done_len ok; rw [List.length_reverse]; omega))) ea_nil))) (v_day_after hO ok.h1 ok.h24)) fun H1 e => ?_
  rw [hs]
  exact q H1 e
theorem p_places_of (T : Top K mg) (vs : List V) (H : Hp) (Q : VK) (E : XK) (h : sp_places_of K vs H Q E) : t_places_of K { nx := fun _ H' => Q .non H', rt := Q } (start ["office", "job"] vs) H := by
  obtain ⟨A, s, j, rfl, hO, ok, hj, q⟩ := h
  refine q_when (b := decide (j < 32)) (et_test (ev_lt (ev_var rfl) (ev_nat 32 rfl))) (fun hb H1 e1 => ?_) (fun hb H1 e1 => ?_)
  · have c := of_decide_eq_true hb
    have hO1 := hO.mono e1
    obtain ⟨w, hw, _⟩ := job_way ok c hj
    obtain ⟨p, h1, h2⟩ := ev_wayIx T hO1 hw
    unfold placesOf at q
    rw [if_pos c, hw] at q
    exact s_retU (eu_tup (ea_cons (ev_w_a T h1 (h2 (ev_var rfl) (ev_var rfl))) (ea_cons (ev_w_b T h1 (h2 (ev_var rfl) (ev_var rfl))) ea_nil)) (by show 2 ≤ 100000; omega)) fun p H2 hp e2 h => q p H2 (fresh_back e1 hp) (e1.trans e2) h
  · have c := of_decide_eq_false hb
    have hO1 := hO.mono e1
    obtain ⟨w, hw⟩ := job_wood ok c hj
    obtain ⟨p, h1, h2⟩ := ev_woodIx T hO1 hw
    unfold placesOf at q
    rw [if_neg c, hw] at q
    exact s_retU (eu_tup (ea_cons (ev_d_place T h1 (h2 (ev_var rfl) (ev_sub (by omega) (ev_var rfl) (ev_nat 32 rfl)))) ea_nil) (by show 1 ≤ 100000; omega)) fun p H2 hp e2 h => q p H2 (fresh_back e1 hp) (e1.trans e2) h
end
end Sc
end

section
set_option Elab.async false
set_option linter.all false
set_option maxRecDepth 100000
set_option maxHeartbeats 4000000
namespace Sc
open PySem PySem.Spec PyProof.Rows L2 Evl
section
variable {K : PySem.W.Frag} {σ : L2.St} {H H' : Hp} {ta tb tc te tl : TE} {t u : TT} {g : TG} {vs : List Nat} {a p : Addr} {xs ws : List V} {D : Ends} {tu tz : TS} {v x y : V}
/-! ### dicts with whole numbers for keys -/
theorem et_dnotIn {kvs : List (Key × V)} {k : Nat} (ha : Ev ta σ H (nv k)) (hb : Ev tb σ H (.ref p)) (hp : H p = some (.dK kvs)) : EvT (tB (tDNotIn ta tb)) σ H (!(valV kvs (.inl (k : Int))).isSome) := fun H1 e Q q =>
  ha H1 e _ fun H2 e2 => hb H2 (e.trans e2) _ fun H3 e3 => ⟨p, _, rfl, DGet.k (k := .inl (k : Int)) (e3 _ _ (e2 _ _ (e _ _ hp))), _, rfl, q H3 (e2.trans e3)⟩
theorem ev_din {kvs : List (Key × V)} {k : Nat} (ha : Ev ta σ H (nv k)) (hb : Ev tb σ H (.ref p)) (hp : H p = some (.dK kvs)) : Ev (tDIn ta tb) σ H (.bl (valV kvs (.inl (k : Int))).isSome) := fun H1 e Q q =>
  ha H1 e _ fun H2 e2 => hb H2 (e.trans e2) _ fun H3 e3 => ⟨p, _, rfl, DGet.k (k := .inl (k : Int)) (e3 _ _ (e2 _ _ (e _ _ hp))), q H3 (e2.trans e3)⟩
theorem ev_dget {kvs : List (Key × V)} {k : Nat} (ha : Ev ta σ H (.ref p)) (hb : Ev tb σ H (nv k)) (hp : H p = some (.dK kvs)) (hv : valV kvs (.inl (k : Int)) = some v) : Ev (tDGet ta tb) σ H v := fun H1 e Q q =>
  ha H1 e _ fun H2 e2 => hb H2 (e.trans e2) _ fun H3 e3 => ⟨p, v, rfl, (hv ▸ DGet.k (k := .inl (k : Int)) (e3 _ _ (e2 _ _ (e _ _ hp)))), q H3 (e2.trans e3)⟩
/-- d.get(k, z), k there or not -/
theorem ev_dget2 {kvs : List (Key × V)} {k : Nat} (ha : Ev ta σ H (.ref p)) (hb : Ev tb σ H (nv k)) (hc : Ev tc σ H x) (hp : H p = some (.dK kvs)) : Ev (tDGet2 ta tb tc) σ H ((valV kvs (.inl (k : Int))).getD x) := fun H1 e Q q =>
  ha H1 e _ fun H2 e2 => ⟨p, rfl, .inl ⟨kvs, .inl (e2 _ _ (e _ _ hp))⟩, hb H2 (e.trans e2) _ fun H3 e3 => hc H3 ((e.trans e2).trans e3) _ fun H4 e4 =>
    ⟨_, DGet.k (k := .inl (k : Int)) (e4 _ _ (e3 _ _ (e2 _ _ (e _ _ hp)))), q H4 ((e2.trans e3).trans e4)⟩⟩
/-! ### tuples -/
theorem q_asgT {is : List Nat} (h : Ev te σ H (.ref p)) (hp : SqT K H p ws) (hl : ws.length = is.length) (k : ∀ H1, Ex H H1 → tz D (setAll σ is ws) H1) : tSeq (tAsg te (gTup K is.length (gNames is))) tz D σ H :=
  h H (Ex.refl H) _ fun H1 e => gTup_ok (ex_t e hp) hl (k H1 e)
/-- names = a new tuple -/
theorem q_asgNT {is : List Nat} (h : EvU te σ H ws) (hl : ws.length = is.length) (k : ∀ H1, Ex H H1 → tz D (setAll σ is ws) H1) : tSeq (tAsg te (gTup K is.length (gNames is))) tz D σ H :=
  h H (Ex.refl H) _ fun p H1 _ e hp => gTup_ok (SqT.of hp) hl (k H1 e)
theorem ev_lenT (ha : Ev ta σ H (.ref p)) (h : SqT K H p xs) : Ev (tCB (rLenS K) (tCons ta tNil)) σ H (nv xs.length) := fun H1 e Q q => ha H1 e _ fun H2 e2 => ⟨p, xs, rfl, .inr (ex_t (e.trans e2) h), q H2 e2⟩
theorem ev_lenL (ha : Ev ta σ H (.ref p)) (h : SqL K H p xs) : Ev (tCB (rLenS K) (tCons ta tNil)) σ H (nv xs.length) := ev_len ha h
theorem ev_min2 {i j : Nat} (ha : Ev ta σ H (nv i)) (hb : Ev tb σ H (nv j)) : Ev (tCB rMin2 (tCons ta (tCons tb tNil))) σ H (nv (min i j)) := fun H1 e Q q =>
  ha H1 e _ fun H2 e2 => hb H2 (e.trans e2) _ fun H3 e3 => ⟨i, j, rfl, by
    have h := q H3 (e2.trans e3)
    have e : (if (j : Int) < (i : Int) then (j : Int) else (i : Int)) = ((min i j : Nat) : Int) := by split <;> omega
    rw [e]
    exact h⟩
/-- i > j - 1: the last place -/
theorem ev_addI {i j : Int} (ha : Ev ta σ H (.int i)) (hb : Ev tb σ H (.int j)) : Ev (tOp rAddI ta tb) σ H (.int (i + j)) := ev_op ha hb rv_I0
theorem ev_subI {i j : Int} (ha : Ev ta σ H (.int i)) (hb : Ev tb σ H (.int j)) : Ev (tOp rSubI ta tb) σ H (.int (i - j)) := ev_op ha hb rv_I0
theorem ev_ltI {i j : Int} (ha : Ev ta σ H (.int i)) (hb : Ev tb σ H (.int j)) : Ev (tOp rLt ta tb) σ H (.bl (decide (i < j))) := ev_op ha hb rv_I0
theorem ev_gtI {i j : Int} (ha : Ev ta σ H (.int i)) (hb : Ev tb σ H (.int j)) : Ev (tOp rGtI ta tb) σ H (.bl (decide (j < i))) := ev_op ha hb rv_I0
theorem ev_leI {i j : Int} (ha : Ev ta σ H (.int i)) (hb : Ev tb σ H (.int j)) : Ev (tOp rLe ta tb) σ H (.bl (decide (i ≤ j))) := ev_op ha hb rv_I0
theorem ev_isN (ha : Ev ta σ H x) : Ev (tOp rIsN ta (tC .non)) σ H (.bl (decide (x = .non))) := ev_op ha ev_c fun H1 _ _ q => ⟨rfl, q H1 (Ex.refl H1)⟩
theorem ev_notN (ha : Ev ta σ H x) : Ev (tOp rNotN ta (tC .non)) σ H (.bl (!decide (x = .non))) := ev_op ha ev_c fun H1 _ _ q => ⟨rfl, q H1 (Ex.refl H1)⟩
theorem q_augN {i b c : Nat} (hx : σ[i]? = some (some (nv b))) (h : Ev te σ H (nv c)) (k : ∀ H1, Ex H H1 → tz D (σ.set i (some (nv (b + c)))) H1) : tSeq (tAug i te (ipI fun i j => i + j)) tz D σ H :=
  q_aug (f := fun i j => i + j) hx h fun H1 e => by
    have := k H1 e
    rw [nv, Int.natCast_add] at this
    exact this
theorem s_augN {i b c : Nat} (hx : σ[i]? = some (some (nv b))) (h : Ev te σ H (nv c)) (k : ∀ H1, Ex H H1 → D.nx (σ.set i (some (nv (b + c)))) H1) : tAug i te (ipI fun i j => i + j) D σ H :=
  s_aug (f := fun i j => i + j) hx h fun H1 e => by
    have := k H1 e
    rw [nv, Int.natCast_add] at this
    exact this
theorem et_val {b : Bool} (h : Ev te σ H (.bl b)) : EvT (tB te) σ H b := et_B h
/-- a call, then a new tuple is given out, .. -/
theorem ev_ref (h : EvL te σ H xs) (k : ∀ p H1, H p = none → Ex H H1 → H1 p = some (.lst xs) → tz D (σ.set 0 (some (.ref p))) H1) : True := trivial
end
end Sc
end

section
set_option Elab.async false
set_option linter.all false
set_option maxRecDepth 100000
set_option maxHeartbeats 4000000
namespace Sc
open PySem PySem.Spec PyProof.Rows L2 Evl
open TimStorm (Office Way Wood Table Beetle)
section
variable {K : PySem.W.Frag} {mg : Str → Option Value}
theorem pick_nat {β : Type} (l : List β) (p : Nat → β → Bool) : pick l p (fun k _ => nv k) = nvs (places l p) := by
  unfold pick nvs places
  rw [List.map_map]
  rfl
theorem p_all_jobs (T : Top K mg) (vs : List V) (H : Hp) (Q : VK) (E : XK) (h : sp_all_jobs K vs H Q E) : t_all_jobs K { nx := fun _ H' => Q .non H', rt := Q } (start ["office", "ways", "number", "way"] vs) H := by
  obtain ⟨A, s, rfl, hO, ok, q⟩ := h
  obtain ⟨ps, h1, h2⟩ := hO.ways
  have hz := ok.wl
  have hz2 := ok.ol
  refine q_asgL (el_lcE s.ways (fun _ w => decide (0 < w.work)) (fun k _ => nv k) (ea_cons (ev_ways T hO (ev_var rfl)) ea_nil) (sq_of h1) (by rw [List.length_map, paired_len h2]) (by omega) (fun _ _ => rfl)
    (fun k x w hx hw H1 e => ?_) (fun k x w hx hw H1 e _ => ev_var rfl)) fun p H1 hp e1 hl => ?_
  · obtain ⟨r, hr, rfl⟩ := refs_get1 hx
    obtain ⟨w', hw', hW⟩ := paired_at1 h2 hr
    rw [hw] at hw'
    obtain rfl := Option.some.inj hw'
    exact et_test (ev_gt (ev_w_work T (hW.mono e) (ev_var rfl)) (ev_nat 0 rfl))
  · have hO1 := hO.mono e1
    rw [pick_nat] at hl
    have hpl : (places s.ways fun _ w => decide (0 < w.work)).length ≤ s.ways.length := by
      unfold places
      rw [List.length_map]
      exact Nat.le_trans (List.length_filter_le _ _) (by simp)
    refine s_retL (el_cat1 (ev_var rfl) hl (el_lcR (fun _ => true) (fun i => nv (32 + i)) (ea_cons (ev_nwoods T hO1 (ev_var rfl)) ea_nil) (by omega) (fun _ => rfl) (fun i H2 e hi => et_yes) (fun i H2 e hi _ => ev_add (ev_nat 32 rfl) (ev_var rfl))) ?_) fun p2 H2 hp2 e2 h => ?_
    · rw [nvs_len, List.length_map]
      have := List.length_filter_le (fun _ : Nat => true) (List.range s.woods.length)
      rw [List.length_range] at this
      omega
    · refine q p2 H2 (fresh_back e1 hp2) (e1.trans e2) ?_
      rw [h, jobs_list ok, nvs_app, List.filter_eq_self.mpr (fun _ _ => rfl)]
      unfold nvs
      rw [List.map_map]
      rfl
theorem v_all_jobs {H : Hp} {A : OA} {s : Office} (hO : OffAt K H A s) (ok : Ok s) : SpL (sp_all_jobs K) [.ref A.o] H (nvs s.jobs) := fun H1 e Q q E => ⟨A, s, rfl, hO.mono e, ok, q⟩
theorem p_shut_ways (T : Top K mg) (vs : List V) (H : Hp) (Q : VK) (E : XK) (h : sp_shut_ways K vs H Q E) : t_shut_ways K { nx := fun _ H' => Q .non H', rt := Q } (start ["office", "number", "way"] vs) H := by
  obtain ⟨A, s, rfl, hO, ok, q⟩ := h
  obtain ⟨ps, h1, h2⟩ := hO.ways
  have hz := ok.wl
  refine s_retL (el_lcE s.ways (fun k w => decide (0 < w.work) && !s.done.contains k) (fun k _ => nv k) (ea_cons (ev_ways T hO (ev_var rfl)) ea_nil) (sq_of h1) (by rw [List.length_map, paired_len h2]) (by omega) (fun _ _ => rfl)
    (fun k x w hx hw H1 e => ?_) (fun k x w hx hw H1 e _ => ev_var rfl)) fun p H1 hp e1 hl => ?_
  · obtain ⟨r, hr, rfl⟩ := refs_get1 hx
    obtain ⟨w', hw', hW⟩ := paired_at1 h2 hr
    rw [hw] at hw'
    obtain rfl := Option.some.inj hw'
    rw [← contains_rev]
    exact et_and (et_test (ev_gt (ev_w_work T (hW.mono e) (ev_var rfl)) (ev_nat 0 rfl))) fun _ => et_test (ev_notIn (ev_var rfl) (ev_jobs_done T (hO.mono e) (ev_var rfl)) (sq_of (hO.mono e).done))
  · rw [pick_nat, ← shut_list] at hl
    exact q p H1 hp e1 hl
theorem v_shut_ways {H : Hp} {A : OA} {s : Office} (hO : OffAt K H A s) (ok : Ok s) : SpL (sp_shut_ways K) [.ref A.o] H (nvs s.shut) := fun H1 e Q q E => ⟨A, s, rfl, hO.mono e, ok, q⟩
theorem p_thousandths (T : Top K mg) (vs : List V) (H : Hp) (Q : VK) (E : XK) (h : sp_thousandths K vs H Q E) : t_thousandths K { nx := fun _ H' => Q .non H', rt := Q } (start ["office", "kind", "age", "step", "row"] vs) H := by
  obtain ⟨A, s, k, a, rfl, hO, ok, q⟩ := h
  obtain ⟨kvs, h1, _, h2⟩ := hO.tables
  have hk := h2 k
  unfold Office.share at q
  refine q_when (et_dnotIn (ev_var rfl) (ev_tables T hO (ev_var rfl)) h1) (fun hb H1 e1 => ?_) (fun hb H1 e1 => ?_)
  · refine s_ret (ev_nat 0 rfl) fun H2 e2 => ?_
    cases ht : s.tableOf k with
    | none =>
      rw [ht] at q
      exact q H2 (e1.trans e2)
    | some t =>
      rw [ht] at hk
      obtain ⟨p, r, h3, _⟩ := hk
      rw [h3] at hb
      cases hb
  · cases ht : s.tableOf k with
    | none =>
      rw [ht] at hk
      rw [show valV kvs _ = none from hk] at hb
      cases hb
    | some t =>
      rw [ht] at hk q
      obtain ⟨p, r, h3, h4, h5⟩ := hk
      have ht' := ok.tb t (List.mem_of_find?_eq_some ht)
      refine q_asgT (is := [3, 4]) (ws := [nv t.step, .ref r]) (ev_dget (ev_tables T (hO.mono e1) (ev_var rfl)) (ev_var rfl) (e1 _ _ h1) h3) (SqT.of (e1 _ _ h4)) rfl fun H2 e2 => ?_
      have h5' := e2 _ _ (e1 _ _ h5)
      refine q_when (et_test (ev_eqN (ev_lenT (ev_var rfl) (SqT.of h5')) (ev_nat 0 rfl))) (fun hb H3 e3 => ?_) (fun hb H3 e3 => ?_)
      · refine s_ret (ev_nat 0 rfl) fun H4 e4 => ?_
        have hn := of_decide_eq_true hb
        rw [nvs_len] at hn
        have q' : Q (nv (t.row.getD (min (a / t.step) (t.row.length - 1)) 0)) H4 := q H4 (((e1.trans e2).trans e3).trans e4)
        rw [show t.row = [] from List.eq_nil_of_length_eq_zero hn] at q'
        exact q'
      · have hn := of_decide_eq_false hb
        rw [nvs_len] at hn
        have h6 := e3 _ _ h5'
        have hlt : min (a / t.step) (t.row.length - 1) < t.row.length := by omega
        refine s_ret (ev_ixT (ev_var rfl) (SqT.of h6) (ev_min2 (ev_div ht'.1 (by omega) (ev_var rfl) (ev_var rfl)) (ev_sub (by rw [nvs_len]; omega) (ev_lenT (ev_var rfl) (SqT.of h6)) (ev_nat 1 rfl))) (by
          rw [nvs_len]
          exact nvs_at (get_of_lt hlt))) fun H4 e4 => q H4 (((e1.trans e2).trans e3).trans e4)
theorem v_thousandths {H : Hp} {A : OA} {s : Office} {k a : Nat} (hO : OffAt K H A s) (ok : Ok s) : SpV (sp_thousandths K) [.ref A.o, nv k, nv a] H (nv (s.share k a)) := fun H1 e Q q E => ⟨A, s, k, a, rfl, hO.mono e, ok, q⟩
theorem p_loss_of (T : Top K mg) (vs : List V) (H : Hp) (Q : VK) (E : XK) (h : sp_loss_of K vs H Q E) : t_loss_of K { nx := fun _ H' => Q .non H', rt := Q } (start ["office", "job", "day", "wood"] vs) H := by
  obtain ⟨A, s, j, d, rfl, hO, ok, hj, q⟩ := h
  unfold lossAt at q
  refine q_when (b := decide (j < 32)) (et_test (ev_lt (ev_var rfl) (ev_nat 32 rfl))) (fun hb H1 e1 => ?_) (fun hb H1 e1 => ?_)
  · rw [if_pos (of_decide_eq_true hb)] at q
    exact s_ret (ev_nat 0 rfl) fun H2 e2 => q H2 (e1.trans e2)
  · have c := of_decide_eq_false hb
    have hO1 := hO.mono e1
    obtain ⟨w, hw⟩ := job_wood ok c hj
    rw [if_neg c, hw] at q
    obtain ⟨p, h1, h2⟩ := ev_woodIx T hO1 hw
    have hw' := ok.wd w (List.mem_of_getElem? hw)
    refine q_asg (h2 (ev_var rfl) (ev_sub (by omega) (ev_var rfl) (ev_nat 32 rfl))) fun H2 e2 => ?_
    have h3 := h1.mono e2
    refine s_ret (ev_mul (by omega) (ev_d_cents T h3 (ev_var rfl)) (ev_call (ea_cons (ev_var rfl) (ea_cons (ev_d_kind T h3 (ev_var rfl)) (ea_cons (ev_sub0 (ev_var rfl) (ev_d_day T h3 (ev_var rfl))) ea_nil))) (v_thousandths (hO1.mono e2) ok))) fun H3 e3 => q H3 ((e1.trans e2).trans e3)
theorem v_loss_of {H : Hp} {A : OA} {s : Office} {j d : Nat} (hO : OffAt K H A s) (ok : Ok s) (hj : s.isJob j = true) : SpV (sp_loss_of K) [.ref A.o, nv j, nv d] H (nv (lossAt s j d)) := fun H1 e Q q E => ⟨A, s, j, d, rfl, hO.mono e, ok, hj, q⟩
theorem p_lost_so_far (T : Top K mg) (vs : List V) (H : Hp) (Q : VK) (E : XK) (h : sp_lost_so_far K vs H Q E) : t_lost_so_far K { nx := fun _ H' => Q .non H', rt := Q } (start ["office", "hours", "lost", "job"] vs) H := by
  obtain ⟨A, s, rfl, hO, ok, q⟩ := h
  refine q_asg (ev_nat 0 rfl) fun H1 e1 => q_asg (ev_nat 0 rfl) fun H2 e2 => ?_
  have e12 := e1.trans e2
  have hO2 := hO.mono e12
  refine q_forLn (ev_jobs_done T hO2 (ev_var rfl)) (sq_of hO2.done) (fun i σ' H' => Ex H2 H' ∧ ∃ v, σ' = [some (.ref A.o), some (nv (s.spent (s.done.reverse.take i))), some (nv (s.lossFrom 0 (s.done.reverse.take i))), v])
    (fun H3 e3 => ⟨e3, none, rfl⟩) (fun i σ' H' hi p => sq_of (p.1 _ _ hO2.done)) ?_ ?_
  · rintro i x σ' H' hx ⟨e3, v, rfl⟩
    obtain ⟨j, hj, rfl⟩ := nvs_of hx
    have hO3 := hO2.mono e3
    have hjob := ok.dj j (List.mem_reverse.mp (List.mem_of_getElem? hj))
    refine q_augN rfl (ev_call (ea_cons (ev_var rfl) (ea_cons (ev_var rfl) ea_nil)) (v_work_of hO3 ok hjob)) fun H4 e4 => ?_
    have hO4 := hO3.mono e4
    refine s_augN rfl (ev_call (ea_cons (ev_var rfl) (ea_cons (ev_var rfl) (ea_cons (ev_call (ea_cons (ev_var rfl) (ea_cons (ev_hours_a_day T hO4 (ev_var rfl)) (ea_cons (ev_var rfl) ea_nil))) (v_day_after hO4 ok.h1 ok.h24)) ea_nil))) (v_loss_of hO4 ok hjob)) fun H5 e5 => ?_
    refine ⟨(e3.trans e4).trans e5, some (nv j), ?_⟩
    have hs : s.spent (s.done.reverse.take i) + s.work j = s.spent (s.done.reverse.take i ++ [j]) := by rw [spent_append]; rfl
    rw [take_snoc hj, lossFrom_snoc, loses_eq, Nat.zero_add, hs]
    rfl
  · rintro σ' H' ⟨e3, v, rfl⟩
    refine s_ret (ev_var rfl) fun H4 e4 => ?_
    rw [nvs_len, List.take_length]
    exact q H4 ((e12.trans e3).trans e4)
theorem v_lost_so_far {H : Hp} {A : OA} {s : Office} (hO : OffAt K H A s) (ok : Ok s) : SpV (sp_lost_so_far K) [.ref A.o] H (nv s.lost) := fun H1 e Q q E => ⟨A, s, rfl, hO.mono e, ok, q⟩
theorem v_day_now {H : Hp} {A : OA} {s : Office} (hO : OffAt K H A s) (ok : Ok s) : SpV (sp_day_now K) [.ref A.o] H (nv s.now) := fun H1 e Q q E => ⟨A, s, rfl, hO.mono e, ok, q⟩
theorem v_is_job {H : Hp} {A : OA} {s : Office} {j : Nat} (hO : OffAt K H A s) (ok : Ok s) : SpV (sp_is_job K) [.ref A.o, nv j] H (.bl (s.isJob j)) := fun H1 e Q q E => ⟨A, s, j, rfl, hO.mono e, ok, q⟩
theorem v_places_of {H : Hp} {A : OA} {s : Office} {j : Nat} (hO : OffAt K H A s) (ok : Ok s) (hj : s.isJob j = true) : SpU (sp_places_of K) [.ref A.o, nv j] H (nvs (placesOf s j)) := fun H1 e Q q E => ⟨A, s, j, rfl, hO.mono e, ok, hj, q⟩
end
end Sc
end

section
set_option Elab.async false
set_option linter.all false
set_option maxRecDepth 100000
set_option maxHeartbeats 4000000
namespace Sc
open PySem PySem.Spec PyProof.Rows L2 Evl
open TimStorm (Office Way Wood Table Beetle)
def bls (l : List Bool) : List V := l.map V.bl
theorem bls_len (l : List Bool) : (bls l).length = l.length := List.length_map ..
section
variable {K : PySem.W.Frag} {σ : L2.St} {H H' : Hp} {ta tb tc te tl : TE} {t u : TT} {g : TG} {vs : List Nat} {a p : Addr} {xs ws : List V} {D : Ends} {tu tz : TS} {v x y : V}
/-- over a new tuple -/
theorem el_lcNT {β : Type} (l : List β) (v : β → V) {j : Nat} (gx : β → V) (h : EvU tl σ H (l.map gx)) (hz : l.length ≤ 40000) (hw : ∀ x, wipe ((wipe σ vs).set j (some x)) vs = wipe σ vs)
    (he : ∀ x ∈ l, ∀ H1, Ex H H1 → Ev te ((wipe σ vs).set j (some (gx x))) H1 (v x)) : EvL (tLc (iTup K tl) (gName j) tYes te vs) σ H (l.map v) := fun H0 e Q q => h H0 e _ fun a H1 ha e1 hx => ⟨a, rfl, ⟨l.map gx, SqT.of hx⟩, fun Dl hD =>
  lc_tup (xs := l.map gx) (fun i H' => H1 Dl = none ∧ Ex H1 H' ∧ H' Dl = some (.lst ((l.take i).map v))) ⟨hD, Ex.new hD, upd_same⟩ (fun i H' _ p => SqT.of (p.2.1 _ _ hx)) (fun i x H' hi p => by
    obtain ⟨p1, p2, p3⟩ := p
    rw [List.getElem?_map] at hi
    obtain ⟨b, hb, rfl⟩ := Option.map_eq_some_iff.mp hi
    have hlt := (List.getElem?_eq_some_iff.mp hb).1
    refine ⟨hw _, et_yes H' (Ex.refl _) _ fun H3 e3 => ?_⟩
    rw [if_pos rfl]
    refine he b (List.mem_of_getElem? hb) H3 (((e.trans e1).trans p2).trans e3) H3 (Ex.refl _) _ fun H4 e4 => ⟨_, e4 _ _ (e3 _ _ p3), sz_lt (by rw [List.length_map, List.length_take]; omega), p1, Ex.mut ((p2.trans e3).trans e4) p1, ?_⟩
    rw [upd_same, take_snoc hb, List.map_append]
    rfl) (fun H' p => by
    obtain ⟨p1, p2, p3⟩ := p
    rw [List.length_map, List.take_length] at p3
    exact q Dl H' (fresh_back e1 p1) (e1.trans p2) p3)⟩
/-- over a list of way objects, picked: the same picked of their ways -/
theorem paired_pick {α β : Type} {F : α → β → Prop} (q : Nat → β → Bool) : ∀ {ps : List α} {ws : List β}, Paired F ps ws → ∀ k : Nat, Paired F ((((ps.zip ws).zipIdx k).filter fun z => q z.2 z.1.2).map (·.1.1)) (((ws.zipIdx k).filter fun z => q z.2 z.1).map (·.1))
  | _, _, .nil, _ => .nil
  | _, _, .cons (a := a) (b := b) h t, k => by
    have ih := paired_pick q t (k + 1)
    rw [List.zip_cons_cons, List.zipIdx_cons, List.zipIdx_cons, List.filter_cons, List.filter_cons]
    cases c : q k b with
    | true => simp only [c, if_true, List.map_cons]; exact .cons h ih
    | false => simp only [c, Bool.false_eq_true, if_false]; exact ih
/-- a list of way objects is made -/
def RetWs (K : PySem.W.Frag) (ws : List Way) (H : Hp) (Q : VK) : Prop := ∀ p ps H2, H p = none → Ex H H2 → H2 p = some (.lst (ps.map V.ref)) → Paired (WayAt K H2) ps ws → Q (.ref p) H2
theorem ev_setL : True := trivial
theorem ev_shr {m i : Nat} (ha : Ev ta σ H (nv m)) (hb : Ev tb σ H (nv i)) : Ev (tOp rShr ta tb) σ H (nv (m / 2 ^ i)) := by
  refine ev_is (ev_op ha hb (rv_I (by omega))) ?_
  refine congrArg V.int ?_
  rw [Int.toNat_natCast, Int.natCast_ediv, Int.natCast_pow]
  rfl
theorem ev_and1 {m : Nat} (ha : Ev ta σ H (nv m)) (hb : Ev tb σ H (nv 1)) : Ev (tOp rAnd ta tb) σ H (nv (m % 2)) := by
  refine ev_is (ev_op ha hb rv_I0) ?_
  refine congrArg V.int ?_
  show Builtin.bitAnd (m : Int) 1 = _
  rw [PyProof.Rows.bitAnd_m1, Int.natCast_emod]
  rfl
theorem ev_shl1 {i : Nat} (hi : i ≤ 1000) (ha : Ev ta σ H (nv 1)) (hb : Ev tb σ H (nv i)) : Ev (tOp rShl ta tb) σ H (nv (2 ^ i)) := by
  refine ev_is (ev_op ha hb (rv_I ⟨by omega, by omega, by decide⟩)) ?_
  refine congrArg V.int ?_
  rw [Int.toNat_natCast]
  show (1 : Int) * 2 ^ i = ((2 ^ i : Nat) : Int)
  rw [Int.one_mul, Int.natCast_pow]
  rfl
theorem ev_or {m k : Nat} (ha : Ev ta σ H (nv m)) (hb : Ev tb σ H (nv k)) : Ev (tOp rOr ta tb) σ H (nv (m ||| k)) := by
  refine ev_is (ev_op ha hb rv_I0) ?_
  exact congrArg V.int (bitOr_nn (by omega) (by omega))
end
end Sc
end

section
set_option Elab.async false
set_option linter.all false
set_option maxRecDepth 100000
set_option maxHeartbeats 4000000
namespace Sc
open PySem PySem.Spec PyProof.Rows L2 Evl
/-! ### a value of which something is known -/
abbrev HP := V → Hp → Prop
def EvP (te : TE) (σ : L2.St) (H : Hp) (P : HP) : Prop := ∀ H1, Ex H H1 → ∀ Q : VK, (∀ v H2, Ex H1 H2 → P v H2 → Q v H2) → te σ H1 Q
def EvAP (ta : TA) (σ : L2.St) (H : Hp) (P : List V → Hp → Prop) : Prop := ∀ H1, Ex H H1 → ∀ Q : List V → Hp → Prop, (∀ vs H2, Ex H1 H2 → P vs H2 → Q vs H2) → ta σ H1 Q
section
variable {K : PySem.W.Frag} {σ : L2.St} {H H' : Hp} {ta tb tc te tl : TE} {t u : TT} {g : TG} {vs : List Nat} {a p : Addr} {xs ws : List V} {D : Ends} {tu tz : TS} {v x y : V}
theorem ep_ev (h : Ev te σ H v) : EvP te σ H fun w _ => w = v := fun H1 e Q q => h H1 e _ fun H2 e2 => q v H2 e2 rfl
theorem ep_l (h : EvL te σ H xs) : EvP te σ H fun w H2 => ∃ p, w = .ref p ∧ H2 p = some (.lst xs) := fun H1 e Q q => h H1 e _ fun p H2 _ e2 hp => q (.ref p) H2 e2 ⟨p, rfl, hp⟩
theorem ep_ts {ts : List (List V)} (h : EvTs te σ H ts) : EvP te σ H fun w H2 => ∃ p ps, w = .ref p ∧ H2 p = some (.lst (ps.map V.ref)) ∧ Tups H2 ps ts := fun H1 e Q q => h H1 e _ fun p ps H2 _ e2 hp ht => q (.ref p) H2 e2 ⟨p, ps, rfl, hp, ht⟩
theorem eap_nil {P : List V → Hp → Prop} (h : ∀ H1, Ex H H1 → P [] H1) : EvAP tNil σ H P := fun H1 e Q q => q [] H1 (Ex.refl _) (h H1 e)
theorem eap_cons {P : HP} {R : List V → Hp → Prop} {tr : TA} (ha : EvP ta σ H P) (hr : ∀ v H1, Ex H H1 → P v H1 → EvAP tr σ H1 fun vs H2 => R (v :: vs) H2) : EvAP (tCons ta tr) σ H R := fun H1 e Q q =>
  ha H1 e _ fun v H2 e2 hp => hr v H2 (e.trans e2) hp H2 (Ex.refl _) _ fun vs H3 e3 hq => q (v :: vs) H3 (e2.trans e3) hq
theorem ep_callG {sp : Sp} {dvs : List V} {E : XK} {ta : TA} {P : List V → Hp → Prop} {R : HP} (h : EvAP ta σ H P) (hs : ∀ vs H1, Ex H H1 → P vs H1 → ∀ Q : VK, (∀ v H2, Ex H1 H2 → R v H2 → Q v H2) → sp (vs ++ dvs) H1 Q E) : EvP (tCall sp dvs E ta) σ H R := fun H1 e Q q =>
  h H1 e _ fun vs H2 e2 hp => hs vs H2 (e.trans e2) hp Q fun v H3 e3 hr => q v H3 (e2.trans e3) hr
theorem ev_callG {sp : Sp} {dvs : List V} {E : XK} {ta : TA} {P : List V → Hp → Prop} {z : V} (h : EvAP ta σ H P) (hs : ∀ vs H1, Ex H H1 → P vs H1 → SpV sp (vs ++ dvs) H1 z) : Ev (tCall sp dvs E ta) σ H z := fun H1 e Q q =>
  h H1 e _ fun vs H2 e2 hp => hs vs H2 (e.trans e2) hp H2 (Ex.refl _) Q (fun H3 e3 => q H3 (e2.trans e3)) E
theorem el_callG {sp : Sp} {dvs : List V} {E : XK} {ta : TA} {P : List V → Hp → Prop} (h : EvAP ta σ H P) (hs : ∀ vs H1, Ex H H1 → P vs H1 → SpL sp (vs ++ dvs) H1 xs) : EvL (tCall sp dvs E ta) σ H xs := fun H1 e Q q =>
  h H1 e _ fun vs H2 e2 hp => hs vs H2 (e.trans e2) hp H2 (Ex.refl _) Q (fun p H3 hp e3 h3 => q p H3 (fresh_back e2 hp) (e2.trans e3) h3) E
theorem ets_callG {sp : Sp} {dvs : List V} {E : XK} {ta : TA} {P : List V → Hp → Prop} {ts : List (List V)} (h : EvAP ta σ H P) (hs : ∀ vs H1, Ex H H1 → P vs H1 → SpTs sp (vs ++ dvs) H1 ts) : EvTs (tCall sp dvs E ta) σ H ts := fun H1 e Q q =>
  h H1 e _ fun vs H2 e2 hp => hs vs H2 (e.trans e2) hp H2 (Ex.refl _) Q (fun p ps H3 hp e3 h3 h4 => q p ps H3 (fresh_back e2 hp) (e2.trans e3) h3 h4) E
theorem ep_cbG {r : List V → Hp → VK → Prop} {ta : TA} {P : List V → Hp → Prop} {R : HP} (h : EvAP ta σ H P) (hs : ∀ vs H1, Ex H H1 → P vs H1 → ∀ Q : VK, (∀ v H2, Ex H1 H2 → R v H2 → Q v H2) → r vs H1 Q) : EvP (tCB r ta) σ H R := fun H1 e Q q =>
  h H1 e _ fun vs H2 e2 hp => hs vs H2 (e.trans e2) hp Q fun v H3 e3 hr => q v H3 (e2.trans e3) hr
theorem ep_tup {ta : TA} {P : List V → Hp → Prop} {R : HP} (h : EvAP ta σ H P) (hl : ∀ vs H1, P vs H1 → vs.length ≤ 100000) (hr : ∀ vs H1 p, Ex H H1 → P vs H1 → H1 p = none → R (.ref p) (upd H1 p (.tup vs))) : EvP (tTup ta) σ H R := fun H1 e Q q =>
  h H1 e _ fun vs H2 e2 hp => ⟨sz_of (hl vs H2 hp), fun p hn => q (.ref p) _ (e2.trans (Ex.new hn)) (hr vs H2 p (e.trans e2) hp hn)⟩
theorem s_retG {P : HP} (h : EvP te σ H P) (k : ∀ v H1, Ex H H1 → P v H1 → D.rt v H1) : tRet te D σ H := h H (Ex.refl _) _ k
theorem s_asgG {P : HP} {i : Nat} (h : EvP te σ H P) (k : ∀ v H1, Ex H H1 → P v H1 → D.nx (σ.set i (some v)) H1) : tAsg te (gName i) D σ H := h H (Ex.refl _) _ k
theorem q_asgG {P : HP} {i : Nat} (h : EvP te σ H P) (k : ∀ v H1, Ex H H1 → P v H1 → tz D (σ.set i (some v)) H1) : tSeq (tAsg te (gName i)) tz D σ H := h H (Ex.refl _) _ k
theorem s_retTs {ts : List (List V)} (h : EvTs te σ H ts) (k : RetTs ts H D.rt) : tRet te D σ H := h H (Ex.refl _) _ k
theorem q_asgTs {ts : List (List V)} {i : Nat} (h : EvTs te σ H ts) (k : ∀ p ps H1, H p = none → Ex H H1 → H1 p = some (.lst (ps.map V.ref)) → Tups H1 ps ts → tz D (σ.set i (some (.ref p))) H1) : tSeq (tAsg te (gName i)) tz D σ H := h H (Ex.refl _) _ k
/-- over a new list -/
theorem el_lcNB {β : Type} (l : List β) (p : β → Bool) (v : β → V) {j : Nat} (gx : β → V) (h : EvL tl σ H (l.map gx)) (hz : l.length ≤ 40000) (hw : ∀ x, wipe ((wipe σ vs).set j (some x)) vs = wipe σ vs)
    (ht : ∀ x ∈ l, ∀ H1, Ex H H1 → EvT t ((wipe σ vs).set j (some (gx x))) H1 (p x)) (he : ∀ x ∈ l, ∀ H1, Ex H H1 → p x = true → Ev te ((wipe σ vs).set j (some (gx x))) H1 (v x)) :
    EvL (tLc (iList K tl) (gName j) t te vs) σ H ((l.filter p).map v) := by
  rw [← pick_plain, ← given_pick]
  have hl : (l.map gx).length = l.length := List.length_map ..
  rw [← hl]
  refine el_lcNL (K := K) (xs := l.map gx) _ _ h (by rw [hl]; exact hz) hw (fun k x H1 e hk => ?_) (fun k x H1 e hk hf => ?_)
  · rw [List.getElem?_map] at hk
    obtain ⟨b, hb, rfl⟩ := Option.map_eq_some_iff.mp hk
    have e1 : atF l (fun _ b => p b) k = p b := by unfold atF; rw [hb]
    rw [e1]; exact ht b (List.mem_of_getElem? hb) H1 e
  · rw [List.getElem?_map] at hk
    obtain ⟨b, hb, rfl⟩ := Option.map_eq_some_iff.mp hk
    have e1 : atF l (fun _ b => p b) k = p b := by unfold atF; rw [hb]
    have e2 : atV l (fun _ b => v b) k = v b := by unfold atV; rw [hb]
    rw [e2]
    rw [e1] at hf
    exact he b (List.mem_of_getElem? hb) H1 e hf
/-- any list of tuples, new, targets its items -/
theorem el_lcTN {is : List Nat} (ts : List (List V)) (p : List V → Bool) (v : List V → V) (h : EvTs tl σ H ts) (hz : ts.length ≤ 40000)
    (hn : ∀ t ∈ ts, t.length = is.length) (hw : ∀ t, t.length = is.length → wipe (setAll (wipe σ vs) is t) vs = wipe σ vs)
    (ht : ∀ x ∈ ts, ∀ H1, Ex H H1 → EvT t (setAll (wipe σ vs) is x) H1 (p x)) (he : ∀ x ∈ ts, ∀ H1, Ex H H1 → p x = true → Ev te (setAll (wipe σ vs) is x) H1 (v x)) :
    EvL (tLc (iList K tl) (gTup K is.length (gNames is)) t te vs) σ H ((ts.filter p).map v) := fun H0 e Q q =>
  h H0 e _ fun a ps H1 ha e1 h1 h2 => by
    have hl : (ps.map V.ref).length = ts.length := by rw [List.length_map, paired_len h2]
    have key := el_lcT (K := K) (σ := σ) (tl := fun _ H Q => Q (.ref a) H) (te := te) (t := t) (vs := vs) (H := H1) ts p v (fun H2 _ Q q => q H2 (Ex.refl _)) (sq_of h1) h2 hz hn hw (fun x hx H2 e2 => ht x hx H2 ((e.trans e1).trans e2)) (fun x hx H2 e2 hp => he x hx H2 ((e.trans e1).trans e2) hp)
    have := key H1 (Ex.refl _) Q fun p H2 hp e2 h3 => q p H2 (fresh_back e1 hp) (e1.trans e2) h3
    exact this
end
end Sc
end

section
set_option Elab.async false
set_option linter.all false
set_option maxRecDepth 100000
set_option maxHeartbeats 4000000
namespace Sc
open PySem PySem.Spec PyProof.Rows L2 Evl
open TimStorm (Office Way Wood Table Beetle)
def sp_drivable (K : PySem.W.Frag) : Sp := fun vs H Q _ => ∃ (A : OA) (s : Office) (l : Addr) (js : List Nat), vs = [.ref A.o, .ref l] ∧ OffAt K H A s ∧ Ok s ∧ SqL K H l (nvs js) ∧ RetWs K (drivable s js) H Q
def sp_reached_over (K : PySem.W.Frag) : Sp := fun vs H Q _ => ∃ (A : OA) (s : Office) (l : Addr) (ps : List Addr) (ws : List Way), vs = [.ref A.o, .ref l] ∧ OffAt K H A s ∧ Ok s ∧ SqL K H l (ps.map V.ref) ∧ Paired (WayAt K H) ps ws ∧ (∀ w ∈ ws, w.a < s.n ∧ w.b < s.n) ∧ RetL (bls (over s.n ws)) H Q
def sp_reached_with (K : PySem.W.Frag) : Sp := fun vs H Q _ => ∃ (A : OA) (s : Office) (l : Addr) (js : List Nat), vs = [.ref A.o, .ref l] ∧ OffAt K H A s ∧ Ok s ∧ SqL K H l (nvs js) ∧ RetL (bls (rf s.n (s.reach js))) H Q
def sp_is_at_hand (K : PySem.W.Frag) : Sp := fun vs H Q _ => ∃ (A : OA) (s : Office) (l : Addr) (r : List Nat) (j : Nat), vs = [.ref A.o, .ref l, nv j] ∧ OffAt K H A s ∧ Ok s ∧ SqL K H l (bls (rf s.n r)) ∧ s.isJob j = true ∧ RetV (.bl (s.at_ r j)) H Q
def RetBoth (w : Way) (H : Hp) (Q : VK) : Prop := ∀ t t1 t2 H2, Ex H H2 → H2 t = some (.tup [.ref t1, .ref t2]) → H2 t1 = some (.tup [nv w.a, nv w.b]) → H2 t2 = some (.tup [nv w.b, nv w.a]) → Q (.ref t) H2
def sp_both_directions (K : PySem.W.Frag) : Sp := fun vs H Q _ => ∃ (p : Addr) (w : Way), vs = [.ref p] ∧ WayAt K H p w ∧ RetBoth w H Q
def sp_can_be_reached (K : PySem.W.Frag) : Sp := fun vs H Q _ => ∃ (A : OA) (s : Office) (l : Addr) (ps : List Nat), vs = [.ref A.o, .ref l] ∧ OffAt K H A s ∧ Ok s ∧ SqL K H l (nvs ps) ∧ (∀ p ∈ ps, p < s.n) ∧ ps.length ≤ 100 ∧ RetV (.bl (s.reaches s.jobs ps)) H Q
def sp_needed_ways (K : PySem.W.Frag) : Sp := fun vs H Q _ => ∃ (A : OA) (s : Office) (p : Nat), vs = [.ref A.o, nv p] ∧ OffAt K H A s ∧ Ok s ∧ p < s.n ∧ RetL (nvs (s.must p)) H Q
def sp_opens_all (K : PySem.W.Frag) : Sp := fun vs H Q _ => ∃ (A : OA) (s : Office) (l r : Addr) (ws ps : List Nat), vs = [.ref A.o, .ref l, .ref r] ∧ OffAt K H A s ∧ Ok s ∧ H l = some (.lst (nvs ws)) ∧ ws.length ≤ 100 ∧ SqL K H r (nvs ps) ∧ (∀ p ∈ ps, p < s.n) ∧ ps.length ≤ 100 ∧ RetV (.bl (s.reaches (ws ++ s.done) ps)) H Q
def sp_left_jobs (K : PySem.W.Frag) : Sp := fun vs H Q _ => ∃ (A : OA) (s : Office), vs = [.ref A.o] ∧ OffAt K H A s ∧ Ok s ∧ RetL (nvs s.left) H Q
def sp_hindrance (K : PySem.W.Frag) : Sp := fun vs H Q _ => ∃ (A : OA) (s : Office) (l : Addr) (js : List Nat) (j : Nat), vs = [.ref A.o, .ref l, nv j] ∧ OffAt K H A s ∧ Ok s ∧ SqL K H l (nvs js) ∧ RetV (.int (-(hind s js j : Nat))) H Q
def sp_has (K : PySem.W.Frag) : Sp := fun vs H Q _ => ∃ (m i : Nat), vs = [nv m, nv i] ∧ RetV (.bl (m.testBit i)) H Q
def sp_joined (K : PySem.W.Frag) : Sp := fun vs H Q _ => ∃ (m i : Nat), vs = [nv m, nv i] ∧ m.testBit i = false ∧ i ≤ 100 ∧ RetV (nv (m + 2 ^ i)) H Q
def sp_jobs_in (K : PySem.W.Frag) : Sp := fun vs H Q _ => ∃ (l : Addr) (js : List Nat) (m : Nat), vs = [.ref l, nv m] ∧ SqL K H l (nvs js) ∧ js.length ≤ 100 ∧ RetL (nvs (TimStorm.picked js m)) H Q
def sp_how_many_sets (K : PySem.W.Frag) : Sp := fun vs H Q _ => ∃ (l : Addr) (js : List Nat), vs = [.ref l] ∧ SqL K H l (nvs js) ∧ js.length ≤ 100 ∧ RetV (nv (2 ^ js.length)) H Q
def stepTs (s : Office) (hd : Nat) (l : List Nat) (m : Nat) : List (List V) := (s.nexts l m).map fun i => [nv i, nv (dayAt s hd l m i)]
def sp_steps_from (K : PySem.W.Frag) : Sp := fun vs H Q _ => ∃ (A : OA) (s : Office) (hd : Nat) (l : Addr) (js : List Nat) (m : Nat), vs = [.ref A.o, nv hd, .ref l, nv m] ∧ OffAt K H A s ∧ Ok s ∧ 0 < hd ∧ hd ≤ 24 ∧ SqL K H l (nvs js) ∧ (∀ j ∈ js, s.isJob j = true) ∧ js.length ≤ 10 ∧ RetTs (stepTs s hd js m) H Q
theorem sc_drivable : FnScope ["office", "jobs_done", "number", "way"] ["office", "jobs_done"] (defScope s_drivable) := C8.fnScope_by (by decide +kernel)
def t_drivable (K : PySem.W.Frag) : TS :=
  (tRet (tLc (iEnum K (tCons (tFld K (tVar 0) "ways") tNil)) (gTup K 2 (gCons (gName 2) (gCons (gName 3) gNil))) (tOr (tTest (tOp rEq (tFld K (tVar 3) "work") (tC (.int 0)))) (tTest (tOp (rIn K false) (tVar 2) (tVar 1)))) (tVar 3) [2, 3]))
theorem sc_reached_over : FnScope ["office", "ways", "reached", "turn", "way", "place"] ["office", "ways"] (defScope s_reached_over) := C8.fnScope_by (by decide +kernel)
def t_reached_over (K : PySem.W.Frag) : TS :=
  (tSeq (tAsg (tLc (iRng1 (tCons (tFld K (tVar 0) "places") tNil)) (gName 5) tYes (tOp rEq (tVar 5) (tC (.int 0))) [5]) (gName 2))
    (tSeq (tFor (iRng1 (tCons (tOp rSubI (tFld K (tVar 0) "places") (tC (.int 1))) tNil)) (gName 3) (tFor (iList K (tVar 1)) (gName 4) (tIfS (tOr (tB (tOp (rIxL K) (tVar 2) (tFld K (tVar 4) "a"))) (tB (tOp (rIxL K) (tVar 2) (tFld K (tVar 4) "b")))) (tSeq (tAsg (tC (.bl true)) (gSub (tVar 2) (tFld K (tVar 4) "a") rSetL))
    (tAsg (tC (.bl true)) (gSub (tVar 2) (tFld K (tVar 4) "b") rSetL))) tNext)))
    (tRet (tVar 2))))
theorem sc_reached_with : FnScope ["office", "jobs_done"] ["office", "jobs_done"] (defScope s_reached_with) := C8.fnScope_by (by decide +kernel)
def t_reached_with (K : PySem.W.Frag) : TS :=
  (tRet (tCall (sp_reached_over K) [] C8.E0 (tCons (tVar 0) (tCons (tCall (sp_drivable K) [] C8.E0 (tCons (tVar 0) (tCons (tVar 1) tNil))) tNil))))
theorem sc_is_at_hand : FnScope ["office", "reached", "job", "place"] ["office", "reached", "job"] (defScope s_is_at_hand) := C8.fnScope_by (by decide +kernel)
def t_is_at_hand (K : PySem.W.Frag) : TS :=
  (tRet (tCB (rAny K) (tCons (tLc (iTup K (tCall (sp_places_of K) [] C8.E0 (tCons (tVar 0) (tCons (tVar 2) tNil)))) (gName 3) tYes (tOp (rIxL K) (tVar 1) (tVar 3)) [3]) tNil)))
theorem sc_both_directions : FnScope ["way"] ["way"] (defScope s_both_directions) := C8.fnScope_by (by decide +kernel)
def t_both_directions (K : PySem.W.Frag) : TS :=
  (tRet (tTup (tCons (tTup (tCons (tFld K (tVar 0) "a") (tCons (tFld K (tVar 0) "b") tNil))) (tCons (tTup (tCons (tFld K (tVar 0) "b") (tCons (tFld K (tVar 0) "a") tNil))) tNil))))
theorem sc_can_be_reached : FnScope ["office", "places", "reached", "place"] ["office", "places"] (defScope s_can_be_reached) := C8.fnScope_by (by decide +kernel)
def t_can_be_reached (K : PySem.W.Frag) : TS :=
  (tSeq (tAsg (tCall (sp_reached_over K) [] C8.E0 (tCons (tVar 0) (tCons (tFld K (tVar 0) "ways") tNil))) (gName 2))
    (tRet (tCB (rAll K) (tCons (tLc (iList K (tVar 1)) (gName 3) tYes (tOp (rIxL K) (tVar 2) (tVar 3)) [3]) tNil))))
theorem sc_needed_ways : FnScope ["office", "place", "found", "number", "others", "other", "way"] ["office", "place"] (defScope s_needed_ways) := C8.fnScope_by (by decide +kernel)
def t_needed_ways (K : PySem.W.Frag) : TS :=
  (tSeq (tAsg (tLst tNil) (gName 2))
    (tSeq (tFor (iList K (tCall (sp_shut_ways K) [] C8.E0 (tCons (tVar 0) tNil))) (gName 3) (tSeq (tAsg (tLc (iEnum K (tCons (tFld K (tVar 0) "ways") tNil)) (gTup K 2 (gCons (gName 5) (gCons (gName 6) gNil))) (tTest (tOp rNe (tVar 5) (tVar 3))) (tVar 6) [5, 6]) (gName 4))
    (tIfS (tNot (tB (tOp (rIxL K) (tCall (sp_reached_over K) [] C8.E0 (tCons (tVar 0) (tCons (tVar 4) tNil))) (tVar 1)))) (tDrop (tBM K "list" rAppend (tVar 2) (tCons (tVar 3) tNil))) tNext)))
    (tRet (tVar 2))))
theorem sc_opens_all : FnScope ["office", "ways", "places", "reached", "place"] ["office", "ways", "places"] (defScope s_opens_all) := C8.fnScope_by (by decide +kernel)
def t_opens_all (K : PySem.W.Frag) : TS :=
  (tSeq (tAsg (tCall (sp_reached_with K) [] C8.E0 (tCons (tVar 0) (tCons (tOp rCat (tFld K (tVar 0) "jobs_done") (tVar 1)) tNil))) (gName 3))
    (tRet (tCB (rAll K) (tCons (tLc (iList K (tVar 2)) (gName 4) tYes (tOp (rIxL K) (tVar 3) (tVar 4)) [4]) tNil))))
theorem sc_left_jobs : FnScope ["office", "reached", "job"] ["office"] (defScope s_left_jobs) := C8.fnScope_by (by decide +kernel)
def t_left_jobs (K : PySem.W.Frag) : TS :=
  (tSeq (tAsg (tCall (sp_reached_over K) [] C8.E0 (tCons (tVar 0) (tCons (tFld K (tVar 0) "ways") tNil))) (gName 1))
    (tRet (tLc (iList K (tCall (sp_all_jobs K) [] C8.E0 (tCons (tVar 0) tNil))) (gName 2) (tAnd (tTest (tOp (rIn K true) (tVar 2) (tFld K (tVar 0) "jobs_done"))) (tB (tCall (sp_is_at_hand K) [] C8.E0 (tCons (tVar 0) (tCons (tVar 1) (tCons (tVar 2) tNil)))))) (tVar 2) [2])))
theorem sc_hindrance : FnScope ["office", "jobs_done", "job"] ["office", "jobs_done", "job"] (defScope s_hindrance) := C8.fnScope_by (by decide +kernel)
def t_hindrance (K : PySem.W.Frag) : TS :=
  (tSeq (tIfS (tNot (tB (tCall (sp_is_job K) [] C8.E0 (tCons (tVar 0) (tCons (tVar 2) tNil))))) (tRet (tC (.int (-3)))) tNext)
    (tSeq (tIfS (tTest (tOp (rIn K false) (tVar 2) (tVar 1))) (tRet (tC (.int (-8)))) tNext)
    (tSeq (tIfS (tNot (tB (tCall (sp_is_at_hand K) [] C8.E0 (tCons (tVar 0) (tCons (tCall (sp_reached_with K) [] C8.E0 (tCons (tVar 0) (tCons (tVar 1) tNil))) (tCons (tVar 2) tNil)))))) (tRet (tC (.int (-4)))) tNext)
    (tRet (tC (.int 0))))))
theorem sc_has : FnScope ["members", "at"] ["members", "at"] (defScope s_has) := C8.fnScope_by (by decide +kernel)
def t_has (K : PySem.W.Frag) : TS :=
  (tRet (tOp rEq (tOp rAnd (tOp rShr (tVar 0) (tVar 1)) (tC (.int 1))) (tC (.int 1))))
theorem sc_joined : FnScope ["members", "at"] ["members", "at"] (defScope s_joined) := C8.fnScope_by (by decide +kernel)
def t_joined (K : PySem.W.Frag) : TS :=
  (tRet (tOp rOr (tVar 0) (tOp rShl (tC (.int 1)) (tVar 1))))
theorem sc_jobs_in : FnScope ["jobs", "members", "at", "job"] ["jobs", "members"] (defScope s_jobs_in) := C8.fnScope_by (by decide +kernel)
def t_jobs_in (K : PySem.W.Frag) : TS :=
  (tRet (tLc (iEnum K (tCons (tVar 0) tNil)) (gTup K 2 (gCons (gName 2) (gCons (gName 3) gNil))) (tB (tCall (sp_has K) [] C8.E0 (tCons (tVar 1) (tCons (tVar 2) tNil)))) (tVar 3) [2, 3]))
theorem sc_how_many_sets : FnScope ["jobs"] ["jobs"] (defScope s_how_many_sets) := C8.fnScope_by (by decide +kernel)
def t_how_many_sets (K : PySem.W.Frag) : TS :=
  (tRet (tOp rShl (tC (.int 1)) (tCB (rLenS K) (tCons (tVar 0) tNil))))
theorem sc_steps_from : FnScope ["office", "hours_a_day", "jobs", "members", "jobs_done", "reached", "hours", "found", "at", "job"] ["office", "hours_a_day", "jobs", "members"] (defScope s_steps_from) := C8.fnScope_by (by decide +kernel)
def t_steps_from (K : PySem.W.Frag) : TS :=
  (tSeq (tAsg (tOp rCat (tFld K (tVar 0) "jobs_done") (tCall (sp_jobs_in K) [] C8.E0 (tCons (tVar 2) (tCons (tVar 3) tNil)))) (gName 4))
    (tSeq (tAsg (tCall (sp_reached_with K) [] C8.E0 (tCons (tVar 0) (tCons (tVar 4) tNil))) (gName 5))
    (tSeq (tAsg (tCall (sp_hours_of K) [] C8.E0 (tCons (tVar 0) (tCons (tVar 4) tNil))) (gName 6))
    (tSeq (tAsg (tLst tNil) (gName 7))
    (tSeq (tFor (iEnum K (tCons (tVar 2) tNil)) (gTup K 2 (gCons (gName 8) (gCons (gName 9) gNil))) (tIfS (tAnd (tNot (tB (tCall (sp_has K) [] C8.E0 (tCons (tVar 3) (tCons (tVar 8) tNil))))) (tB (tCall (sp_is_at_hand K) [] C8.E0 (tCons (tVar 0) (tCons (tVar 5) (tCons (tVar 9) tNil)))))) (tDrop (tBM K "list" rAppend (tVar 7) (tCons (tTup (tCons (tVar 8) (tCons (tCall (sp_day_after K) [] C8.E0 (tCons (tVar 0) (tCons (tVar 1) (tCons (tOp rAddI (tVar 6) (tCall (sp_work_of K) [] C8.E0 (tCons (tVar 0) (tCons (tVar 9) tNil)))) tNil)))) tNil))) tNil))) tNext))
    (tRet (tVar 7)))))))
section
variable {K : PySem.W.Frag} {mg : Str → Option Value}
theorem p_drivable (T : Top K mg) (vs : List V) (H : Hp) (Q : VK) (E : XK) (h : sp_drivable K vs H Q E) : t_drivable K { nx := fun _ H' => Q .non H', rt := Q } (start ["office", "jobs_done", "number", "way"] vs) H := by
  obtain ⟨A, s, l, js, rfl, hO, ok, hl, q⟩ := h
  obtain ⟨ps, h1, h2⟩ := hO.ways
  have hz := ok.wl
  have hpl := paired_len h2
  refine s_retL (el_lcE (ps.zip s.ways) (fun k b => b.2.work == 0 || js.contains k) (fun _ b => .ref b.1) (ea_cons (ev_ways T hO (ev_var rfl)) ea_nil) (sq_of h1) (by rw [List.length_map, List.length_zip]; omega) (by rw [List.length_zip]; omega) (fun _ _ => rfl)
    (fun k x b hx hb H1 e => ?_) (fun k x b hx hb H1 e _ => ?_)) fun p H1 hp e1 hq => ?_
  · obtain ⟨r, hr, rfl⟩ := refs_get1 hx
    rw [List.getElem?_zip_eq_some] at hb
    obtain ⟨w', hw', hW⟩ := paired_at1 h2 hr
    rw [hb.2] at hw'
    obtain rfl := Option.some.inj hw'
    refine et_or (et_is (et_test (ev_eqN (ev_w_work T (hW.mono e) (ev_var rfl)) (ev_nat 0 rfl))) ?_) fun _ => et_test (ev_in (ev_var rfl) (ev_var rfl) (ex_l e hl))
    rw [Bool.eq_iff_iff]; simp
  · obtain ⟨r, hr, rfl⟩ := refs_get1 hx
    rw [List.getElem?_zip_eq_some] at hb
    rw [hb.1] at hr
    obtain rfl := Option.some.inj hr
    exact ev_var rfl
  · refine q p _ H1 hp e1 (?_ : H1 p = some (.lst ((((ps.zip s.ways).zipIdx.filter fun z => z.1.2.work == 0 || js.contains z.2).map (·.1.1)).map V.ref))) (paired_mono (fun _ _ z => z.mono e1) (paired_pick (fun k w => w.work == 0 || js.contains k) h2 0))
    rw [hq, List.map_map]
    rfl
theorem v_drivable {H : Hp} {A : OA} {s : Office} {l : Addr} {js : List Nat} (hO : OffAt K H A s) (ok : Ok s) (hl : SqL K H l (nvs js)) : ∀ H1, Ex H H1 → ∀ Q : VK, RetWs K (drivable s js) H1 Q → ∀ E : XK, sp_drivable K [.ref A.o, .ref l] H1 Q E := fun H1 e Q q E => ⟨A, s, l, js, rfl, hO.mono e, ok, ex_l e hl, q⟩
theorem bls_at {L : List Bool} {i : Nat} (h : i < L.length) : (bls L)[i]? = some (.bl (L.getD i false)) := by
  unfold bls
  rw [List.getElem?_map, List.getD_eq_getElem?_getD, List.getElem?_eq_getElem h]
  rfl
theorem bls_set (L : List Bool) (i : Nat) (b : Bool) : (bls L).set i (.bl b) = bls (L.set i b) := by
  unfold bls
  rw [List.map_set]
theorem hops_length : ∀ (ws : List Way) (r : List Bool), (ws.foldl hop r).length = r.length := sweep_length
theorem p_reached_over (T : Top K mg) (vs : List V) (H : Hp) (Q : VK) (E : XK) (h : sp_reached_over K vs H Q E) : t_reached_over K { nx := fun _ H' => Q .non H', rt := Q } (start ["office", "ways", "reached", "turn", "way", "place"] vs) H := by
  obtain ⟨A, s, l, ps, ws, rfl, hO, ok, hl, hps, hws, q⟩ := h
  have hn := ok.n16
  have hn2 := ok.n2
  refine q_asgL (el_lcR (fun _ => true) (fun i => .bl (decide (i = 0))) (ea_cons (ev_places T hO (ev_var rfl)) ea_nil) (by omega) (fun _ => rfl) (fun i H1 e hi => et_yes) (fun i H1 e hi _ => ev_eqN (ev_var rfl) (ev_nat 0 rfl))) fun r H1 hr e1 hr1 => ?_
  have e0 : ((List.range s.n).filter fun _ => true).map (fun i => V.bl (decide (i = 0))) = bls (flags0 s.n) := by
    rw [List.filter_eq_self.mpr (fun _ _ => rfl)]
    unfold bls flags0
    rw [List.map_map]
    rfl
  rw [e0] at hr1
  refine q_forR1 (n := ((s.n - 1 : Nat) : Int)) (ea_cons (ev_sub (by omega) (ev_places T (hO.mono e1) (ev_var rfl)) (ev_nat 1 rfl)) ea_nil) (by omega)
    (fun i σ' H' => Ex H H' ∧ H' r = some (.lst (bls (sweeps ws i (flags0 s.n)))) ∧ ∃ v w u, σ' = [some (.ref A.o), some (.ref l), some (.ref r), v, w, u])
    (fun H2 e2 => ⟨e1.trans e2, e2 _ _ hr1, none, none, none, rfl⟩) ?_ ?_
  · rintro i σ' H' hi ⟨e2, h2, v, w, u, rfl⟩
    refine s_forLn (ev_var rfl) (ex_l e2 hl) (fun k σ' H'' => Ex H H'' ∧ H'' r = some (.lst (bls ((ws.take k).foldl hop (sweeps ws i (flags0 s.n))))) ∧ ∃ v w u, σ' = [some (.ref A.o), some (.ref l), some (.ref r), v, w, u])
      (fun H3 e3 => ⟨e2.trans e3, e3 _ _ h2, _, _, _, rfl⟩) (fun k σ' H'' hk p => ex_l p.1 hl) ?_ ?_
    · rintro k x σ' H3 hx ⟨e3, h3, v, w, u, rfl⟩
      obtain ⟨p, hp, rfl⟩ := refs_get1 hx
      obtain ⟨wy, hw, hW⟩ := paired_at1 hps hp
      have hb := hws wy (List.mem_of_getElem? hw)
      rw [take_snoc hw, List.foldl_append]
      generalize hL : (ws.take k).foldl hop (sweeps ws i (flags0 s.n)) = L at h3
      have hlen : L.length = s.n := by
        rw [← hL, hops_length, sweeps_length]
        simp [flags0]
      have hW3 := hW.mono e3
      refine s_when (b := L.getD wy.a false || L.getD wy.b false) (et_or (et_val (ev_ix (ev_var rfl) (sq_of h3) (ev_w_a T hW3 (ev_var rfl)) (bls_at (by omega)))) fun _ => et_val (ev_ix (ev_var rfl) (sq_of h3) (ev_w_b T hW3 (ev_var rfl)) (bls_at (by omega)))) (fun hc H4 e4 => ?_) (fun hc H4 e4 => ?_)
      · have hW4 := hW3.mono e4
        refine q_setL (e4 _ _ h3) ev_c (ev_var rfl) (ev_w_a T hW4 (ev_var rfl)) (by rw [bls_len]; omega) fun H5 e5 => ?_
        have x5 : Ex H (upd H5 r (.lst ((bls L).set wy.a (.bl true)))) := Ex.mut ((e3.trans e4).trans e5) hr
        refine s_setL upd_same ev_c (ev_var rfl) (ev_w_b T (hW.mono x5) (ev_var rfl)) (by rw [List.length_set, bls_len]; omega) fun H6 e6 => ?_
        refine ⟨Ex.mut (x5.trans e6) hr, ?_, _, _, _, rfl⟩
        rw [upd_same, bls_set, bls_set]
        show _ = some (HO.lst (bls (hop L wy)))
        unfold hop
        rw [if_pos hc]
      · refine ⟨e3.trans e4, ?_, _, _, _, rfl⟩
        rw [e4 _ _ h3]
        show _ = some (HO.lst (bls (hop L wy)))
        unfold hop
        rw [if_neg (by rw [hc]; decide)]
    · rintro σ' H3 ⟨e3, h3, v, w, u, rfl⟩
      rw [List.length_map, paired_len hps, List.take_length] at h3
      exact ⟨e3, h3, _, _, _, rfl⟩
  · rintro σ' H' ⟨e2, h2, v, w, u, rfl⟩
    refine s_ret (ev_var rfl) fun H3 e3 => ?_
    exact q r H3 hr (e2.trans e3) (e3 _ _ h2)
theorem v_reached_over {H : Hp} {A : OA} {s : Office} {l : Addr} {ps : List Addr} {ws : List Way} (hO : OffAt K H A s) (ok : Ok s) (hl : SqL K H l (ps.map V.ref)) (hps : Paired (WayAt K H) ps ws) (hws : ∀ w ∈ ws, w.a < s.n ∧ w.b < s.n) :
    SpL (sp_reached_over K) [.ref A.o, .ref l] H (bls (over s.n ws)) := fun H1 e Q q E => ⟨A, s, l, ps, ws, rfl, hO.mono e, ok, ex_l e hl, paired_mono (fun _ _ z => z.mono e) hps, hws, q⟩
theorem p_reached_with (T : Top K mg) (vs : List V) (H : Hp) (Q : VK) (E : XK) (h : sp_reached_with K vs H Q E) : t_reached_with K { nx := fun _ H' => Q .non H', rt := Q } (start ["office", "jobs_done"] vs) H := by
  obtain ⟨A, s, l, js, rfl, hO, ok, hl, q⟩ := h
  rw [← over_drv_rf ok] at q
  refine s_retL (el_callG (P := fun vs H2 => ∃ p ps, vs = [.ref A.o, .ref p] ∧ H2 p = some (.lst (ps.map V.ref)) ∧ Paired (WayAt K H2) ps (drivable s js))
    (eap_cons (ep_ev (ev_var rfl)) fun v H1 e hv => eap_cons (P := fun v H2 => ∃ p ps, v = .ref p ∧ H2 p = some (.lst (ps.map V.ref)) ∧ Paired (WayAt K H2) ps (drivable s js))
      (ep_callG (P := fun vs H2 => vs = [.ref A.o, .ref l]) (fun H2 e2 Q q => (ea_cons (ev_var rfl) (ea_cons (ev_var rfl) ea_nil)) H2 e2 _ fun H3 e3 => q _ H3 e3 rfl) fun vs H2 e2 hvs Q q => by
        subst hvs
        exact v_drivable (hO.mono (e.trans e2)) ok (ex_l (e.trans e2) hl) H2 (Ex.refl _) Q (fun p ps H3 hp e3 h3 h4 => q (.ref p) H3 e3 ⟨p, ps, rfl, h3, h4⟩) _) fun w H2 e2 hw => eap_nil fun H3 e3 => ?_) fun vs H1 e hvs => ?_) q
  · obtain ⟨p, ps, rfl, h1, h2⟩ := hw
    subst hv
    exact ⟨p, ps, rfl, e3 _ _ h1, paired_mono (fun _ _ z => z.mono e3) h2⟩
  · obtain ⟨p, ps, rfl, h1, h2⟩ := hvs
    exact v_reached_over (hO.mono e) ok (sq_of h1) h2 fun w hw => drv_lt ok w (mem_drivable.mp hw)
theorem v_reached_with {H : Hp} {A : OA} {s : Office} {l : Addr} {js : List Nat} (hO : OffAt K H A s) (ok : Ok s) (hl : SqL K H l (nvs js)) : SpL (sp_reached_with K) [.ref A.o, .ref l] H (bls (rf s.n (s.reach js))) := fun H1 e Q q E => ⟨A, s, l, js, rfl, hO.mono e, ok, ex_l e hl, q⟩
theorem p_is_at_hand (T : Top K mg) (vs : List V) (H : Hp) (Q : VK) (E : XK) (h : sp_is_at_hand K vs H Q E) : t_is_at_hand K { nx := fun _ H' => Q .non H', rt := Q } (start ["office", "reached", "job", "place"] vs) H := by
  obtain ⟨A, s, l, r, j, rfl, hO, ok, hl, hj, q⟩ := h
  refine s_ret (ev_is (ev_any (bs := (placesOf s j).map fun p => r.contains p) (by
    rw [List.map_map]
    exact el_lcNT (placesOf s j) (fun p => .bl (r.contains p)) nv (eu_call (ea_cons (ev_var rfl) (ea_cons (ev_var rfl) ea_nil)) (v_places_of hO ok hj)) (by unfold placesOf; split <;> (cases s.ways[j]? <;> cases s.woods[j - 32]? <;> simp)) (fun _ => rfl)
      fun p hp H1 e => ev_ix (ev_var rfl) (ex_l e hl) (ev_var rfl) (by
        unfold bls
        rw [List.getElem?_map, rf_at (places_lt ok hp)]
        rfl))) ?_) fun H1 e => q H1 e
  rw [at_eq, List.any_map]
  rfl
theorem v_is_at_hand {H : Hp} {A : OA} {s : Office} {l : Addr} {r : List Nat} {j : Nat} (hO : OffAt K H A s) (ok : Ok s) (hl : SqL K H l (bls (rf s.n r))) (hj : s.isJob j = true) : SpV (sp_is_at_hand K) [.ref A.o, .ref l, nv j] H (.bl (s.at_ r j)) :=
  fun H1 e Q q E => ⟨A, s, l, r, j, rfl, hO.mono e, ok, ex_l e hl, hj, q⟩
theorem p_both_directions (T : Top K mg) (vs : List V) (H : Hp) (Q : VK) (E : XK) (h : sp_both_directions K vs H Q E) : t_both_directions K { nx := fun _ H' => Q .non H', rt := Q } (start ["way"] vs) H := by
  obtain ⟨p, w, rfl, hW, q⟩ := h
  refine s_retG (P := fun v H2 => ∃ t t1 t2, v = .ref t ∧ H2 t = some (.tup [.ref t1, .ref t2]) ∧ H2 t1 = some (.tup [nv w.a, nv w.b]) ∧ H2 t2 = some (.tup [nv w.b, nv w.a])) (ep_tup (P := fun vs H2 => ∃ t1 t2, vs = [.ref t1, .ref t2] ∧ H2 t1 = some (.tup [nv w.a, nv w.b]) ∧ H2 t2 = some (.tup [nv w.b, nv w.a])) ?_ ?_ ?_) ?_
  · refine eap_cons (P := fun v H2 => ∃ t1, v = .ref t1 ∧ H2 t1 = some (.tup [nv w.a, nv w.b])) (fun H1 e Q q => eu_tup (ea_cons (ev_w_a T hW (ev_var rfl)) (ea_cons (ev_w_b T hW (ev_var rfl)) ea_nil)) (by decide : 2 ≤ 100000) H1 e _ fun p H2 _ e2 hp => q _ H2 e2 ⟨p, rfl, hp⟩) fun v H1 e hv => ?_
    obtain ⟨t1, rfl, h1⟩ := hv
    refine eap_cons (P := fun v H2 => ∃ t2, v = .ref t2 ∧ H2 t2 = some (.tup [nv w.b, nv w.a])) (fun H2 e2 Q q => eu_tup (ea_cons (ev_w_b T hW (ev_var rfl)) (ea_cons (ev_w_a T hW (ev_var rfl)) ea_nil)) (by decide : 2 ≤ 100000) H2 (e.trans e2) _ fun p H2 _ e2 hp => q _ H2 e2 ⟨p, rfl, hp⟩) fun v H2 e2 hv => ?_
    obtain ⟨t2, rfl, h2⟩ := hv
    exact eap_nil fun H3 e3 => ⟨t1, t2, rfl, (e2.trans e3) _ _ h1, e3 _ _ h2⟩
  · rintro vs H1 ⟨t1, t2, rfl, _⟩
    exact (by decide : 2 ≤ 100000)
  · rintro vs H1 p e ⟨t1, t2, rfl, h1, h2⟩ hp
    exact ⟨p, t1, t2, rfl, upd_same, Ex.new hp _ _ h1, Ex.new hp _ _ h2⟩
  · rintro v H1 e ⟨t, t1, t2, rfl, h1, h2, h3⟩
    exact q t t1 t2 H1 e h1 h2 h3
theorem v_both {H : Hp} {p : Addr} {w : Way} (hW : WayAt K H p w) : ∀ H1, Ex H H1 → ∀ Q : VK, RetBoth w H1 Q → ∀ E : XK, sp_both_directions K [.ref p] H1 Q E := fun H1 e Q q E => ⟨p, w, rfl, hW.mono e, q⟩
theorem el_over_all (T : Top K mg) {σ : L2.St} {H : Hp} {A : OA} {s : Office} (hO : OffAt K H A s) (ok : Ok s) {ta : TE} (h : Ev ta σ H (.ref A.o)) : EvL (tCall (sp_reached_over K) [] C8.E0 (tCons ta (tCons (tFld K ta "ways") tNil))) σ H (bls (rf s.n (s.reach s.jobs))) := by
  obtain ⟨ps, h1, h2⟩ := hO.ways
  rw [← over_all_rf ok]
  exact el_call (ea_cons h (ea_cons (ev_ways T hO h) ea_nil)) (v_reached_over hO ok (sq_of h1) h2 fun w hw => ⟨(ok.wy w hw).1, (ok.wy w hw).2.1⟩)
theorem p_can_be_reached (T : Top K mg) (vs : List V) (H : Hp) (Q : VK) (E : XK) (h : sp_can_be_reached K vs H Q E) : t_can_be_reached K { nx := fun _ H' => Q .non H', rt := Q } (start ["office", "places", "reached", "place"] vs) H := by
  obtain ⟨A, s, l, ps, rfl, hO, ok, hl, hp, hz, q⟩ := h
  refine q_asgL (el_over_all T hO ok (ev_var rfl)) fun r H1 hr e1 h1 => ?_
  refine s_ret (ev_is (ev_all (bs := ps.map fun p => (s.reach s.jobs).contains p) (by
    rw [List.map_map]
    exact el_lcA ps (fun p => .bl ((s.reach s.jobs).contains p)) nv (ev_var rfl) (ex_l e1 hl) (by omega) (fun _ => rfl) fun p hp' H2 e2 => ev_ix (ev_var rfl) (sq_of (e2 _ _ h1)) (ev_var rfl) (by
      unfold bls
      rw [List.getElem?_map, rf_at (hp p hp')]
      rfl))) ?_) fun H2 e2 => q H2 (e1.trans e2)
  rw [List.all_map]
  rfl
theorem v_can_be_reached {H : Hp} {A : OA} {s : Office} {l : Addr} {ps : List Nat} (hO : OffAt K H A s) (ok : Ok s) (hl : SqL K H l (nvs ps)) (hp : ∀ p ∈ ps, p < s.n) (hz : ps.length ≤ 100) : SpV (sp_can_be_reached K) [.ref A.o, .ref l] H (.bl (s.reaches s.jobs ps)) :=
  fun H1 e Q q E => ⟨A, s, l, ps, rfl, hO.mono e, ok, ex_l e hl, hp, hz, q⟩
theorem p_needed_ways (T : Top K mg) (vs : List V) (H : Hp) (Q : VK) (E : XK) (h : sp_needed_ways K vs H Q E) : t_needed_ways K { nx := fun _ H' => Q .non H', rt := Q } (start ["office", "place", "found", "number", "others", "other", "way"] vs) H := by
  obtain ⟨A, s, p, rfl, hO, ok, hp, q⟩ := h
  obtain ⟨ps, h1, h2⟩ := hO.ways
  have hz := ok.wl
  have hpl := paired_len h2
  refine q_asgL (el_lst ea_nil (by decide : 0 ≤ 100000)) fun f H1 hf e1 hf1 => ?_
  have hsl : s.shut.length ≤ 32 := by
    unfold Office.shut
    exact Nat.le_trans (List.length_filter_le _ _) (by rw [List.length_range]; exact hz)
  let good : Nat → Bool := fun k => !(s.reach (s.shut.filter (fun q => q != k) ++ s.done)).contains p
  refine q_forNLn (el_call (ea_cons (ev_var rfl) ea_nil) (v_shut_ways (hO.mono e1) ok)) (fun a i σ' H' => Ex H H' ∧ H' a = some (.lst (nvs s.shut)) ∧ a ≠ f ∧ H' f = some (.lst (nvs ((s.shut.take i).filter good))) ∧ ∃ v w u x, σ' = [some (.ref A.o), some (nv p), some (.ref f), v, w, u, x])
    (fun a H2 ha e2 h => ⟨e1.trans e2, h, (by rintro rfl; rw [ha] at hf1; cases hf1), e2 _ _ hf1, none, none, none, none, rfl⟩) (fun a i σ' H' _ P => sq_of P.2.1) ?_ ?_
  · rintro a i x σ' H' hx ⟨e2, ha, hne, hfl, v, w, u, y, rfl⟩
    obtain ⟨k, hk, rfl⟩ := nvs_of hx
    have hO2 := hO.mono e2
    have hks := List.mem_of_getElem? hk
    refine q_asgL (el_lcE (ps.zip s.ways) (fun j _ => !decide (j = k)) (fun _ b => .ref b.1) (ea_cons (ev_ways T hO2 (ev_var rfl)) ea_nil) (sq_of (e2 _ _ h1)) (by rw [List.length_map, List.length_zip]; omega) (by rw [List.length_zip]; omega) (fun _ _ => rfl)
      (fun j x b hx hb H3 e => ?_) (fun j x b hx hb H3 e _ => ?_)) fun o H3 ho e3 ho3 => ?_
    · exact et_test (ev_neN (ev_var rfl) (ev_var rfl))
    · obtain ⟨r, hr, rfl⟩ := refs_get1 hx
      rw [List.getElem?_zip_eq_some] at hb
      rw [hb.1] at hr
      obtain rfl := Option.some.inj hr
      exact ev_var rfl
    · have hO3 := hO2.mono e3
      have hw : Paired (WayAt K H3) ((((ps.zip s.ways).zipIdx).filter fun z => !decide (z.2 = k)).map (·.1.1)) (others s k) := paired_mono (fun _ _ z => z.mono (e2.trans e3)) (paired_pick (fun j _ => !decide (j = k)) h2 0)
      have ho3' : H3 o = some (.lst (((((ps.zip s.ways).zipIdx).filter fun z => !decide (z.2 = k)).map (·.1.1)).map V.ref)) := by
        rw [ho3, List.map_map]
        rfl
      have hidx : ∀ q, q < s.n → (bls (over s.n (others s k)))[q]? = some (.bl ((s.reach (s.shut.filter (fun q => q != k) ++ s.done)).contains q)) := fun q hq => by
        rw [over_others ok hks]
        unfold bls
        rw [List.getElem?_map, rf_at hq]
        rfl
      refine s_when (b := good k) (et_not (et_val (ev_opL1 (el_call (ea_cons (ev_var rfl) (ea_cons (ev_var rfl) ea_nil)) (v_reached_over hO3 ok (sq_of ho3') hw fun w hw => by
        obtain ⟨i, hi, _⟩ := mem_others.mp hw
        have := ok.wy w (List.mem_of_getElem? hi)
        exact ⟨this.1, this.2.1⟩)) (fun H4 e4 => ev_var rfl) fun r H4 hr e4 => rv_ixL (sq_of hr) (atI_nat (hidx p hp))))) (fun hb H4 e4 => ?_) (fun hb H4 e4 => ?_)
      · have hlen : ((s.shut.take i).filter good).length ≤ 32 := Nat.le_trans (List.length_filter_le _ _) (Nat.le_trans (by rw [List.length_take]; exact Nat.min_le_right _ _) hsl)
        refine s_app (e4 _ _ (e3 _ _ hfl)) (ev_var rfl) (ev_var rfl) (by rw [nvs_len]; omega) fun H5 e5 => ?_
        refine ⟨Ex.mut (((e2.trans e3).trans e4).trans e5) hf, ?_, hne, ?_, _, _, _, _, rfl⟩
        · rw [upd_ne hne]
          exact e5 _ _ (e4 _ _ (e3 _ _ ha))
        · rw [upd_same, take_snoc hk, List.filter_append, nvs_app]
          simp [hb]
          rfl
      · refine ⟨(e2.trans e3).trans e4, e4 _ _ (e3 _ _ ha), hne, ?_, _, _, _, _, rfl⟩
        rw [e4 _ _ (e3 _ _ hfl), take_snoc hk, List.filter_append]
        simp [hb]
  · rintro a σ' H' ⟨e2, ha, hne, hfl, v, w, u, y, rfl⟩
    refine s_ret (ev_var rfl) fun H3 e3 => ?_
    refine q f H3 hf (e2.trans e3) ?_
    rw [e3 _ _ hfl, nvs_len, List.take_length, must_eq]
theorem v_needed_ways {H : Hp} {A : OA} {s : Office} {p : Nat} (hO : OffAt K H A s) (ok : Ok s) (hp : p < s.n) : SpL (sp_needed_ways K) [.ref A.o, nv p] H (nvs (s.must p)) := fun H1 e Q q E => ⟨A, s, p, rfl, hO.mono e, ok, hp, q⟩
end
end Sc
end

section
set_option Elab.async false
set_option linter.all false
set_option maxRecDepth 100000
set_option maxHeartbeats 4000000
namespace Sc
open PySem PySem.Spec PyProof.Rows L2 Evl
open TimStorm (Office Way Wood Table Beetle)
section
variable {K : PySem.W.Frag} {mg : Str → Option Value}
theorem p_opens_all (T : Top K mg) (vs : List V) (H : Hp) (Q : VK) (E : XK) (h : sp_opens_all K vs H Q E) : t_opens_all K { nx := fun _ H' => Q .non H', rt := Q } (start ["office", "ways", "places", "reached", "place"] vs) H := by
  obtain ⟨A, s, l, r, ws, ps, rfl, hO, ok, hl, hw, hr, hp, hz, q⟩ := h
  have hd := done_len ok
  refine q_asgL (xs := bls (rf s.n (s.reach (s.done.reverse ++ ws)))) (el_callG (P := fun vs H2 => ∃ p, vs = [.ref A.o, .ref p] ∧ H2 p = some (.lst (nvs (s.done.reverse ++ ws)))) (eap_cons (ep_ev (ev_var rfl)) fun v H1 e hv => eap_cons (ep_l (el_cat2 (ev_jobs_done T (hO.mono e) (ev_var rfl)) (hO.mono e).done (ev_var rfl) (e _ _ hl) (by rw [nvs_len, nvs_len, List.length_reverse]; omega))) fun w H2 e2 hw2 => eap_nil fun H3 e3 => ?_) fun vs H1 e hvs => ?_) fun f H1 hf e1 h1 => ?_
  · obtain ⟨p, rfl, h⟩ := hw2
    subst hv
    rw [nvs_app]
    exact ⟨p, rfl, e3 _ _ h⟩
  · obtain ⟨p, rfl, h⟩ := hvs
    exact v_reached_with (hO.mono e) ok (sq_of h)
  · have er : s.reach (s.done.reverse ++ ws) = s.reach (ws ++ s.done) := reach_congr ok fun k => by simp [or_comm]
    rw [er] at h1
    refine s_ret (ev_is (ev_all (bs := ps.map fun p => (s.reach (ws ++ s.done)).contains p) (by
      rw [List.map_map]
      exact el_lcA ps (fun p => .bl ((s.reach (ws ++ s.done)).contains p)) nv (ev_var rfl) (ex_l e1 hr) (by omega) (fun _ => rfl) fun p hp' H2 e2 => ev_ix (ev_var rfl) (sq_of (e2 _ _ h1)) (ev_var rfl) (by
        unfold bls
        rw [List.getElem?_map, rf_at (hp p hp')]
        rfl))) ?_) fun H2 e2 => q H2 (e1.trans e2)
    rw [List.all_map]
    rfl
theorem v_opens_all {H : Hp} {A : OA} {s : Office} {l r : Addr} {ws ps : List Nat} (hO : OffAt K H A s) (ok : Ok s) (hl : H l = some (.lst (nvs ws))) (hw : ws.length ≤ 100) (hr : SqL K H r (nvs ps)) (hp : ∀ p ∈ ps, p < s.n) (hz : ps.length ≤ 100) : SpV (sp_opens_all K) [.ref A.o, .ref l, .ref r] H (.bl (s.reaches (ws ++ s.done) ps)) :=
  fun H1 e Q q E => ⟨A, s, l, r, ws, ps, rfl, hO.mono e, ok, e _ _ hl, hw, ex_l e hr, hp, hz, q⟩
theorem p_left_jobs (T : Top K mg) (vs : List V) (H : Hp) (Q : VK) (E : XK) (h : sp_left_jobs K vs H Q E) : t_left_jobs K { nx := fun _ H' => Q .non H', rt := Q } (start ["office", "reached", "job"] vs) H := by
  obtain ⟨A, s, rfl, hO, ok, q⟩ := h
  have hjl := ok.jl
  refine q_asgL (el_over_all T hO ok (ev_var rfl)) fun r H1 hr e1 h1 => ?_
  have hO1 := hO.mono e1
  refine s_retL (el_lcNB s.jobs (fun j => !s.done.contains j && s.at_ (s.reach s.jobs) j) nv nv (el_call (ea_cons (ev_var rfl) ea_nil) (v_all_jobs hO1 ok)) (by omega) (fun _ => rfl) (fun j hj H2 e2 => ?_) (fun j hj H2 e2 _ => ev_var rfl)) fun p H2 hp e2 h2 => q p H2 (fresh_back e1 hp) (e1.trans e2) h2
  have hO2 := hO1.mono e2
  rw [← contains_rev]
  exact et_and (et_test (ev_notIn (ev_var rfl) (ev_jobs_done T hO2 (ev_var rfl)) (sq_of hO2.done))) fun _ => et_val (ev_call (ea_cons (ev_var rfl) (ea_cons (ev_var rfl) (ea_cons (ev_var rfl) ea_nil))) (v_is_at_hand hO2 ok (sq_of (e2 _ _ h1)) ((mem_jobs ok).mp hj)))
theorem v_left_jobs {H : Hp} {A : OA} {s : Office} (hO : OffAt K H A s) (ok : Ok s) : SpL (sp_left_jobs K) [.ref A.o] H (nvs s.left) := fun H1 e Q q E => ⟨A, s, rfl, hO.mono e, ok, q⟩
theorem el_left (T : Top K mg) {σ : L2.St} {H : Hp} {A : OA} {s : Office} (hO : OffAt K H A s) (ok : Ok s) {ta : TE} (h : Ev ta σ H (.ref A.o)) : EvL (tCall (sp_left_jobs K) [] C8.E0 (tCons ta tNil)) σ H (nvs s.left) := el_call (ea_cons h ea_nil) (v_left_jobs hO ok)
theorem p_hindrance (T : Top K mg) (vs : List V) (H : Hp) (Q : VK) (E : XK) (h : sp_hindrance K vs H Q E) : t_hindrance K { nx := fun _ H' => Q .non H', rt := Q } (start ["office", "jobs_done", "job"] vs) H := by
  obtain ⟨A, s, l, js, j, rfl, hO, ok, hl, q⟩ := h
  unfold hind at q
  refine q_when (et_not (et_val (ev_call (ea_cons (ev_var rfl) (ea_cons (ev_var rfl) ea_nil)) (v_is_job hO ok)))) (fun hb H1 e1 => ?_) (fun hb H1 e1 => ?_)
  · have hj : s.isJob j = false := by simpa using hb
    rw [if_pos hj] at q
    exact s_ret ev_c fun H2 e2 => q H2 (e1.trans e2)
  · have hj : s.isJob j = true := by simpa using hb
    rw [if_neg (by rw [hj]; decide)] at q
    refine q_when (et_test (ev_in (ev_var rfl) (ev_var rfl) (ex_l e1 hl))) (fun hc H2 e2 => ?_) (fun hc H2 e2 => ?_)
    · rw [if_pos hc] at q
      exact s_ret ev_c fun H3 e3 => q H3 ((e1.trans e2).trans e3)
    · rw [if_neg (by rw [hc]; decide)] at q
      have e12 := e1.trans e2
      have hO2 := hO.mono e12
      refine q_when (b := !s.at_ (s.reach js) j) (et_not (et_val (ev_callG (P := fun vs H3 => ∃ p, vs = [.ref A.o, .ref p, nv j] ∧ H3 p = some (.lst (bls (rf s.n (s.reach js))))) (eap_cons (ep_ev (ev_var rfl)) fun v H3 e3 hv => eap_cons (ep_l (el_call (ea_cons (ev_var rfl) (ea_cons (ev_var rfl) ea_nil)) (v_reached_with (hO2.mono e3) ok (ex_l (e12.trans e3) hl)))) fun w H4 e4 hw =>
        eap_cons (ep_ev (ev_var rfl)) fun z H5 e5 hz => eap_nil fun H6 e6 => ?_) fun vs H3 e3 hvs => ?_))) (fun hb H3 e3 => ?_) (fun hb H3 e3 => ?_)
      · obtain ⟨p, rfl, h⟩ := hw
        subst hv hz
        exact ⟨p, rfl, (e5.trans e6) _ _ h⟩
      · obtain ⟨p, rfl, h⟩ := hvs
        exact v_is_at_hand (hO2.mono e3) ok (sq_of h) hj
      · rw [if_pos (by simpa using hb)] at q
        exact s_ret ev_c fun H4 e4 => q H4 ((e12.trans e3).trans e4)
      · rw [if_neg (by simpa using hb)] at q
        exact s_ret ev_c fun H4 e4 => q H4 ((e12.trans e3).trans e4)
theorem v_hindrance {H : Hp} {A : OA} {s : Office} {l : Addr} {js : List Nat} {j : Nat} (hO : OffAt K H A s) (ok : Ok s) (hl : SqL K H l (nvs js)) : SpV (sp_hindrance K) [.ref A.o, .ref l, nv j] H (.int (-(hind s js j : Nat))) := fun H1 e Q q E => ⟨A, s, l, js, j, rfl, hO.mono e, ok, ex_l e hl, q⟩
theorem p_has (T : Top K mg) (vs : List V) (H : Hp) (Q : VK) (E : XK) (h : sp_has K vs H Q E) : t_has K { nx := fun _ H' => Q .non H', rt := Q } (start ["members", "at"] vs) H := by
  obtain ⟨m, i, rfl, q⟩ := h
  refine s_ret (ev_is (ev_eqN (ev_and1 (ev_shr (ev_var rfl) (ev_var rfl)) (ev_nat 1 rfl)) (ev_nat 1 rfl)) ?_) fun H1 e1 => q H1 e1
  rw [Nat.testBit_eq_decide_div_mod_eq]
theorem v_has {H : Hp} {m i : Nat} : SpV (sp_has K) [nv m, nv i] H (.bl (m.testBit i)) := fun H1 e Q q E => ⟨m, i, rfl, q⟩
theorem p_joined (T : Top K mg) (vs : List V) (H : Hp) (Q : VK) (E : XK) (h : sp_joined K vs H Q E) : t_joined K { nx := fun _ H' => Q .non H', rt := Q } (start ["members", "at"] vs) H := by
  obtain ⟨m, i, rfl, hb, hi, q⟩ := h
  refine s_ret (ev_or (ev_var rfl) (ev_shl1 (by omega) (ev_nat 1 rfl) (ev_var rfl))) fun H1 e1 => ?_
  rw [or_bit i m hb]
  exact q H1 e1
theorem v_joined {H : Hp} {m i : Nat} (hb : m.testBit i = false) (hi : i ≤ 100) : SpV (sp_joined K) [nv m, nv i] H (nv (m + 2 ^ i)) := fun H1 e Q q E => ⟨m, i, rfl, hb, hi, q⟩
theorem p_jobs_in (T : Top K mg) (vs : List V) (H : Hp) (Q : VK) (E : XK) (h : sp_jobs_in K vs H Q E) : t_jobs_in K { nx := fun _ H' => Q .non H', rt := Q } (start ["jobs", "members", "at", "job"] vs) H := by
  obtain ⟨l, js, m, rfl, hl, hz, q⟩ := h
  refine s_retL (el_lcE js (fun i _ => m.testBit i) (fun _ j => nv j) (ea_cons (ev_var rfl) ea_nil) hl (nvs_len js) (by omega) (fun _ _ => rfl)
    (fun k x b hx hb H1 e => et_val (ev_call (ea_cons (ev_var rfl) (ea_cons (ev_var rfl) ea_nil)) v_has)) (fun k x b hx hb H1 e _ => ?_)) fun p H1 hp e1 h1 => ?_
  · obtain ⟨j, hj, rfl⟩ := nvs_of hx
    rw [hb] at hj
    obtain rfl := Option.some.inj hj
    exact ev_var rfl
  · refine q p H1 hp e1 ?_
    rw [h1]
    unfold pick nvs TimStorm.picked
    rw [List.map_map]
    rfl
theorem v_jobs_in {H : Hp} {l : Addr} {js : List Nat} {m : Nat} (hl : SqL K H l (nvs js)) (hz : js.length ≤ 100) : SpL (sp_jobs_in K) [.ref l, nv m] H (nvs (TimStorm.picked js m)) := fun H1 e Q q E => ⟨l, js, m, rfl, ex_l e hl, hz, q⟩
theorem p_how_many_sets (T : Top K mg) (vs : List V) (H : Hp) (Q : VK) (E : XK) (h : sp_how_many_sets K vs H Q E) : t_how_many_sets K { nx := fun _ H' => Q .non H', rt := Q } (start ["jobs"] vs) H := by
  obtain ⟨l, js, rfl, hl, hz, q⟩ := h
  exact s_ret (ev_shl1 (by omega) (ev_nat 1 rfl) (by have := ev_lenL (K := K) (σ := start ["jobs"] [.ref l]) (ta := tVar 0) (ev_var rfl) hl; rwa [nvs_len] at this)) fun H1 e1 => q H1 e1
theorem v_how_many_sets {H : Hp} {l : Addr} {js : List Nat} (hl : SqL K H l (nvs js)) (hz : js.length ≤ 100) : SpV (sp_how_many_sets K) [.ref l] H (nv (2 ^ js.length)) := fun H1 e Q q E => ⟨l, js, rfl, ex_l e hl, hz, q⟩
theorem picked_len (l : List Nat) (m : Nat) : (TimStorm.picked l m).length ≤ l.length := by
  unfold TimStorm.picked
  rw [List.length_map]
  exact Nat.le_trans (List.length_filter_le _ _) (by simp)
theorem picked_mem {l : List Nat} {m j : Nat} (h : j ∈ TimStorm.picked l m) : j ∈ l := by
  obtain ⟨i, h1, _⟩ := mem_picked.mp h
  exact List.mem_of_getElem? h1
theorem p_steps_from (T : Top K mg) (vs : List V) (H : Hp) (Q : VK) (E : XK) (h : sp_steps_from K vs H Q E) : t_steps_from K { nx := fun _ H' => Q .non H', rt := Q } (start ["office", "hours_a_day", "jobs", "members", "jobs_done", "reached", "hours", "found", "at", "job"] vs) H := by
  obtain ⟨A, s, hd, l, js, m, rfl, hO, ok, hd0, hd1, hl, hj, hz, q⟩ := h
  have hdl := done_len ok
  have hpl := picked_len js m
  have hwl := nvs_len (TimStorm.picked js m)
  refine q_asgL (el_cat1 (ev_jobs_done T hO (ev_var rfl)) hO.done (el_call (ea_cons (ev_var rfl) (ea_cons (ev_var rfl) ea_nil)) (v_jobs_in (m := m) hl (by omega))) (by rw [nvs_len, nvs_len, List.length_reverse]; omega)) fun d H1 hdn e1 h1 => ?_
  rw [← nvs_app] at h1
  have hO1 := hO.mono e1
  refine q_asgL (el_call (ea_cons (ev_var rfl) (ea_cons (ev_var rfl) ea_nil)) (v_reached_with hO1 ok (sq_of h1))) fun r H2 hr e2 h2 => ?_
  have er : s.reach (s.done.reverse ++ TimStorm.picked js m) = s.reach (TimStorm.picked js m ++ s.done) := reach_congr ok fun k => by simp [or_comm]
  rw [er] at h2
  have hO2 := hO1.mono e2
  refine q_asg (ev_call (ea_cons (ev_var rfl) (ea_cons (ev_var rfl) ea_nil)) (v_hours_of hO2 ok (sq_of (e2 _ _ h1)) (fun j hm => ?_) (by rw [List.length_append, List.length_reverse]; omega))) fun H3 e3 => ?_
  · rcases List.mem_append.mp hm with hm | hm
    · exact ok.dj j (List.mem_reverse.mp hm)
    · exact hj j (picked_mem hm)
  have es : s.spent (s.done.reverse ++ TimStorm.picked js m) = s.spent s.done + s.spent (TimStorm.picked js m) := by rw [spent_append, spent_reverse]
  rw [es]
  refine q_asgL (el_lst ea_nil (by decide : 0 ≤ 100000)) fun f H4 hf e4 hf4 => ?_
  have e14 := (e1.trans e2).trans (e3.trans e4)
  have hO4 := hO.mono e14
  have h24 := (e3.trans e4) _ _ h2
  let good : Nat → Bool := fun i => !m.testBit i && s.at_ (s.reach (TimStorm.picked js m ++ s.done)) (js.getD i 0)
  refine q_forE (ea_cons (ev_var rfl) ea_nil) (ex_l e14 hl) (fun k σ' H' => Ex H H' ∧ Ex H2 H' ∧ (∃ ps, H' f = some (.lst (ps.map V.ref)) ∧ Tups H' ps (((List.range k).filter good).map fun i => [nv i, nv (dayAt s hd js m i)]) ∧ ps.length ≤ k) ∧ ∃ v w, σ' = [some (.ref A.o), some (nv hd), some (.ref l), some (nv m), some (.ref d), some (.ref r), some (nv (s.spent s.done + s.spent (TimStorm.picked js m))), some (.ref f), v, w])
    (fun H5 e5 => ⟨e14.trans e5, (e3.trans e4).trans e5, ⟨[], e5 _ _ hf4, .nil, Nat.le_refl _⟩, none, none, rfl⟩) (fun k σ' H' _ P => ex_l P.1 hl) ?_ ?_
  · rintro k x σ' H' hx ⟨p1, p2, ⟨ps, p3, p4, p5⟩, v, w, rfl⟩ H5 e5 _
    obtain ⟨j, hjk, rfl⟩ := nvs_of hx
    have hgd : js.getD k 0 = j := by rw [List.getD_eq_getElem?_getD, hjk]; rfl
    have hjob := hj j (List.mem_of_getElem? hjk)
    have hkl := (List.getElem?_eq_some_iff.mp hjk).1
    have hO5 := hO.mono (p1.trans e5)
    have h25 := e5 _ _ (p2 _ _ h2)
    refine s_when (b := good k) (et_is (et_and (et_not (et_val (ev_call (ea_cons (ev_var rfl) (ea_cons (ev_var rfl) ea_nil)) v_has))) fun _ => et_val (ev_call (ea_cons (ev_var rfl) (ea_cons (ev_var rfl) (ea_cons (ev_var rfl) ea_nil))) (v_is_at_hand hO5 ok (sq_of h25) hjob))) (by rw [← hgd])) (fun hb H6 e6 => ?_) (fun hb H6 e6 => ?_)
    · have hO6 := hO5.mono e6
      refine s_appU (xs := ps.map V.ref) (ys := [nv k, nv (dayAt s hd js m k)]) (e6 _ _ (e5 _ _ p3)) (ev_var rfl) (eu_tup (ea_cons (ev_var rfl) (ea_cons (ev_is (ev_call (ea_cons (ev_var rfl) (ea_cons (ev_var rfl) (ea_cons (ev_add (ev_var rfl) (ev_call (ea_cons (ev_var rfl) (ea_cons (ev_var rfl) ea_nil)) (v_work_of hO6 ok hjob))) ea_nil))) (v_day_after hO6 hd0 hd1)) ?_) ea_nil)) (by decide : 2 ≤ 100000)) (by rw [List.length_map]; omega) fun t H7 ht e7 h7 => ?_
      · unfold dayAt
        rw [hgd, Nat.add_assoc]
      · have hne : t ≠ f := by
          rintro rfl
          rw [e6 _ _ (e5 _ _ p3)] at ht
          cases ht
        have px := ((p1.trans e5).trans e6).trans e7
        have px2 := ((p2.trans e5).trans e6).trans e7
        refine ⟨Ex.mut px (fresh_back (e1.trans (e2.trans e3)) hf), Ex.mut px2 (fresh_back e3 hf), ⟨ps ++ [t], ?_, ?_, ?_⟩, _, _, rfl⟩
        · rw [upd_same, List.map_append]; rfl
        · rw [range_yes _ hb]
          exact Paired.snoc ((p4.mono (e5.trans (e6.trans e7))).put (e7 _ _ (e6 _ _ (e5 _ _ p3)))) (by rw [upd_ne hne]; exact h7)
        · rw [List.length_append]; simp; omega
    · refine ⟨(p1.trans e5).trans e6, (p2.trans e5).trans e6, ⟨ps, e6 _ _ (e5 _ _ p3), ?_, by omega⟩, _, _, rfl⟩
      rw [range_no _ hb]
      exact p4.mono (e5.trans e6)
  · rintro σ' H' ⟨p1, p2, ⟨ps, p3, p4, p5⟩, v, w, rfl⟩
    refine s_ret (ev_var rfl) fun H5 e5 => q f ps H5 (fresh_back (e1.trans (e2.trans e3)) hf) (p1.trans e5) (e5 _ _ p3) ?_
    have : stepTs s hd js m = ((List.range (nvs js).length).filter good).map fun i => [nv i, nv (dayAt s hd js m i)] := by
      rw [nvs_len]
      rfl
    rw [this]
    exact p4.mono e5
theorem v_steps_from {H : Hp} {A : OA} {s : Office} {hd : Nat} {l : Addr} {js : List Nat} {m : Nat} (hO : OffAt K H A s) (ok : Ok s) (h0 : 0 < hd) (h1 : hd ≤ 24) (hl : SqL K H l (nvs js)) (hj : ∀ j ∈ js, s.isJob j = true) (hz : js.length ≤ 10) : SpTs (sp_steps_from K) [.ref A.o, nv hd, .ref l, nv m] H (stepTs s hd js m) :=
  fun H1 e Q q E => ⟨A, s, hd, l, js, m, rfl, hO.mono e, ok, h0, h1, ex_l e hl, hj, hz, q⟩
end
end Sc
end

section
set_option Elab.async false
set_option linter.all false
set_option maxRecDepth 100000
set_option maxHeartbeats 4000000
namespace Sc
open PySem PySem.Spec PyProof.Rows L2 Evl
section
variable {K : PySem.W.Frag} {σ : L2.St} {H H' : Hp} {ta tb tc te tl : TE} {t u : TT} {g : TG} {vs : List Nat} {a p : Addr} {xs ws : List V} {D : Ends} {tu tz : TS} {v x y : V}
/-- over a list of tuples, by what they tell -/
theorem el_lcTB {β : Type} {is : List Nat} (l : List β) (gt : β → List V) (p : β → Bool) (v : β → V) {ps : List Addr} (h : Ev tl σ H (.ref a)) (hx : SqL K H a (ps.map V.ref)) (hts : Tups H ps (l.map gt)) (hz : l.length ≤ 40000)
    (hn : ∀ b ∈ l, (gt b).length = is.length) (hw : ∀ t, t.length = is.length → wipe (setAll (wipe σ vs) is t) vs = wipe σ vs)
    (ht : ∀ x ∈ l, ∀ H1, Ex H H1 → EvT t (setAll (wipe σ vs) is (gt x)) H1 (p x)) (he : ∀ x ∈ l, ∀ H1, Ex H H1 → p x = true → Ev te (setAll (wipe σ vs) is (gt x)) H1 (v x)) :
    EvL (tLc (iList K tl) (gTup K is.length (gNames is)) t te vs) σ H ((l.filter p).map v) := by
  have hl : (ps.map V.ref).length = l.length := by rw [List.length_map, paired_len hts, List.length_map]
  rw [← pick_plain, ← given_pick, ← hl]
  refine el_lc (K := K) (a := a) _ _ (by rw [hl]; exact hz) (it_list h hx) fun k x hk H1 e => ?_
  obtain ⟨q, hq, rfl⟩ := refs_get1 hk
  obtain ⟨b', hb', hqt⟩ := paired_at1 hts hq
  rw [List.getElem?_map] at hb'
  obtain ⟨b, hb, rfl⟩ := Option.map_eq_some_iff.mp hb'
  have e1 : atF l (fun _ b => p b) k = p b := by unfold atF; rw [hb]
  have e2 : atV l (fun _ b => v b) k = v b := by unfold atV; rw [hb]
  have hm := List.mem_of_getElem? hb
  refine ⟨setAll (wipe σ vs) is (gt b), fun Q q' => gTup_ok (SqT.of (e _ _ hqt)) (hn b hm) q', hw _ (hn b hm), ?_, fun hf => ?_⟩
  · rw [e1]; exact ht b hm H1 e
  · rw [e2]
    rw [e1] at hf
    exact he b hm H1 e hf
theorem el_lcTBN {β : Type} {is : List Nat} (l : List β) (gt : β → List V) (p : β → Bool) (v : β → V) (h : EvTs tl σ H (l.map gt)) (hz : l.length ≤ 40000)
    (hn : ∀ b ∈ l, (gt b).length = is.length) (hw : ∀ t, t.length = is.length → wipe (setAll (wipe σ vs) is t) vs = wipe σ vs)
    (ht : ∀ x ∈ l, ∀ H1, Ex H H1 → EvT t (setAll (wipe σ vs) is (gt x)) H1 (p x)) (he : ∀ x ∈ l, ∀ H1, Ex H H1 → p x = true → Ev te (setAll (wipe σ vs) is (gt x)) H1 (v x)) :
    EvL (tLc (iList K tl) (gTup K is.length (gNames is)) t te vs) σ H ((l.filter p).map v) := fun H0 e Q q =>
  h H0 e _ fun a ps H1 ha e1 h1 h2 => by
    have key := el_lcTB (K := K) (σ := σ) (tl := fun _ H Q => Q (.ref a) H) (te := te) (t := t) (vs := vs) (H := H1) l gt p v (fun H2 _ Q q => q H2 (Ex.refl _)) (sq_of h1) h2 hz hn hw (fun x hx H2 e2 => ht x hx H2 ((e.trans e1).trans e2)) (fun x hx H2 e2 hp => he x hx H2 ((e.trans e1).trans e2) hp)
    have := key H1 (Ex.refl _) Q fun p H2 hp e2 h3 => q p H2 (fresh_back e1 hp) (e1.trans e2) h3
    exact this
theorem el_lcTAN {β : Type} {is : List Nat} (l : List β) (gt : β → List V) (v : β → V) (h : EvTs tl σ H (l.map gt)) (hz : l.length ≤ 40000)
    (hn : ∀ b ∈ l, (gt b).length = is.length) (hw : ∀ t, t.length = is.length → wipe (setAll (wipe σ vs) is t) vs = wipe σ vs)
    (he : ∀ x ∈ l, ∀ H1, Ex H H1 → Ev te (setAll (wipe σ vs) is (gt x)) H1 (v x)) :
    EvL (tLc (iList K tl) (gTup K is.length (gNames is)) tYes te vs) σ H (l.map v) := by
  have := el_lcTBN (K := K) (te := te) (t := tYes) (σ := σ) (vs := vs) l gt (fun _ => true) v h hz hn hw (fun _ _ _ _ => et_yes) (fun x hx H1 e _ => he x hx H1 e)
  rwa [List.filter_eq_self.mpr (fun _ _ => rfl)] at this
/-- a loop over a new list of tuples -/
theorem s_forTN {β : Type} {is : List Nat} (l : List β) (gt : β → List V) (h : EvTs tl σ H (l.map gt)) (hn : ∀ b ∈ l, (gt b).length = is.length) (Pv : Addr → List Addr → Nat → L2.St → Hp → Prop)
    (h0 : ∀ p ps H1, H p = none → Ex H H1 → H1 p = some (.lst (ps.map V.ref)) → Tups H1 ps (l.map gt) → Pv p ps 0 σ H1) (hG : ∀ p ps i σ' H', Pv p ps i σ' H' → SqL K H' p (ps.map V.ref) ∧ Tups H' ps (l.map gt))
    (hs : ∀ p ps i b σ' H', l[i]? = some b → Pv p ps i σ' H' → tu { D with nx := Pv p ps (i + 1), ct := Pv p ps (i + 1), bk := D.nx } (setAll σ' is (gt b)) H')
    (hd : ∀ p ps σ' H', Pv p ps l.length σ' H' → D.nx σ' H') : tFor (iList K tl) (gTup K is.length (gNames is)) tu D σ H :=
  h H (Ex.refl H) _ fun p ps H1 hp e h1 h2 => by
    have hl : (ps.map V.ref).length = l.length := by rw [List.length_map, paired_len h2, List.length_map]
    refine ⟨p, rfl, ⟨_, sq_of h1⟩, for_list (xs := ps.map V.ref) (Pv p ps) (h0 p ps H1 hp e h1 h2) (fun i σ' H' _ P => (hG p ps i σ' H' P).1) (fun i x σ' H' hx P => ?_) (fun σ' H' P => hd p ps σ' H' (by rw [hl] at P; exact P))⟩
    obtain ⟨q, hq, rfl⟩ := refs_get1 hx
    obtain ⟨b', hb', hqt⟩ := paired_at1 (hG p ps i σ' H' P).2 hq
    rw [List.getElem?_map] at hb'
    obtain ⟨b, hb, rfl⟩ := Option.map_eq_some_iff.mp hb'
    exact gTup_ok (SqT.of hqt) (hn b (List.mem_of_getElem? hb)) (hs p ps i b σ' H' hb P)
/-- a loop over a list of tuples that stands -/
theorem s_forTB {β : Type} {is : List Nat} (l : List β) (gt : β → List V) {ps : List Addr} (h : Ev tl σ H (.ref a)) (hx : SqL K H a (ps.map V.ref)) (hts : Tups H ps (l.map gt)) (hn : ∀ b ∈ l, (gt b).length = is.length) (Pv : Nat → L2.St → Hp → Prop)
    (h0 : ∀ H1, Ex H H1 → Pv 0 σ H1) (hG : ∀ i σ' H', Pv i σ' H' → SqL K H' a (ps.map V.ref) ∧ Tups H' ps (l.map gt))
    (hs : ∀ i b σ' H', l[i]? = some b → Pv i σ' H' → tu { D with nx := Pv (i + 1), ct := Pv (i + 1), bk := D.nx } (setAll σ' is (gt b)) H')
    (hd : ∀ σ' H', Pv l.length σ' H' → D.nx σ' H') : tFor (iList K tl) (gTup K is.length (gNames is)) tu D σ H := by
  have hl : (ps.map V.ref).length = l.length := by rw [List.length_map, paired_len hts, List.length_map]
  refine s_forL (K := K) h hx Pv h0 (fun i σ' H' _ P => (hG i σ' H' P).1) (fun i x σ' H' hx P => ?_) (fun σ' H' P => hd σ' H' (by rw [hl] at P; exact P))
  obtain ⟨q, hq, rfl⟩ := refs_get1 hx
  obtain ⟨b', hb', hqt⟩ := paired_at1 (hG i σ' H' P).2 hq
  rw [List.getElem?_map] at hb'
  obtain ⟨b, hb, rfl⟩ := Option.map_eq_some_iff.mp hb'
  exact gTup_ok (SqT.of hqt) (hn b (List.mem_of_getElem? hb)) (hs i b σ' H' hb P)
theorem ev_minN {l : List Nat} (hne : l ≠ []) (ha : Ev ta σ H (.ref a)) (hx : SqL K H a (nvs l)) : Ev (tCB (rMin K) (tCons ta tNil)) σ H (nv (minL l)) := fun H1 e Q q => ha H1 e _ fun H2 e2 => by
  obtain ⟨h1, h2⟩ := minL_ok hne
  refine ⟨a, l.map fun (n : Nat) => (n : Int), rfl, ?_, ?_, fun m hm hle => ?_⟩
  · have := ex_l (e.trans e2) hx
    unfold nvs at this
    rw [List.map_map]
    exact this
  · rw [List.length_map]
    exact List.length_pos_iff.mpr hne
  · obtain ⟨k, hk, rfl⟩ := List.mem_map.mp hm
    have := hle _ (List.mem_map.mpr ⟨_, h1, rfl⟩)
    have := h2 k hk
    have : k = minL l := by omega
    rw [this]
    exact q H2 e2
theorem ev_neg {i : Int} (ha : Ev ta σ H (.int i)) : Ev (tUn (rU fun i => .int (-i)) ta) σ H (.int (-i)) := ev_un ha ru_neg
theorem findSome_at {β : Type} {f : Nat → Option β} {n m : Nat} {x : β} (hm : m < n) (h : ∀ j, j < m → f j = none) (hx : f m = some x) : (List.range n).findSome? f = some x := by
  rw [List.findSome?_eq_some_iff]
  refine ⟨List.range m, m, (List.range n).drop (m + 1), ?_, hx, fun j hj => h j (List.mem_range.mp hj)⟩
  have h1 := (List.take_append_drop (m + 1) (List.range n)).symm
  rw [List.take_range, Nat.min_eq_left (by omega), List.range_succ, List.append_assoc] at h1
  exact h1
theorem findSome_none {β : Type} {f : Nat → Option β} {n : Nat} (h : ∀ j, j < n → f j = none) : (List.range n).findSome? f = none := by
  rw [List.findSome?_eq_none_iff]
  exact fun j hj => h j (List.mem_range.mp hj)
end
end Sc
end

section
set_option Elab.async false
set_option linter.all false
set_option maxRecDepth 100000
set_option maxHeartbeats 4000000
namespace Sc
open PySem PySem.Spec PyProof.Rows L2 Evl
open TimStorm (Office Way Wood Table Beetle)
def sp_least_losses (K : PySem.W.Frag) : Sp := fun vs H Q _ => ∃ (A : OA) (s : Office) (hd : Nat) (l : Addr), vs = [.ref A.o, nv hd, .ref l] ∧ OffAt K H A s ∧ Ok s ∧ 1 ≤ hd ∧ hd ≤ 24 ∧ SqL K H l (nvs s.left) ∧ RetL (nvs (losses (wh s hd) s.left)) H Q
def sp_first_best_step (K : PySem.W.Frag) : Sp := fun vs H Q _ => ∃ (A : OA) (s : Office) (l r : Addr) (m : Nat), vs = [.ref A.o, .ref l, .ref r, nv m] ∧ OffAt K H A s ∧ Ok s ∧ SqL K H l (nvs s.left) ∧ SqL K H r (nvs (losses s s.left)) ∧ m < 2 ^ s.left.length ∧ s.nexts s.left m ≠ [] ∧ RetV (nv (firstBest s s.left m)) H Q
/-- a tuple of a number and a new list of numbers -/
def RetNL (n : Nat) (l : List Nat) (H : Hp) (Q : VK) : Prop := ∀ p o H2, Ex H H2 → H2 p = some (.tup [nv n, .ref o]) → H2 o = some (.lst (nvs l)) → Q (.ref p) H2
def sp_best_order (K : PySem.W.Frag) : Sp := fun vs H Q _ => ∃ (A : OA) (s : Office), vs = [.ref A.o] ∧ OffAt K H A s ∧ Ok s ∧ RetNL s.best.1 s.best.2 H Q
def faultV (x : Option (Nat × Nat)) : List V := match x with
  | some y => [nv y.1, nv y.2]
  | none => []
def sp_first_fault (K : PySem.W.Frag) : Sp := fun vs H Q _ => ∃ (A : OA) (s : Office) (l r : Addr) (zs : List Int), vs = [.ref A.o, .ref l, .ref r] ∧ OffAt K H A s ∧ Ok s ∧ SqL K H l (nvs s.left) ∧ SqL K H r (zs.map V.int) ∧ zs.length = 2 ^ s.left.length ∧ RetL (faultV (s.fault s.left zs)) H Q
def sp_tried (K : PySem.W.Frag) : Sp := fun vs H Q _ => ∃ (A : OA) (s : Office) (r : Addr) (js : List Nat), vs = [.ref A.o, .ref r] ∧ OffAt K H A s ∧ Ok s ∧ SqL K H r (nvs js) ∧ js.length ≤ 40 ∧ RetL ((triedNums s js).map V.int) H Q
theorem sc_least_losses : FnScope ["office", "hours_a_day", "jobs", "losses", "members", "ways_on", "at", "day"] ["office", "hours_a_day", "jobs"] (defScope s_least_losses) := C8.fnScope_by (by decide +kernel)
def t_least_losses (K : PySem.W.Frag) : TS :=
  (tSeq (tAsg (tOp rRep (tLst (tCons (tC (.int 0)) tNil)) (tCall (sp_how_many_sets K) [] C8.E0 (tCons (tVar 2) tNil))) (gName 3))
    (tSeq (tFor (iRng3 (tCons (tOp rSubI (tCall (sp_how_many_sets K) [] C8.E0 (tCons (tVar 2) tNil)) (tC (.int 2))) (tCons (tUn (rU fun i => .int (-i)) (tC (.int 1))) (tCons (tUn (rU fun i => .int (-i)) (tC (.int 1))) tNil)))) (gName 4) (tSeq (tAsg (tLc (iList K (tCall (sp_steps_from K) [] C8.E0 (tCons (tVar 0) (tCons (tVar 1) (tCons (tVar 2) (tCons (tVar 4) tNil)))))) (gTup K 2 (gCons (gName 6) (gCons (gName 7) gNil))) tYes (tOp rAddI (tCall (sp_loss_of K) [] C8.E0 (tCons (tVar 0) (tCons (tOp (rIxL K) (tVar 2) (tVar 6)) (tCons (tVar 7) tNil)))) (tOp (rIxL K) (tVar 3) (tCall (sp_joined K) [] C8.E0 (tCons (tVar 4) (tCons (tVar 6) tNil))))) [6, 7]) (gName 5))
    (tAsg (tCB (rMin K) (tCons (tVar 5) tNil)) (gSub (tVar 3) (tVar 4) rSetL))))
    (tRet (tVar 3))))
theorem sc_first_best_step : FnScope ["office", "jobs", "losses", "members", "steps", "best", "at", "day"] ["office", "jobs", "losses", "members"] (defScope s_first_best_step) := C8.fnScope_by (by decide +kernel)
def t_first_best_step (K : PySem.W.Frag) : TS :=
  (tSeq (tAsg (tCall (sp_steps_from K) [] C8.E0 (tCons (tVar 0) (tCons (tFld K (tVar 0) "hours_a_day") (tCons (tVar 1) (tCons (tVar 3) tNil))))) (gName 4))
    (tSeq (tAsg (tLc (iList K (tVar 4)) (gTup K 2 (gCons (gName 6) (gCons (gName 7) gNil))) (tTest (tOp rEq (tOp rAddI (tCall (sp_loss_of K) [] C8.E0 (tCons (tVar 0) (tCons (tOp (rIxL K) (tVar 1) (tVar 6)) (tCons (tVar 7) tNil)))) (tOp (rIxL K) (tVar 2) (tCall (sp_joined K) [] C8.E0 (tCons (tVar 3) (tCons (tVar 6) tNil))))) (tOp (rIxL K) (tVar 2) (tVar 3)))) (tVar 6) [6, 7]) (gName 5))
    (tRet (tOp (rIxL K) (tVar 5) (tC (.int 0))))))
theorem sc_best_order : FnScope ["office", "jobs", "losses", "order", "members", "turn", "at"] ["office"] (defScope s_best_order) := C8.fnScope_by (by decide +kernel)
def t_best_order (K : PySem.W.Frag) : TS :=
  (tSeq (tAsg (tCall (sp_left_jobs K) [] C8.E0 (tCons (tVar 0) tNil)) (gName 1))
    (tSeq (tAsg (tCall (sp_least_losses K) [] C8.E0 (tCons (tVar 0) (tCons (tFld K (tVar 0) "hours_a_day") (tCons (tVar 1) tNil)))) (gName 2))
    (tSeq (tAsg (tLst tNil) (gName 3))
    (tSeq (tAsg (tC (.int 0)) (gName 4))
    (tSeq (tFor (iRng1 (tCons (tCB (rLenS K) (tCons (tVar 1) tNil)) tNil)) (gName 5) (tSeq (tAsg (tCall (sp_first_best_step K) [] C8.E0 (tCons (tVar 0) (tCons (tVar 1) (tCons (tVar 2) (tCons (tVar 4) tNil))))) (gName 6))
    (tSeq (tDrop (tBM K "list" rAppend (tVar 3) (tCons (tOp (rIxL K) (tVar 1) (tVar 6)) tNil)))
    (tAsg (tCall (sp_joined K) [] C8.E0 (tCons (tVar 4) (tCons (tVar 6) tNil))) (gName 4)))))
    (tRet (tTup (tCons (tOp (rIxL K) (tVar 2) (tC (.int 0))) (tCons (tVar 3) tNil)))))))))
theorem sc_first_fault : FnScope ["office", "jobs", "row", "members", "at", "day"] ["office", "jobs", "row"] (defScope s_first_fault) := C8.fnScope_by (by decide +kernel)
def t_first_fault (K : PySem.W.Frag) : TS :=
  (tSeq (tFor (iRng1 (tCons (tCall (sp_how_many_sets K) [] C8.E0 (tCons (tVar 1) tNil)) tNil)) (gName 3) (tFor (iList K (tCall (sp_steps_from K) [] C8.E0 (tCons (tVar 0) (tCons (tFld K (tVar 0) "hours_a_day") (tCons (tVar 1) (tCons (tVar 3) tNil)))))) (gTup K 2 (gCons (gName 4) (gCons (gName 5) gNil))) (tIfS (tTest (tOp rGtI (tOp (rIxL K) (tVar 2) (tVar 3)) (tOp rAddI (tCall (sp_loss_of K) [] C8.E0 (tCons (tVar 0) (tCons (tOp (rIxL K) (tVar 1) (tVar 4)) (tCons (tVar 5) tNil)))) (tOp (rIxL K) (tVar 2) (tCall (sp_joined K) [] C8.E0 (tCons (tVar 3) (tCons (tVar 4) tNil))))))) (tRet (tLst (tCons (tVar 3) (tCons (tOp (rIxL K) (tVar 1) (tVar 4)) tNil)))) tNext)))
    (tRet (tLst tNil)))
theorem sc_tried : FnScope ["office", "row", "jobs_done", "lost", "at", "job", "refusal"] ["office", "row"] (defScope s_tried) := C8.fnScope_by (by decide +kernel)
def t_tried (K : PySem.W.Frag) : TS :=
  (tSeq (tAsg (tCB (rListS K) (tCons (tFld K (tVar 0) "jobs_done") tNil)) (gName 2))
    (tSeq (tAsg (tC (.int 0)) (gName 3))
    (tSeq (tFor (iEnum K (tCons (tVar 1) tNil)) (gTup K 2 (gCons (gName 4) (gCons (gName 5) gNil))) (tSeq (tAsg (tCall (sp_hindrance K) [] C8.E0 (tCons (tVar 0) (tCons (tVar 2) (tCons (tVar 5) tNil)))) (gName 6))
    (tSeq (tIfS (tTest (tOp rLt (tVar 6) (tC (.int 0)))) (tRet (tLst (tCons (tC (.int 1)) (tCons (tVar 4) (tCons (tUn (rU fun i => .int (-i)) (tVar 6)) tNil))))) tNext)
    (tSeq (tDrop (tBM K "list" rAppend (tVar 2) (tCons (tVar 5) tNil)))
    (tAug 3 (tCall (sp_loss_of K) [] C8.E0 (tCons (tVar 0) (tCons (tVar 5) (tCons (tCall (sp_day_after K) [] C8.E0 (tCons (tVar 0) (tCons (tFld K (tVar 0) "hours_a_day") (tCons (tCall (sp_hours_of K) [] C8.E0 (tCons (tVar 0) (tCons (tVar 2) tNil))) tNil)))) tNil)))) (ipI fun i j => i + j))))))
    (tRet (tLst (tCons (tC (.int 0)) (tCons (tVar 3) (tCons (tCall (sp_day_after K) [] C8.E0 (tCons (tVar 0) (tCons (tFld K (tVar 0) "hours_a_day") (tCons (tCall (sp_hours_of K) [] C8.E0 (tCons (tVar 0) (tCons (tVar 2) tNil))) tNil)))) tNil))))))))
theorem left_job {s : Office} (ok : Ok s) {i : Nat} (hi : i < s.left.length) : s.isJob (s.left.getD i 0) = true := ((mem_left ok).mp (List.mem_of_getElem? (get_of_lt hi))).1
theorem wh_step (s : Office) (hd : Nat) (l : List Nat) (m i : Nat) : (wh s hd).stepLoss l m i = lossAt s (l.getD i 0) (dayAt s hd l m i) := rfl
theorem step_at (s : Office) (l : List Nat) (m i : Nat) : s.stepLoss l m i = lossAt s (l.getD i 0) (dayAt s s.hours l m i) := rfl
theorem nexts_len (s : Office) (l : List Nat) (m : Nat) : (s.nexts l m).length ≤ l.length := by
  unfold Office.nexts
  exact Nat.le_trans (List.length_filter_le _ _) (by rw [List.length_range]; exact Nat.le_refl _)
theorem pow_left {s : Office} (ok : Ok s) : 2 ^ s.left.length ≤ 1024 := Nat.le_trans (Nat.pow_le_pow_right (by decide) (left_len ok)) (by decide)
section
variable {K : PySem.W.Frag} {mg : Str → Option Value}
theorem p_least_losses (T : Top K mg) (vs : List V) (H : Hp) (Q : VK) (E : XK) (h : sp_least_losses K vs H Q E) : t_least_losses K { nx := fun _ H' => Q .non H', rt := Q } (start ["office", "hours_a_day", "jobs", "losses", "members", "ways_on", "at", "day"] vs) H := by
  obtain ⟨A, s, hd, l, rfl, hO, ok, h1, h24, hl, q⟩ := h
  have hpw := pow_left ok
  have hpos : 0 < 2 ^ s.left.length := Nat.two_pow_pos _
  have hjob : ∀ j ∈ s.left, s.isJob j = true := fun j hj => ((mem_left ok).mp hj).1
  have okw : Ok (wh s hd) := ok.wh h1 h24
  refine q_asgL (el_rep (n := 2 ^ s.left.length) (el_lst (ea_cons ev_c ea_nil) (by decide : 1 ≤ 100000)) (ev_call (ea_cons (ev_var rfl) ea_nil) (v_how_many_sets hl (by have := left_len ok; omega))) (by omega)) fun r H1 hr e1 hr1 => ?_
  have hr1' : H1 r = some (.lst (nvs (lossRun (wh s hd) s.left 0))) := by
    rw [hr1]
    unfold lossRun nvs
    rw [List.map_replicate]
    rfl
  refine q_forDown (m := 2 ^ s.left.length - 1) (ea_cons (ev_is (ev_subI (ev_call (ea_cons (ev_var rfl) ea_nil) (v_how_many_sets (ex_l e1 hl) (by have := left_len ok; omega))) ev_c) (congrArg V.int (by omega))) (ea_cons (ev_neg ev_c) (ea_cons (ev_neg ev_c) ea_nil))) (by omega)
    (fun k σ' H' => Ex H H' ∧ H' r = some (.lst (nvs (lossRun (wh s hd) s.left k))) ∧ ∃ v w x y, σ' = [some (.ref A.o), some (nv hd), some (.ref l), some (.ref r), v, w, x, y])
    (fun H2 e2 => ⟨e1.trans e2, e2 _ _ hr1', none, none, none, none, rfl⟩) ?_ ?_
  · rintro k σ' H' hk ⟨e2, hR, v, w, x, y, rfl⟩
    have hO2 := hO.mono e2
    have hm : 2 ^ s.left.length - 1 - 1 - k < 2 ^ s.left.length := by omega
    have hne : s.nexts s.left (2 ^ s.left.length - 1 - 1 - k) ≠ [] := nexts_ne ok hm (by omega)
    generalize hmm : 2 ^ s.left.length - 1 - 1 - k = mm at hm hne
    have hms : mm = 2 ^ s.left.length - 2 - k := by omega
    have hll := lossRun_len (wh s hd) s.left k
    refine q_asgL (el_lcTAN (is := [6, 7]) (s.nexts s.left mm) (fun i => [nv i, nv (dayAt s hd s.left mm i)]) (fun i => nv ((wh s hd).stepLoss s.left mm i + (lossRun (wh s hd) s.left k).getD (mm + 2 ^ i) 0)) (ets_call (ea_cons (ev_var rfl) (ea_cons (ev_var rfl) (ea_cons (ev_var rfl) (ea_cons (ev_var rfl) ea_nil)))) (v_steps_from (m := mm) hO2 ok h1 h24 (ex_l e2 hl) hjob (left_len ok)))
      (by have := nexts_len s s.left mm; have := left_len ok; omega) (fun _ _ => rfl) (fun t ht => ?_) (fun i hi H3 e3 => ?_)) fun o H3 ho e3 h3 => ?_
    · match t, ht with
      | [a, b], _ => rfl
    · obtain ⟨g1, g2, _⟩ := mem_nexts.mp hi
      have hO3 := hO2.mono e3
      have hl10 := left_len ok
      have hadd := add_bit hm g1 g2
      rw [wh_step]
      exact ev_add (ev_call (ea_cons (ev_var rfl) (ea_cons (ev_ix (ev_var rfl) (ex_l (e2.trans e3) hl) (ev_var rfl) (nvs_at (get_of_lt g1))) (ea_cons (ev_var rfl) ea_nil))) (v_loss_of hO3 ok (left_job ok g1)))
        (ev_ix (ev_var rfl) (sq_of (e3 _ _ hR)) (ev_call (ea_cons (ev_var rfl) (ea_cons (ev_var rfl) ea_nil)) (v_joined g2 (by omega))) (nvs_at (get_of_lt (by rw [hll]; exact hadd))))
    · have h3' : H3 o = some (.lst (nvs ((s.nexts s.left mm).map fun i => (wh s hd).stepLoss s.left mm i + (lossRun (wh s hd) s.left k).getD (mm + 2 ^ i) 0))) := by
        rw [h3]
        unfold nvs
        rw [List.map_map]
        rfl
      refine s_setL (e3 _ _ hR) (ev_minN (by simpa using hne) (ev_var rfl) (sq_of h3')) (ev_var rfl) (ev_var rfl) (by rw [nvs_len, hll]; exact hm) fun H4 e4 => ?_
      refine ⟨Ex.mut ((e2.trans e3).trans e4) hr, ?_, _, _, _, _, rfl⟩
      rw [upd_same]
      show _ = some (HO.lst (nvs (lossStep (wh s hd) s.left (lossRun (wh s hd) s.left k) (2 ^ s.left.length - 2 - k))))
      unfold lossStep
      rw [nexts_wh, ← hms]
      unfold nvs
      rw [List.map_set]
  · rintro σ' H' ⟨e2, hR, v, w, x, y, rfl⟩
    exact s_ret (ev_var rfl) fun H3 e3 => q r H3 hr (e2.trans e3) (e3 _ _ hR)
theorem v_least_losses {H : Hp} {A : OA} {s : Office} {hd : Nat} {l : Addr} (hO : OffAt K H A s) (ok : Ok s) (h1 : 1 ≤ hd) (h24 : hd ≤ 24) (hl : SqL K H l (nvs s.left)) : SpL (sp_least_losses K) [.ref A.o, nv hd, .ref l] H (nvs (losses (wh s hd) s.left)) := fun H1 e Q q E => ⟨A, s, hd, l, rfl, hO.mono e, ok, h1, h24, ex_l e hl, q⟩
theorem v_losses {H : Hp} {A : OA} {s : Office} {l : Addr} (hO : OffAt K H A s) (ok : Ok s) (hl : SqL K H l (nvs s.left)) : SpL (sp_least_losses K) [.ref A.o, nv s.hours, .ref l] H (nvs (losses s s.left)) := v_least_losses hO ok ok.h1 ok.h24 hl
theorem p_first_best_step (T : Top K mg) (vs : List V) (H : Hp) (Q : VK) (E : XK) (h : sp_first_best_step K vs H Q E) : t_first_best_step K { nx := fun _ H' => Q .non H', rt := Q } (start ["office", "jobs", "losses", "members", "steps", "best", "at", "day"] vs) H := by
  obtain ⟨A, s, l, r, m, rfl, hO, ok, hl, hr, hm, hne, q⟩ := h
  have hjob : ∀ j ∈ s.left, s.isJob j = true := fun j hj => ((mem_left ok).mp hj).1
  have hll := losses_len s s.left
  have hl10 := left_len ok
  refine q_asgTs (ets_call (ea_cons (ev_var rfl) (ea_cons (ev_hours_a_day T hO (ev_var rfl)) (ea_cons (ev_var rfl) (ea_cons (ev_var rfl) ea_nil)))) (v_steps_from (m := m) hO ok ok.h1 ok.h24 hl hjob hl10)) fun p ps H1 hp e1 h1 h2 => ?_
  refine q_asgL (el_lcTB (is := [6, 7]) (s.nexts s.left m) (fun i => [nv i, nv (dayAt s s.hours s.left m i)]) (fun i => decide (s.stepLoss s.left m i + (P s s.left (m + 2 ^ i)).1 = (P s s.left m).1)) nv (ev_var rfl) (sq_of h1) h2
    (by have := nexts_len s s.left m; omega) (fun _ _ => rfl) (fun t ht => ?_) (fun i hi H2 e2 => ?_) (fun i hi H2 e2 _ => ev_var rfl)) fun o H2 ho e2 h3 => ?_
  · match t, ht with
    | [a, b], _ => rfl
  · obtain ⟨g1, g2, _⟩ := mem_nexts.mp hi
    have e12 := e1.trans e2
    have hO2 := hO.mono e12
    have hadd := add_bit hm g1 g2
    rw [step_at, ← losses_at ok hadd, ← losses_at ok hm]
    exact et_test (ev_eqN (ev_add (ev_call (ea_cons (ev_var rfl) (ea_cons (ev_ix (ev_var rfl) (ex_l e12 hl) (ev_var rfl) (nvs_at (get_of_lt g1))) (ea_cons (ev_var rfl) ea_nil))) (v_loss_of hO2 ok (left_job ok g1)))
      (ev_ix (ev_var rfl) (ex_l e12 hr) (ev_call (ea_cons (ev_var rfl) (ea_cons (ev_var rfl) ea_nil)) (v_joined g2 (by omega))) (nvs_at (get_of_lt (by rw [hll]; exact hadd)))))
      (ev_ix (ev_var rfl) (ex_l e12 hr) (ev_var rfl) (nvs_at (get_of_lt (by rw [hll]; exact hm)))))
  · have hb := best_ne hm hne
    refine s_ret (ev_ix (j := 0) (ev_var rfl) (sq_of h3) (ev_nat 0 rfl) (?_ : _ = some (nv (firstBest s s.left m)))) fun H3 e3 => q H3 ((e1.trans e2).trans e3)
    unfold firstBest
    generalize (s.nexts s.left m).filter _ = z at hb
    cases z with
    | nil => exact absurd rfl hb
    | cons a z => rfl
theorem v_first_best_step {H : Hp} {A : OA} {s : Office} {l r : Addr} {m : Nat} (hO : OffAt K H A s) (ok : Ok s) (hl : SqL K H l (nvs s.left)) (hr : SqL K H r (nvs (losses s s.left))) (hm : m < 2 ^ s.left.length) (hne : s.nexts s.left m ≠ []) : SpV (sp_first_best_step K) [.ref A.o, .ref l, .ref r, nv m] H (nv (firstBest s s.left m)) :=
  fun H1 e Q q E => ⟨A, s, l, r, m, rfl, hO.mono e, ok, ex_l e hl, ex_l e hr, hm, hne, q⟩
theorem p_best_order (T : Top K mg) (vs : List V) (H : Hp) (Q : VK) (E : XK) (h : sp_best_order K vs H Q E) : t_best_order K { nx := fun _ H' => Q .non H', rt := Q } (start ["office", "jobs", "losses", "order", "members", "turn", "at"] vs) H := by
  obtain ⟨A, s, rfl, hO, ok, q⟩ := h
  have hl10 := left_len ok
  have hll := losses_len s s.left
  refine q_asgL (el_left T hO ok (ev_var rfl)) fun l H1 hl e1 h1 => ?_
  refine q_asgL (el_call (ea_cons (ev_var rfl) (ea_cons (ev_hours_a_day T (hO.mono e1) (ev_var rfl)) (ea_cons (ev_var rfl) ea_nil))) (v_losses (hO.mono e1) ok (sq_of h1))) fun r H2 hr e2 h2 => ?_
  refine q_asgL (el_lst ea_nil (by decide : 0 ≤ 100000)) fun o H3 ho e3 h3 => q_asg (ev_nat 0 rfl) fun H4 e4 => ?_
  have h14 := e4 _ _ (e3 _ _ (e2 _ _ h1))
  have h24 := e4 _ _ (e3 _ _ h2)
  have h34 := e4 _ _ h3
  have e14 := ((e1.trans e2).trans e3).trans e4
  have hlo : l ≠ o := by
    rintro rfl
    rw [e2 _ _ h1] at ho
    cases ho
  have hro : r ≠ o := by
    rintro rfl
    rw [h2] at ho
    cases ho
  refine q_forR1 (n := ((s.left.length : Nat) : Int)) (ea_cons (by have := ev_lenL (K := K) (σ := [some (.ref A.o), some (.ref l), some (.ref r), some (.ref o), some (nv 0), none, none]) (ta := tVar 1) (ev_var rfl) (sq_of h14); rwa [nvs_len] at this) ea_nil) (by omega)
    (fun t σ' H' => Ex H H' ∧ H' l = some (.lst (nvs s.left)) ∧ H' r = some (.lst (nvs (losses s s.left))) ∧ H' o = some (.lst (nvs (goB s s.left t).2)) ∧ (goB s s.left t).2.length = t ∧ ∃ v w, σ' = [some (.ref A.o), some (.ref l), some (.ref r), some (.ref o), some (nv (goB s s.left t).1), v, w])
    (fun H5 e5 => ⟨e14.trans e5, e5 _ _ h14, e5 _ _ h24, e5 _ _ h34, rfl, none, none, rfl⟩) ?_ ?_
  · rintro t σ' H' ht ⟨p1, p2, p3, p4, p5, v, w, rfl⟩
    have ht' : t < s.left.length := by omega
    obtain ⟨g1, g2, _⟩ := goB_ok ok t (by omega)
    have gne := goB_step ok ht'
    have hfb := (mem_nexts.mp (P_first (left_rise s) g1 gne).1)
    refine q_asg (ev_call (ea_cons (ev_var rfl) (ea_cons (ev_var rfl) (ea_cons (ev_var rfl) (ea_cons (ev_var rfl) ea_nil)))) (v_first_best_step (hO.mono p1) ok (sq_of p2) (sq_of p3) g1 gne)) fun H5 e5 => ?_
    refine q_app (e5 _ _ p4) (ev_var rfl) (ev_ix (ev_var rfl) (sq_of (e5 _ _ p2)) (ev_var rfl) (nvs_at (get_of_lt hfb.1))) (by rw [nvs_len, p5]; omega) fun H6 e6 => ?_
    have ho' : H o = none := fresh_back ((e1.trans e2)) ho
    refine s_asg (ev_call (ea_cons (ev_var rfl) (ea_cons (ev_var rfl) ea_nil)) (v_joined hfb.2.1 (by have := hfb.1; omega))) fun H7 e7 => ?_
    refine ⟨(Ex.mut ((p1.trans e5).trans e6) ho').trans e7, e7 _ _ (by rw [upd_ne hlo]; exact e6 _ _ (e5 _ _ p2)), e7 _ _ (by rw [upd_ne hro]; exact e6 _ _ (e5 _ _ p3)), e7 _ _ ?_, ?_, _, _, rfl⟩
    · rw [upd_same]
      show _ = some (HO.lst (nvs ((goB s s.left t).2 ++ [_])))
      rw [nvs_app]
      rfl
    · show ((goB s s.left t).2 ++ [_]).length = t + 1
      rw [List.length_append, p5]
      rfl
  · rintro σ' H' ⟨p1, p2, p3, p4, p5, v, w, rfl⟩
    rw [Int.toNat_natCast] at p4
    refine s_retU (eu_tup (ea_cons (ev_ix (j := 0) (ev_var rfl) (sq_of p3) (ev_nat 0 rfl) (nvs_at (get_of_lt (by rw [hll]; exact Nat.two_pow_pos _)))) (ea_cons (ev_var rfl) ea_nil)) (by decide : 2 ≤ 100000)) fun p H5 hp e5 h5 => ?_
    rw [best_1 ok] at h5
    refine q p o H5 (p1.trans e5) h5 ?_
    rw [e5 _ _ p4, goB_end ok]
theorem v_best_order {H : Hp} {A : OA} {s : Office} (hO : OffAt K H A s) (ok : Ok s) : ∀ H1, Ex H H1 → ∀ Q : VK, RetNL s.best.1 s.best.2 H1 Q → ∀ E : XK, sp_best_order K [.ref A.o] H1 Q E := fun H1 e Q q E => ⟨A, s, rfl, hO.mono e, ok, q⟩
end
end Sc
end

section
set_option Elab.async false
set_option linter.all false
set_option maxRecDepth 100000
set_option maxHeartbeats 4000000
namespace Sc
open PySem PySem.Spec PyProof.Rows L2 Evl
open TimStorm (Office Way Wood Table Beetle)
/-- a row says more at a set than the i-th job and what's behind it -/
def bad (s : Office) (zs : List Int) (m i : Nat) : Bool := decide ((s.stepLoss s.left m i : Int) + zs.getD (m + 2 ^ i) 0 < zs.getD m 0)
def faultAt (s : Office) (zs : List Int) (m : Nat) : Option (Nat × Nat) := ((s.nexts s.left m).find? (bad s zs m)).map fun i => (m, s.left.getD i 0)
theorem fault_eq (s : Office) (zs : List Int) : s.fault s.left zs = (List.range (2 ^ s.left.length)).findSome? (faultAt s zs) := rfl
theorem zs_at {zs : List Int} {i : Nat} (h : i < zs.length) : (zs.map V.int)[i]? = some (.int (zs.getD i 0)) := by
  rw [List.getElem?_map, List.getD_eq_getElem?_getD, List.getElem?_eq_getElem h]
  rfl
theorem find_at {α : Type} {l : List α} {p : α → Bool} {i : Nat} {b : α} (h : l[i]? = some b) (hb : p b = true) (hn : ∀ c ∈ l.take i, p c = false) : l.find? p = some b := by
  rw [List.find?_eq_some_iff_append]
  refine ⟨hb, l.take i, l.drop (i + 1), ?_, fun c hc => by rw [hn c hc]; rfl⟩
  have h1 := (List.take_append_drop i l).symm
  rw [List.drop_eq_getElem_cons (List.getElem?_eq_some_iff.mp h).1] at h1
  rw [(List.getElem?_eq_some_iff.mp h).2] at h1
  exact h1
section
variable {K : PySem.W.Frag} {mg : Str → Option Value}
theorem p_first_fault (T : Top K mg) (vs : List V) (H : Hp) (Q : VK) (E : XK) (h : sp_first_fault K vs H Q E) : t_first_fault K { nx := fun _ H' => Q .non H', rt := Q } (start ["office", "jobs", "row", "members", "at", "day"] vs) H := by
  obtain ⟨A, s, l, r, zs, rfl, hO, ok, hl, hr, hz, q⟩ := h
  have hl10 := left_len ok
  have hpw := pow_left ok
  have hjob : ∀ j ∈ s.left, s.isJob j = true := fun j hj => ((mem_left ok).mp hj).1
  rw [fault_eq] at q
  refine q_forR1 (n := ((2 ^ s.left.length : Nat) : Int)) (ea_cons (ev_call (ea_cons (ev_var rfl) ea_nil) (v_how_many_sets hl (by omega))) ea_nil) (by omega)
    (fun m σ' H' => Ex H H' ∧ (∀ j, j < m → faultAt s zs j = none) ∧ ∃ v w x, σ' = [some (.ref A.o), some (.ref l), some (.ref r), v, w, x])
    (fun H1 e1 => ⟨e1, fun j hj => absurd hj (Nat.not_lt_zero _), none, none, none, rfl⟩) ?_ ?_
  · rintro m σ' H' hm ⟨e1, hn, v, w, x, rfl⟩
    have hm' : m < 2 ^ s.left.length := by omega
    have hO1 := hO.mono e1
    refine s_forTN (K := K) (is := [4, 5]) (s.nexts s.left m) (fun i => [nv i, nv (dayAt s s.hours s.left m i)]) (ets_call (ea_cons (ev_var rfl) (ea_cons (ev_hours_a_day T hO1 (ev_var rfl)) (ea_cons (ev_var rfl) (ea_cons (ev_var rfl) ea_nil)))) (v_steps_from (m := m) hO1 ok ok.h1 ok.h24 (ex_l e1 hl) hjob hl10)) (fun _ _ => rfl)
      (fun p ps k σ'' H'' => Ex H H'' ∧ SqL K H'' p (ps.map V.ref) ∧ Tups H'' ps ((s.nexts s.left m).map fun i => [nv i, nv (dayAt s s.hours s.left m i)]) ∧ (∀ i ∈ (s.nexts s.left m).take k, bad s zs m i = false) ∧ ∃ w x, σ'' = [some (.ref A.o), some (.ref l), some (.ref r), some (nv m), w, x])
      (fun p ps H2 _ e2 h1 h2 => ⟨e1.trans e2, sq_of h1, h2, fun i hi => absurd hi (by simp), _, _, rfl⟩) (fun p ps k σ'' H'' P => ⟨P.2.1, P.2.2.1⟩) ?_ ?_
    · rintro p ps k i σ'' H'' hi ⟨p1, p2, p3, p4, w, x, rfl⟩
      obtain ⟨g1, g2, _⟩ := mem_nexts.mp (List.mem_of_getElem? hi)
      have hadd := add_bit hm' g1 g2
      have hO2 := hO.mono p1
      refine s_when (b := bad s zs m i) (et_test (ev_gtI (ev_ix (ev_var rfl) (ex_l p1 hr) (ev_var rfl) (zs_at (by omega))) (ev_addI (ev_call (ea_cons (ev_var rfl) (ea_cons (ev_ix (ev_var rfl) (ex_l p1 hl) (ev_var rfl) (nvs_at (get_of_lt g1))) (ea_cons (ev_var rfl) ea_nil))) (by
        have := v_loss_of (j := s.left.getD i 0) (d := dayAt s s.hours s.left m i) hO2 ok (left_job ok g1)
        rw [← step_at] at this
        exact this))
        (ev_ix (ev_var rfl) (ex_l p1 hr) (ev_call (ea_cons (ev_var rfl) (ea_cons (ev_var rfl) ea_nil)) (v_joined g2 (by omega))) (zs_at (by omega)))))) (fun hb H3 e3 => ?_) (fun hb H3 e3 => ?_)
      · have hf : faultAt s zs m = some (m, s.left.getD i 0) := by
          unfold faultAt
          rw [find_at hi hb p4]
          rfl
        rw [findSome_at hm' hn hf] at q
        exact s_retL (el_lst (ea_cons (ev_var rfl) (ea_cons (ev_ix (ev_var rfl) (ex_l (p1.trans e3) hl) (ev_var rfl) (nvs_at (get_of_lt g1))) ea_nil)) (by decide : 2 ≤ 100000)) fun o H4 ho e4 h4 => q o H4 (fresh_back (p1.trans e3) ho) ((p1.trans e3).trans e4) h4
      · refine ⟨p1.trans e3, ex_l e3 p2, p3.mono e3, fun c hc => ?_, _, _, rfl⟩
        rw [take_snoc hi] at hc
        rcases List.mem_append.mp hc with hc | hc
        · exact p4 c hc
        · rw [List.mem_singleton.mp hc]; exact hb
    · rintro p ps σ'' H'' ⟨p1, p2, p3, p4, w, x, rfl⟩
      refine ⟨p1, fun j hj => ?_, _, _, _, rfl⟩
      by_cases c : j = m
      · subst c
        unfold faultAt
        rw [List.find?_eq_none.mpr (fun i hi => by rw [p4 i (by rw [List.take_length]; exact hi)]; decide)]
        rfl
      · exact hn j (by omega)
  · rintro σ' H' ⟨e1, hn, v, w, x, rfl⟩
    rw [Int.toNat_natCast] at hn
    rw [findSome_none hn] at q
    exact s_retL (el_lst ea_nil (by decide : 0 ≤ 100000)) fun o H4 ho e4 h4 => q o H4 (fresh_back e1 ho) (e1.trans e4) h4
theorem v_first_fault {H : Hp} {A : OA} {s : Office} {l r : Addr} {zs : List Int} (hO : OffAt K H A s) (ok : Ok s) (hl : SqL K H l (nvs s.left)) (hr : SqL K H r (zs.map V.int)) (hz : zs.length = 2 ^ s.left.length) : SpL (sp_first_fault K) [.ref A.o, .ref l, .ref r] H (faultV (s.fault s.left zs)) :=
  fun H1 e Q q E => ⟨A, s, l, r, zs, rfl, hO.mono e, ok, ex_l e hl, ex_l e hr, hz, q⟩
theorem p_tried (T : Top K mg) (vs : List V) (H : Hp) (Q : VK) (E : XK) (h : sp_tried K vs H Q E) : t_tried K { nx := fun _ H' => Q .non H', rt := Q } (start ["office", "row", "jobs_done", "lost", "at", "job", "refusal"] vs) H := by
  obtain ⟨A, s, r, js, rfl, hO, ok, hr, hz, q⟩ := h
  have hdl := done_len ok
  refine q_asgL (el_list (ev_jobs_done T hO (ev_var rfl)) (sq_of hO.done)) fun d H1 hd e1 h1 => q_asg (ev_nat 0 rfl) fun H2 e2 => ?_
  have e12 := e1.trans e2
  have key : ∀ k, WrtistSpec.stops s 0 s.done js = WrtistSpec.stops s k ((js.take k).reverse ++ s.done) (js.drop k) → (∀ j ∈ js.take k, s.isJob j = true) → ∀ j, js[k]? = some j → hind s (s.done.reverse ++ js.take k) j = 0 → WrtistSpec.stops s 0 s.done js = WrtistSpec.stops s (k + 1) ((js.take (k + 1)).reverse ++ s.done) (js.drop (k + 1)) := by
    intro k h _ j hj h0
    rw [h]
    have hk := (List.getElem?_eq_some_iff.mp hj)
    rw [List.drop_eq_getElem_cons hk.1, hk.2, stops_step]
    have : hind s ((js.take k).reverse ++ s.done) j = 0 := by
      rw [← h0]
      exact hind_congr ok (fun x => by simp [or_comm]) j
    rw [if_pos this, take_snoc hj, List.reverse_append]
    rfl
  refine q_forE (ea_cons (ev_var rfl) ea_nil) (ex_l e12 hr) (fun k σ' H' => Ex H H' ∧ H' d = some (.lst (nvs (s.done.reverse ++ js.take k))) ∧ WrtistSpec.stops s 0 s.done js = WrtistSpec.stops s k ((js.take k).reverse ++ s.done) (js.drop k) ∧ (∀ j ∈ js.take k, s.isJob j = true) ∧
      ∃ v w x, σ' = [some (.ref A.o), some (.ref r), some (.ref d), some (nv (s.lossFrom (s.spent s.done) (js.take k))), v, w, x])
    (fun H3 e3 => ⟨e12.trans e3, by rw [List.take_zero, List.append_nil]; exact e3 _ _ (e2 _ _ h1), rfl, fun j hj => absurd hj (by simp), none, none, none, rfl⟩) (fun k σ' H' _ P => ex_l P.1 hr) ?_ ?_
  · rintro k x σ' H' hx ⟨p1, p2, p3, p4, v, w, y, rfl⟩ H3 e3 _
    obtain ⟨j, hj, rfl⟩ := nvs_of hx
    have pe := p1.trans e3
    have hO3 := hO.mono pe
    have hkl := (List.getElem?_eq_some_iff.mp hj)
    have htl : (js.take k).length ≤ 40 := Nat.le_trans (List.length_take_le' _ _) hz
    refine q_asg (ev_call (ea_cons (ev_var rfl) (ea_cons (ev_var rfl) (ea_cons (ev_var rfl) ea_nil))) (v_hindrance hO3 ok (sq_of (e3 _ _ p2)))) fun H4 e4 => ?_
    refine q_when (et_test (ev_ltI (ev_var rfl) ev_c)) (fun hb H5 e5 => ?_) (fun hb H5 e5 => ?_)
    · have hne : hind s (s.done.reverse ++ js.take k) j ≠ 0 := by
        have := of_decide_eq_true hb
        omega
      have ht : (triedNums s js) = [1, (k : Int), (hind s (s.done.reverse ++ js.take k) j : Int)] := by
        unfold triedNums
        rw [p3, List.drop_eq_getElem_cons hkl.1, hkl.2, stops_step]
        have : hind s ((js.take k).reverse ++ s.done) j = hind s (s.done.reverse ++ js.take k) j := hind_congr ok (fun x => by simp [or_comm]) j
        rw [this, if_neg hne]
      rw [ht] at q
      have e6 := (pe.trans e4).trans e5
      refine s_retL (el_lst (ea_cons (ev_nat 1 rfl) (ea_cons (ev_var rfl) (ea_cons (ev_is (ev_neg (ev_var rfl)) (congrArg V.int (Int.neg_neg _))) ea_nil))) (by decide : 3 ≤ 100000)) fun o H6 ho e7 h6 => q o H6 (fresh_back e6 ho) (e6.trans e7) h6
    · have h0 : hind s (s.done.reverse ++ js.take k) j = 0 := by
        have := of_decide_eq_false hb
        omega
      have hjob : s.isJob j = true := by
        unfold hind at h0
        cases c : s.isJob j with
        | true => rfl
        | false => rw [c] at h0; simp at h0
      refine q_app ((e4.trans e5) _ _ (e3 _ _ p2)) (ev_var rfl) (ev_var rfl) (by rw [nvs_len, List.length_append, List.length_reverse]; omega) fun H6 e6 => ?_
      have px := Ex.mut (((pe.trans e4).trans e5).trans e6) hd (o := .lst (nvs (s.done.reverse ++ js.take k) ++ [nv j]))
      have hO6 := hO.mono px
      have hd6 : upd H6 d (.lst (nvs (s.done.reverse ++ js.take k) ++ [nv j])) d = some (.lst (nvs (s.done.reverse ++ js.take (k + 1)))) := by
        rw [upd_same, take_snoc hj, ← List.append_assoc, nvs_app (s.done.reverse ++ js.take k)]
        rfl
      have hjobs : ∀ i ∈ js.take (k + 1), s.isJob i = true := by
        intro i hi
        rw [take_snoc hj] at hi
        rcases List.mem_append.mp hi with hi | hi
        · exact p4 i hi
        · rw [List.mem_singleton.mp hi]; exact hjob
      have htl1 : (js.take (k + 1)).length ≤ 40 := Nat.le_trans (List.length_take_le' _ _) hz
      refine s_augN rfl (ev_call (ea_cons (ev_var rfl) (ea_cons (ev_var rfl) (ea_cons (ev_call (ea_cons (ev_var rfl) (ea_cons (ev_hours_a_day T hO6 (ev_var rfl)) (ea_cons (ev_call (ea_cons (ev_var rfl) (ea_cons (ev_var rfl) ea_nil)) (v_hours_of hO6 ok (sq_of hd6) (fun i hi => by
        rcases List.mem_append.mp hi with hi | hi
        · exact ok.dj i (List.mem_reverse.mp hi)
        · exact hjobs i hi) (by rw [List.length_append, List.length_reverse]; omega))) ea_nil))) (v_day_after hO6 ok.h1 ok.h24)) ea_nil))) (v_loss_of hO6 ok hjob)) fun H7 e7 => ?_
      refine ⟨px.trans e7, e7 _ _ hd6, key k p3 p4 j hj h0, hjobs, some (nv k), some (nv j), some (.int (-(hind s (s.done.reverse ++ js.take k) j : Nat))), ?_⟩
      have es : s.spent (s.done.reverse ++ js.take (k + 1)) = s.spent s.done + s.spent (js.take k) + s.work j := by
        rw [take_snoc hj, spent_append, spent_append, spent_reverse]
        show _ + (_ + (s.work j + 0)) = _
        omega
      rw [es, take_snoc hj, lossFrom_snoc, loses_eq]
      rfl
  · rintro σ' H' ⟨p1, p2, p3, p4, v, w, y, rfl⟩
    rw [nvs_len] at p2 p3 p4
    rw [List.take_length] at p2 p4
    rw [List.drop_length] at p3
    have ht : triedNums s js = [0, (s.lossFrom (s.spent s.done) js : Int), (s.dayOf (s.spent s.done + s.spent js) : Int)] := by
      unfold triedNums
      rw [p3]
      rfl
    rw [ht] at q
    have hO3 := hO.mono p1
    rw [nvs_len, List.take_length]
    refine s_retL (el_lst (ea_cons (ev_nat 0 rfl) (ea_cons (ev_var rfl) (ea_cons (ev_is (ev_call (ea_cons (ev_var rfl) (ea_cons (ev_hours_a_day T hO3 (ev_var rfl)) (ea_cons (ev_call (ea_cons (ev_var rfl) (ea_cons (ev_var rfl) ea_nil)) (v_hours_of hO3 ok (sq_of p2) (fun i hi => by
      rcases List.mem_append.mp hi with hi | hi
      · exact ok.dj i (List.mem_reverse.mp hi)
      · exact p4 i hi) (by rw [List.length_append, List.length_reverse]; omega))) ea_nil))) (v_day_after hO3 ok.h1 ok.h24)) (?_ : _ = nv (s.dayOf (s.spent s.done + s.spent js)))) ea_nil))) (by decide : 3 ≤ 100000)) fun o H6 ho e7 h6 => q o H6 (fresh_back p1 ho) (p1.trans e7) h6
    rw [spent_append, spent_reverse]
    rfl
theorem v_tried {H : Hp} {A : OA} {s : Office} {r : Addr} {js : List Nat} (hO : OffAt K H A s) (ok : Ok s) (hr : SqL K H r (nvs js)) (hz : js.length ≤ 40) : SpL (sp_tried K) [.ref A.o, .ref r] H ((triedNums s js).map V.int) := fun H1 e Q q E => ⟨A, s, r, js, rfl, hO.mono e, ok, ex_l e hr, hz, q⟩
end
end Sc
end

section
set_option Elab.async false
set_option linter.all false
set_option maxRecDepth 100000
set_option maxHeartbeats 4000000
namespace Sc
open PySem PySem.Spec PyProof.Rows L2 Evl
open TimStorm (before)
/-! ### triples: two numbers and a list of numbers -/
def numD (n : Nat) : PyData := .int (n : Int)
def tripD (a b : Nat) (l : List Nat) : PyData := .tuple [numD a, numD b, .list (l.map numD)]
theorem eqv_num (a b : Nat) : PyData.eqv (numD a) (numD b) = decide (a = b) := by
  unfold numD
  simp only [PyData.eqv]
  rw [Bool.eq_iff_iff, beq_iff_eq, decide_eq_true_eq]
  omega
theorem ltD_num (a b : Nat) : PySem.W.dataLt (numD a) (numD b) = decide (a < b) := by
  unfold numD
  rw [PySem.W.dataLt_int]
  exact decide_eq_decide.mpr Int.ofNat_lt
theorem nums_map (l : List Nat) : l.map numD = (l.map fun (n : Nat) => (n : Int)).map PySem.W.Datum.toD := by
  rw [List.map_map]
  rfl
theorem listLt_before : ∀ l r : List Nat, PySem.W.listLt (l.map fun (n : Nat) => (n : Int)) (r.map fun (n : Nat) => (n : Int)) = before l r
  | [], [] => rfl
  | [], _ :: _ => rfl
  | _ :: _, [] => rfl
  | a :: l, b :: r => by
    rw [List.map_cons, List.map_cons]
    unfold PySem.W.listLt before
    have ih := listLt_before l r
    by_cases h : a = b
    · subst h
      rw [if_pos rfl, ih]
      simp
    · rw [if_neg (by omega)]
      show decide ((a : Int) < (b : Int)) = _
      have hn : (a == b) = false := beq_eq_false_iff_ne.mpr h
      rw [hn, Bool.false_and, Bool.or_false]
      exact decide_eq_decide.mpr Int.ofNat_lt
theorem ltD_list (l r : List Nat) : PySem.W.dataLt (.list (l.map numD)) (.list (r.map numD)) = before l r := by
  rw [nums_map, nums_map, ← listLt_before]
  exact PySem.W.DatumOrd.lt_eq (α := List Int) _ _
theorem eqv_list (l r : List Nat) : PyData.eqv (.list (l.map numD)) (.list (r.map numD)) = decide (l = r) := by
  rw [nums_map, nums_map]
  have := PySem.W.Datum.eqv (α := List Int) (l.map fun (n : Nat) => (n : Int)) (r.map fun (n : Nat) => (n : Int))
  refine this.trans (decide_eq_decide.mpr ⟨fun h => ?_, fun h => by rw [h]⟩)
  have hi : ∀ (x y : Nat), (x : Int) = (y : Int) → x = y := fun x y h => by omega
  have key : ∀ l r : List Nat, l.map (fun (n : Nat) => (n : Int)) = r.map (fun (n : Nat) => (n : Int)) → l = r := by
    intro l
    induction l with
    | nil =>
      intro r h
      cases r with
      | nil => rfl
      | cons b r => cases h
    | cons a l ih =>
      intro r h
      cases r with
      | nil => cases h
      | cons b r =>
        rw [List.map_cons, List.map_cons] at h
        injection h with h1 h2
        rw [hi _ _ h1, ih _ h2]
  exact key l r h
theorem alike_num (a b : Nat) : PySem.W.alike (numD a) (numD b) = true := by
  unfold numD
  simp only [PySem.W.alike]
theorem alike_list (l r : List Nat) : PySem.W.alike (.list (l.map numD)) (.list (r.map numD)) = true := by
  rw [nums_map, nums_map]
  exact PySem.W.DatumOrd.alike (α := List Int) _ _
theorem alike_trip (a b : Nat) (l : List Nat) (a' b' : Nat) (l' : List Nat) : PySem.W.alike (tripD a b l) (tripD a' b' l') = true := by
  unfold tripD
  have h := alike_list l l'
  simp only [PySem.W.alike] at h
  simp only [PySem.W.alike, PySem.W.alikeAll, alike_num, h, Bool.and_self]
theorem ltD_trip (a b : Nat) (l : List Nat) (a' b' : Nat) (l' : List Nat) : PySem.W.dataLt (tripD a b l) (tripD a' b' l') = before (a :: b :: l) (a' :: b' :: l') := by
  unfold tripD
  rw [PySem.W.dataLt_tuple, PySem.W.dataLt_cons (alike_num a a'), eqv_num, ltD_num]
  simp only [before]
  by_cases h : a = a'
  · subst h
    simp only [decide_true, if_true, Nat.lt_irrefl, decide_false, Bool.false_or, beq_self_eq_true, Bool.true_and]
    rw [PySem.W.dataLt_cons (alike_num b b'), eqv_num, ltD_num]
    by_cases h2 : b = b'
    · subst h2
      simp only [decide_true, if_true, Nat.lt_irrefl, decide_false, Bool.false_or, beq_self_eq_true, Bool.true_and]
      rw [PySem.W.dataLt_cons (alike_list l l'), eqv_list, ltD_list]
      by_cases h3 : l = l'
      · subst h3
        rw [if_pos (decide_eq_true rfl), before_irrefl]
        exact PyProof.Rows.lex_irrefl _
      · rw [if_neg (by rw [decide_eq_false h3]; decide)]
    · have hn : (b == b') = false := beq_eq_false_iff_ne.mpr h2
      rw [decide_eq_false h2, if_neg (by decide), hn, Bool.false_and, Bool.or_false]
  · have hn : (a == a') = false := beq_eq_false_iff_ne.mpr h
    rw [decide_eq_false h, if_neg (by decide), hn, Bool.false_and, Bool.or_false]
theorem trip_inj {a b : Nat} {l : List Nat} {a' b' : Nat} {l' : List Nat} (h : tripD a b l = tripD a' b' l') : a = a' ∧ b = b' ∧ l = l' := by
  have h1 : before (a :: b :: l) (a' :: b' :: l') = false := by
    rw [← ltD_trip, h, ltD_trip]
    exact before_irrefl _
  have h2 : before (a' :: b' :: l') (a :: b :: l) = false := by
    rw [← ltD_trip, h, ltD_trip]
    exact before_irrefl _
  rcases before_total h1 with e | e
  · injection e with e1 e2
    injection e2 with e2 e3
    exact ⟨e1, e2, e3⟩
  · rw [h2] at e
    cases e
theorem depth_trip (a b : Nat) (l : List Nat) : (tripD a b l).depth ≤ 2 := by
  have h : PyData.depthAll (l.map numD) = 0 := by
    induction l with
    | nil => rfl
    | cons x l ih =>
      rw [List.map_cons]
      simp only [PyData.depthAll, ih]
      unfold numD
      simp only [PyData.depth]
      rfl
  have hn : ∀ n, (numD n).depth = 0 := fun n => by
    unfold numD
    simp only [PyData.depth]
  unfold tripD
  simp only [PyData.depth, PyData.depthAll, h, hn]
  decide
section
variable {K : PySem.W.Frag} {H H' : Hp}
theorem dpAll_nums : ∀ l : List Nat, DpAll K H (nvs l) (l.map numD)
  | [] => .nil
  | _ :: l => .cons (.int _) (dpAll_nums l)
/-- a tuple of two numbers and a list lies in the heap -/
def TripAt (H : Hp) (p : Addr) (a b : Nat) (l : List Nat) : Prop := ∃ o, H p = some (.tup [nv a, nv b, .ref o]) ∧ H o = some (.lst (nvs l))
theorem TripAt.mono (e : Ex H H') {p : Addr} {a b : Nat} {l : List Nat} (h : TripAt H p a b l) : TripAt H' p a b l := let ⟨o, h1, h2⟩ := h; ⟨o, e _ _ h1, e _ _ h2⟩
theorem TripAt.dp {p : Addr} {a b : Nat} {l : List Nat} (h : TripAt H p a b l) : Dp K H (.ref p) (tripD a b l) := by
  obtain ⟨o, h1, h2⟩ := h
  exact .tup (SqT.of h1) (.cons (.int _) (.cons (.int _) (.cons (.lst (sq_of h2) (dpAll_nums l)) .nil)))
end
end Sc
end

section
set_option Elab.async false
set_option linter.all false
set_option maxRecDepth 100000
set_option maxHeartbeats 4000000
namespace Sc
open PySem PySem.Spec PyProof.Rows L2 Evl
theorem paired_app {α β : Type} {F : α → β → Prop} : ∀ {l₁ : List α} {l₂ : List β} {r₁ : List α} {r₂ : List β}, Paired F l₁ l₂ → Paired F r₁ r₂ → Paired F (l₁ ++ r₁) (l₂ ++ r₂)
  | _, _, _, _, .nil, h => h
  | _, _, _, _, .cons a t, h => .cons a (paired_app t h)
theorem paired_map {α β γ : Type} {F : α → β → Prop} {G : α → γ → Prop} {g : β → γ} : ∀ {l : List α} {r : List β}, Paired F l r → (∀ a b, b ∈ r → F a b → G a (g b)) → Paired G l (r.map g)
  | _, _, .nil, _ => .nil
  | _, _, .cons z t, h => .cons (h _ _ List.mem_cons_self z) (paired_map t fun a b hb q => h a b (List.mem_cons_of_mem _ hb) q)
theorem filter_range {α : Type} (l : List α) (d : α) (p : α → Bool) : ((List.range l.length).filter fun k => p (l.getD k d)).map (fun k => l.getD k d) = l.filter p := by
  have er : l = (List.range l.length).map fun k => l.getD k d := by
    apply List.ext_getElem
    · simp
    · intro i h1 h2
      simp [List.getD_eq_getElem?_getD, h1]
  conv => rhs; rw [er]
  rw [List.filter_map]
  rfl
/-- something is given out of which P is known -/
def RetP (P : HP) (H : Hp) (Q : VK) : Prop := ∀ v H2, Ex H H2 → P v H2 → Q v H2
section
variable {K : PySem.W.Frag} {σ : L2.St} {H H' : Hp} {ta tb tc te tl : TE} {t u : TT} {g : TG} {vs : List Nat} {a p : Addr} {xs ws : List V} {D : Ends} {tu tz : TS} {v x y : V}
theorem s_retP {P : HP} (h : EvP te σ H P) (k : RetP P H D.rt) : tRet te D σ H := h H (Ex.refl _) _ k
theorem ep_lst {ta : TA} {P : List V → Hp → Prop} {R : HP} (h : EvAP ta σ H P) (hl : ∀ vs H1, P vs H1 → vs.length ≤ 100000) (hr : ∀ vs H1 p, Ex H H1 → P vs H1 → H1 p = none → R (.ref p) (upd H1 p (.lst vs))) : EvP (tLst ta) σ H R := fun H1 e Q q =>
  h H1 e _ fun vs H2 e2 hp => ⟨sz_of (hl vs H2 hp), fun p hn => q (.ref p) _ (e2.trans (Ex.new hn)) (hr vs H2 p (e.trans e2) hp hn)⟩
theorem ep_catO {γ : Type} {F : γ → HO} {ts : List γ} {xs : List V} (ha : Ev ta σ H (.ref p)) (hp : H p = some (.lst xs)) (hb : EvOs F tb σ H ts) (hz : xs.length + ts.length ≤ 100000) :
    EvP (tOp rCat ta tb) σ H fun w H2 => ∃ r qs, w = .ref r ∧ H2 r = some (.lst (xs ++ qs.map V.ref)) ∧ Objs F H2 qs ts := fun H1 e Q q =>
  ha H1 e _ fun H2 e2 => hb H2 (e.trans e2) _ fun r qs H3 hr e3 h3 h4 _ => ⟨p, r, xs, qs.map V.ref, rfl, rfl, e3 _ _ (e2 _ _ (e _ _ hp)), h3, sz_of (by rw [List.length_map, paired_len h4]; exact hz), fun l hl =>
    q (.ref l) _ ((e2.trans e3).trans (Ex.new hl)) ⟨l, qs, rfl, upd_same, h4.mono (Ex.new hl)⟩⟩
theorem ep_os {γ : Type} {F : γ → HO} {ts : List γ} (h : EvOs F te σ H ts) : EvP te σ H fun w H2 => ∃ p qs, w = .ref p ∧ H2 p = some (.lst (qs.map V.ref)) ∧ Objs F H2 qs ts := fun H1 e Q q => h H1 e _ fun p qs H2 _ e2 h1 h2 _ => q (.ref p) H2 e2 ⟨p, qs, rfl, h1, h2⟩
theorem ep_mono {P R : HP} (h : EvP te σ H P) (hr : ∀ v H2, Ex H H2 → P v H2 → R v H2) : EvP te σ H R := fun H1 e Q q => h H1 e _ fun v H2 e2 hp => q v H2 e2 (hr v H2 (e.trans e2) hp)
theorem ep_new {δ : Type} {G : δ → HO} {l : List δ} {R : HP} (h : EvP tl σ H fun w H2 => ∃ p ps, w = .ref p ∧ H2 p = some (.lst (ps.map V.ref)) ∧ Objs G H2 ps l)
    (k : ∀ p ps H1, Ex H H1 → H1 p = some (.lst (ps.map V.ref)) → Objs G H1 ps l → EvP (tLc (iList K fun _ H Q => Q (.ref p) H) g t te vs) σ H1 R) : EvP (tLc (iList K tl) g t te vs) σ H R := fun H0 e Q q =>
  h H0 e _ fun w H1 e1 hw => by
    obtain ⟨p, ps, rfl, h1, h2⟩ := hw
    have := k p ps H1 (e.trans e1) h1 h2 H1 (Ex.refl _) Q fun v H2 e2 hv => q v H2 (e1.trans e2) hv
    exact this
/-- a new list of new things from a list that is itself new -/
theorem eos_new {γ δ : Type} {F : γ → HO} {G : δ → HO} {l : List δ} {ts : List γ} (h : EvP tl σ H fun w H2 => ∃ p ps, w = .ref p ∧ H2 p = some (.lst (ps.map V.ref)) ∧ Objs G H2 ps l)
    (k : ∀ p ps H1, Ex H H1 → H1 p = some (.lst (ps.map V.ref)) → Objs G H1 ps l → EvOs F (tLc (iList K fun _ H Q => Q (.ref p) H) g t te vs) σ H1 ts) : EvOs F (tLc (iList K tl) g t te vs) σ H ts := fun H0 e Q q =>
  h H0 e _ fun w H1 e1 hw => by
    obtain ⟨p, ps, rfl, h1, h2⟩ := hw
    have := k p ps H1 (e.trans e1) h1 h2 H1 (Ex.refl _) Q fun r qs H2 hr e2 h3 h4 h5 => q r qs H2 (fresh_back e1 hr) (e1.trans e2) h3 h4 h5
    exact this
end
/-- a list of lists of numbers -/
abbrev Lists (H : Hp) (ps : List Addr) (ls : List (List Nat)) : Prop := Objs (fun l => HO.lst (nvs l)) H ps ls
end Sc
end

section
set_option Elab.async false
set_option linter.all false
set_option maxRecDepth 100000
set_option maxHeartbeats 4000000
namespace Sc
open PySem PySem.Spec PyProof.Rows L2 Evl
open TimStorm (Office Way Wood Table Beetle before)
def isLists (ls : List (List Nat)) : HP := fun v H => ∃ p ps, v = .ref p ∧ H p = some (.lst (ps.map V.ref)) ∧ Lists H ps ls
def isTrip (a b : Nat) (l : List Nat) : HP := fun v H => ∃ p, v = .ref p ∧ TripAt H p a b l
def sp_all_sets (K : PySem.W.Frag) : Sp := fun vs H Q _ => ∃ (l : Addr) (ns : List Nat), vs = [.ref l] ∧ SqL K H l (nvs ns) ∧ ns.length ≤ 10 ∧ RetP (isLists (allSets ns)) H Q
def sp_least_opening (K : PySem.W.Frag) : Sp := fun vs H Q _ => ∃ (A : OA) (s : Office) (r : Addr) (ps x : List Nat), vs = [.ref A.o, .ref r] ∧ OffAt K H A s ∧ Ok s ∧ SqL K H r (nvs ps) ∧ (∀ p ∈ ps, p < s.n) ∧ ps.length ≤ 100 ∧ s.least ps = some x ∧ RetP (isTrip (s.spent x) x.length x) H Q
theorem sc_all_sets : FnScope ["numbers", "sets", "number", "members"] ["numbers"] (defScope s_all_sets) := C8.fnScope_by (by decide +kernel)
def t_all_sets (K : PySem.W.Frag) : TS :=
  (tSeq (tAsg (tLst (tCons (tLst tNil) tNil)) (gName 1))
    (tSeq (tFor (iList K (tVar 0)) (gName 2) (tAsg (tOp rCat (tVar 1) (tLc (iList K (tVar 1)) (gName 3) tYes (tOp rCat (tVar 3) (tLst (tCons (tVar 2) tNil))) [3])) (gName 1)))
    (tRet (tVar 1))))
theorem sc_least_opening : FnScope ["office", "places", "fitting", "ways"] ["office", "places"] (defScope s_least_opening) := C8.fnScope_by (by decide +kernel)
def t_least_opening (K : PySem.W.Frag) : TS :=
  (tSeq (tAsg (tLc (iList K (tCall (sp_all_sets K) [] C8.E0 (tCons (tCall (sp_shut_ways K) [] C8.E0 (tCons (tVar 0) tNil)) tNil))) (gName 3) (tB (tCall (sp_opens_all K) [] C8.E0 (tCons (tVar 0) (tCons (tVar 3) (tCons (tVar 1) tNil))))) (tTup (tCons (tCall (sp_hours_of K) [] C8.E0 (tCons (tVar 0) (tCons (tVar 3) tNil))) (tCons (tCB (rLenS K) (tCons (tVar 3) tNil)) (tCons (tVar 3) tNil)))) [3]) (gName 2))
    (tRet (tCB (rMinD K) (tCons (tVar 2) tNil))))
theorem pow10 {n : Nat} (h : n ≤ 10) : 2 ^ n ≤ 1024 := Nat.le_trans (Nat.pow_le_pow_right (by decide) h) (by decide)
theorem objs_at {γ : Type} {F : γ → HO} {H : Hp} {ps : List Addr} {ts : List γ} (h : Objs F H ps ts) {i : Nat} {q : Addr} (hq : ps[i]? = some q) : ∃ t, ts[i]? = some t ∧ H q = some (F t) := paired_at1 h hq
theorem ev_same {σ : L2.St} {H : Hp} {a : Addr} : Ev (fun _ H Q => Q (.ref a) H) σ H (.ref a) := fun H1 _ Q q => q H1 (Ex.refl _)
theorem minD_trip (s : Office) (l : List (List Nat)) : ∀ a : List Nat, PySem.W.minD (tripD (s.spent a) a.length a) (l.map fun x => tripD (s.spent x) x.length x) = tripD (s.spent (keep (fun x y => before (key s x) (key s y)) a l)) (keep (fun x y => before (key s x) (key s y)) a l).length (keep (fun x y => before (key s x) (key s y)) a l) := by
  unfold PySem.W.minD keep
  induction l with
  | nil => intro b; rfl
  | cons x l ih =>
    intro b
    rw [List.map_cons, List.foldl_cons, List.foldl_cons, ltD_trip]
    show List.foldl _ (if before (key s x) (key s b) = true then _ else _) _ = _
    by_cases c : before (key s x) (key s b) = true
    · rw [if_pos c, if_pos c]
      exact ih x
    · rw [if_neg c, if_neg c]
      exact ih b
section
variable {K : PySem.W.Frag} {mg : Str → Option Value}
theorem p_all_sets (T : Top K mg) (vs : List V) (H : Hp) (Q : VK) (E : XK) (h : sp_all_sets K vs H Q E) : t_all_sets K { nx := fun _ H' => Q .non H', rt := Q } (start ["numbers", "sets", "number", "members"] vs) H := by
  obtain ⟨l, ns, rfl, hl, hz, q⟩ := h
  refine q_asgG (P := isLists (allSets [])) (ep_lst (P := fun vs H2 => ∃ p, vs = [.ref p] ∧ H2 p = some (.lst (nvs []))) (eap_cons (ep_l (el_lst ea_nil (by decide : 0 ≤ 100000))) fun v H1 e hv => eap_nil fun H2 e2 => ?_) ?_ ?_) fun v H1 e1 hv => ?_
  · obtain ⟨p, rfl, h⟩ := hv
    exact ⟨p, rfl, e2 _ _ h⟩
  · rintro vs H1 ⟨p, rfl, _⟩
    exact (by decide : 1 ≤ 100000)
  · rintro vs H1 r e ⟨p, rfl, h⟩ hr
    exact ⟨r, [p], rfl, upd_same, .cons (Ex.new hr _ _ h) .nil⟩
  · refine q_forLn (ev_var rfl) (ex_l e1 hl) (fun i σ' H' => Ex H H' ∧ ∃ v w x, isLists (allSets (ns.take i)) v H' ∧ σ' = [some (.ref l), some v, w, x])
      (fun H2 e2 => ⟨e1.trans e2, v, none, none, (by
        obtain ⟨p, ps, rfl, h1, h2⟩ := hv
        exact ⟨p, ps, rfl, e2 _ _ h1, h2.mono e2⟩), rfl⟩) (fun i σ' H' _ P => ex_l P.1 hl) ?_ ?_
    · rintro i x σ' H' hx ⟨p1, _, w, y, ⟨p, ps, rfl, h1, h2⟩, rfl⟩
      obtain ⟨n, hn, rfl⟩ := nvs_of hx
      have hlen : (allSets (ns.take i)).length ≤ 1024 := by
        rw [allSets_len]
        exact pow10 (Nat.le_trans (List.length_take_le' _ _) hz)
      have hpl := paired_len h2
      refine s_asgG (ep_catO (F := fun l => HO.lst (nvs l)) (ts := (allSets (ns.take i)).map (· ++ [n])) (ev_var rfl) h1 ?_ (by rw [List.length_map, List.length_map]; omega)) fun v2 H2 e2 hv2 => ?_
      · have key := eos_lc (K := K) (a := p) (xs := ps.map V.ref) (tA := iList K (tVar 1)) (g := gName 3) (t := tYes) (te := tOp rCat (tVar 3) (tLst (tCons (tVar 2) tNil))) (vs := [3]) (σ := [some (.ref l), some (.ref p), some (nv n), y]) (H := H') (fun l => HO.lst (nvs l)) (fun _ => true) (fun k => (allSets (ns.take i)).getD k [] ++ [n])
          (by rw [List.length_map]; omega) (it_list (ev_var rfl) (sq_of h1)) (fun k x hk H2 e2 => by
            obtain ⟨r, hr, rfl⟩ := refs_get1 hk
            obtain ⟨t, ht, hrt⟩ := objs_at h2 hr
            have ht' : t ∈ allSets (ns.take i) := List.mem_of_getElem? ht
            have htl := Nat.le_trans (mem_allSets.mp ht').length_le (List.length_take_le' _ _)
            refine ⟨[some (.ref l), some (.ref p), some (nv n), some (.ref r)], fun Q q => q, rfl, et_yes, fun _ => ?_⟩
            rw [List.getD_eq_getElem?_getD, ht]
            show EvL _ _ H2 (nvs (t ++ [n]))
            rw [nvs_app]
            exact el_cat1 (ev_var rfl) (e2 _ _ hrt) (el_lst (ea_cons (ev_var rfl) ea_nil) (by decide : 1 ≤ 100000)) (by rw [nvs_len]; show t.length + 1 ≤ 100000; omega))
        have e : ((List.range (ps.map V.ref).length).filter fun _ => true).map (fun k => (allSets (ns.take i)).getD k [] ++ [n]) = (allSets (ns.take i)).map (· ++ [n]) := by
          rw [List.filter_eq_self.mpr (fun _ _ => rfl), List.length_map, hpl]
          apply List.ext_getElem
          · simp
          · intro j h1 h2
            simp at h1
            simp [List.getD_eq_getElem?_getD, h1]
        rw [e] at key
        exact key
      · obtain ⟨r, qs, rfl, h3, h4⟩ := hv2
        refine ⟨p1.trans e2, .ref r, some (nv n), y, ⟨r, ps ++ qs, rfl, by rw [List.map_append]; exact h3, ?_⟩, rfl⟩
        rw [take_snoc hn, allSets_snoc]
        exact paired_app (h2.mono e2) h4
    · rintro σ' H' ⟨p1, v, w, y, hv, rfl⟩
      rw [nvs_len, List.take_length] at hv
      refine s_ret (ev_var rfl) fun H2 e2 => q v H2 (p1.trans e2) ?_
      obtain ⟨p, ps, rfl, h1, h2⟩ := hv
      exact ⟨p, ps, rfl, e2 _ _ h1, h2.mono e2⟩
theorem v_all_sets {H : Hp} {l : Addr} {ns : List Nat} (hl : SqL K H l (nvs ns)) (hz : ns.length ≤ 10) : ∀ H1, Ex H H1 → ∀ Q : VK, RetP (isLists (allSets ns)) H1 Q → ∀ E : XK, sp_all_sets K [.ref l] H1 Q E := fun H1 e Q q E => ⟨l, ns, rfl, ex_l e hl, hz, q⟩
theorem p_least_opening (T : Top K mg) (vs : List V) (H : Hp) (Q : VK) (E : XK) (h : sp_least_opening K vs H Q E) : t_least_opening K { nx := fun _ H' => Q .non H', rt := Q } (start ["office", "places", "fitting", "ways"] vs) H := by
  obtain ⟨A, s, r, ps, x, rfl, hO, ok, hr, hp, hz, hx, q⟩ := h
  have hsl := shut_len ok
  refine q_asgG (P := fun v H2 => ∃ p qs, v = .ref p ∧ H2 p = some (.lst (qs.map V.ref)) ∧ Paired (fun q x => TripAt H2 q (s.spent x) x.length x) qs (fits s ps)) (ep_new (K := K) (G := fun l => HO.lst (nvs l)) (l := allSets s.shut) (ep_callG (P := fun vs H2 => ∃ p, vs = [.ref p] ∧ H2 p = some (.lst (nvs s.shut))) (eap_cons (ep_l (el_call (ea_cons (ev_var rfl) ea_nil) (v_shut_ways hO ok))) fun v H1 e hv => eap_nil fun H2 e2 => ?_) fun vs H1 e hvs Q q => ?_) fun l pl H1 e1 h1 h2 => ?_) fun v H1 e1 hv => ?_
  · obtain ⟨p, rfl, h⟩ := hv
    exact ⟨p, rfl, e2 _ _ h⟩
  · obtain ⟨p, rfl, h⟩ := hvs
    exact v_all_sets (sq_of h) hsl H1 (Ex.refl _) Q q _
  · have hpl := paired_len h2
    have hal : (allSets s.shut).length ≤ 1024 := by
      rw [allSets_len]
      exact pow10 hsl
    refine ep_mono (ep_os (eos_lc (K := K) (a := l) (xs := pl.map V.ref) (fun z : Addr × List Nat => HO.tup [nv (s.spent z.2), nv z.2.length, .ref z.1]) (fun k => s.reaches ((allSets s.shut).getD k [] ++ s.done) ps) (fun k => (pl.getD k 0, (allSets s.shut).getD k []))
      (by rw [List.length_map]; omega) (it_list ev_same (sq_of h1)) (fun k y hk H2 e2 => ?_))) fun v H2 e2 hv => ?_
    · obtain ⟨o, ho, rfl⟩ := refs_get1 hk
      obtain ⟨t, ht, hot⟩ := objs_at h2 ho
      have hm := fits_mem (ps := ps) (List.mem_of_getElem? ht)
      have e12 := e1.trans e2
      have hO2 := hO.mono e12
      have hg1 : (allSets s.shut).getD k [] = t := by rw [List.getD_eq_getElem?_getD, ht]; rfl
      have hg2 : pl.getD k 0 = o := by rw [List.getD_eq_getElem?_getD, ho]; rfl
      have hjobs : ∀ j ∈ t, s.isJob j = true := fun j hj => by
        unfold Office.isJob
        rw [hm.1 j hj]
        rfl
      have htl := hm.2
      refine ⟨[some (.ref A.o), some (.ref r), none, some (.ref o)], fun Q q => q, rfl, ?_, fun _ => ?_⟩
      · rw [hg1]
        exact et_val (ev_call (ea_cons (ev_var rfl) (ea_cons (ev_var rfl) (ea_cons (ev_var rfl) ea_nil))) (v_opens_all hO2 ok (e2 _ _ hot) (by omega) (ex_l e12 hr) hp hz))
      · rw [hg1, hg2]
        show EvU _ _ H2 [nv (s.spent t), nv t.length, .ref o]
        refine eu_tup (ea_cons (ev_call (ea_cons (ev_var rfl) (ea_cons (ev_var rfl) ea_nil)) (v_hours_of hO2 ok (sq_of (e2 _ _ hot)) hjobs (by omega))) (ea_cons (by
          have := ev_lenL (K := K) (σ := [some (.ref A.o), some (.ref r), none, some (.ref o)]) (ta := tVar 3) (ev_var rfl) (sq_of (e2 _ _ hot))
          rwa [nvs_len] at this) (ea_cons (ev_var rfl) ea_nil))) (by decide : 3 ≤ 100000)
    · obtain ⟨p, qs, rfl, h3, h4⟩ := hv
      refine ⟨p, qs, rfl, h3, ?_⟩
      have e : fits s ps = (((List.range (pl.map V.ref).length).filter fun k => s.reaches ((allSets s.shut).getD k [] ++ s.done) ps).map fun k => (pl.getD k 0, (allSets s.shut).getD k [])).map (·.2) := by
        unfold fits
        rw [List.map_map, List.length_map, hpl]
        exact (filter_range (allSets s.shut) [] fun x => s.reaches (x ++ s.done) ps).symm
      rw [e]
      refine paired_map h4 fun a b hb hab => ⟨b.1, hab, ?_⟩
      obtain ⟨k, hk, rfl⟩ := List.mem_map.mp hb
      have hk' := List.mem_range.mp (List.mem_filter.mp hk).1
      rw [List.length_map] at hk'
      have hpk : pl[k]? = some (pl.getD k 0) := by
        rw [List.getD_eq_getElem?_getD, List.getElem?_eq_getElem hk']
        rfl
      obtain ⟨t, ht, hot⟩ := objs_at h2 hpk
      have : (allSets s.shut).getD k [] = t := by rw [List.getD_eq_getElem?_getD, ht]; rfl
      show H2 (pl.getD k 0) = some (.lst (nvs ((allSets s.shut).getD k [])))
      rw [this]
      exact e2 _ _ hot
  · obtain ⟨p, qs, rfl, h1, h2⟩ := hv
    cases hf : fits s ps with
    | nil =>
      exfalso
      have hm := (optLeast_ok (key_st s) ((least_eq s ps).symm.trans hx)).1
      have := mem_fits.mpr hm
      rw [hf] at this
      cases this
    | cons a l =>
      have hkp := least_keep hf
      rw [hx] at hkp
      obtain rfl := Option.some.inj hkp
      rw [hf] at h2
      refine s_retP (fun H2 e2 Q q => ev_var (i := 2) (σ := [some (.ref A.o), some (.ref r), some (.ref p), none]) rfl H2 e2 _ fun H3 e3 => ?_) (P := isTrip _ _ _) fun v H2 e2 hv => q v H2 (e1.trans e2) hv
      have e13 := e2.trans e3
      have h2' := paired_mono (fun q x (z : TripAt H1 q (s.spent x) x.length x) => z.mono e13) h2
      have hd : ∀ (qs : List Addr) (l : List (List Nat)), Paired (fun q x => TripAt H3 q (s.spent x) x.length x) qs l → DpAll K H3 (qs.map V.ref) (l.map fun x => tripD (s.spent x) x.length x) := by
        intro qs l h
        induction h with
        | nil => exact .nil
        | cons z _ ih => exact .cons z.dp ih
      refine ⟨p, qs.map V.ref, tripD (s.spent a) a.length a, l.map fun x => tripD (s.spent x) x.length x, rfl, sq_of (e13 _ _ h1), hd _ _ h2', ⟨?_, ?_⟩, ?_, fun i v hv hi => ?_⟩
      · intro x hx y hy
        obtain ⟨x, _, rfl⟩ := List.mem_map.mp (show x ∈ (a :: l).map (fun x => tripD (s.spent x) x.length x) from hx)
        obtain ⟨y, _, rfl⟩ := List.mem_map.mp (show y ∈ (a :: l).map (fun x => tripD (s.spent x) x.length x) from hy)
        exact alike_trip _ _ _ _ _ _
      · intro x hx
        obtain ⟨x, _, rfl⟩ := List.mem_map.mp (show x ∈ (a :: l).map (fun x => tripD (s.spent x) x.length x) from hx)
        intro z
        cases z
      · have : ∀ l : List (List Nat), PyData.depthAll (l.map fun x => tripD (s.spent x) x.length x) ≤ 3 := by
          intro l
          induction l with
          | nil => exact (by decide : 0 ≤ 3)
          | cons x l ih =>
            rw [List.map_cons]
            simp only [PyData.depthAll]
            have := depth_trip (s.spent x) x.length x
            omega
        exact Nat.le_trans (this (a :: l)) (by decide)
      · obtain ⟨o, ho, rfl⟩ := refs_get1 hv
        obtain ⟨t, ht, hot⟩ := paired_at1 h2' ho
        rw [minD_trip] at hi
        have hi' : ((a :: l).map fun x => tripD (s.spent x) x.length x)[i]? = some (tripD (s.spent t) t.length t) := by
          rw [List.getElem?_map, ht]
          rfl
        rw [show tripD (s.spent a) a.length a :: l.map (fun x => tripD (s.spent x) x.length x) = (a :: l).map (fun x => tripD (s.spent x) x.length x) from rfl, hi'] at hi
        have : t = keep (fun x y => before (key s x) (key s y)) a l := (trip_inj (Option.some.inj hi)).2.2
        rw [← this] at q
        exact q (.ref o) H3 e3 ⟨o, rfl, hot⟩
theorem v_least_opening {H : Hp} {A : OA} {s : Office} {r : Addr} {ps x : List Nat} (hO : OffAt K H A s) (ok : Ok s) (hr : SqL K H r (nvs ps)) (hp : ∀ p ∈ ps, p < s.n) (hz : ps.length ≤ 100) (hx : s.least ps = some x) : ∀ H1, Ex H H1 → ∀ Q : VK, RetP (isTrip (s.spent x) x.length x) H1 Q → ∀ E : XK, sp_least_opening K [.ref A.o, .ref r] H1 Q E :=
  fun H1 e Q q E => ⟨A, s, r, ps, x, rfl, hO.mono e, ok, ex_l e hr, hp, hz, hx, q⟩
end
end Sc
end

section
set_option Elab.async false
set_option linter.all false
set_option maxRecDepth 100000
set_option maxHeartbeats 4000000
namespace Sc
open PySem PySem.Spec PyProof.Rows L2 Evl
open TimStorm (Office Way Wood Table Beetle)
/-! ### a number or none; what keeps tuples -/
def ov : Option Nat → V
  | none => .non
  | some d => nv d
def ovs (l : List (Option Nat)) : List V := l.map ov
theorem ovs_len (l : List (Option Nat)) : (ovs l).length = l.length := List.length_map ..
theorem ovs_at {l : List (Option Nat)} {i : Nat} (h : i < l.length) : (ovs l)[i]? = some (ov (l.getD i none)) := by
  unfold ovs
  rw [List.getElem?_map, List.getD_eq_getElem?_getD, List.getElem?_eq_getElem h]
  rfl
theorem ovs_set (l : List (Option Nat)) (i : Nat) (x : Option Nat) : (ovs l).set i (ov x) = ovs (l.set i x) := by
  unfold ovs
  rw [List.map_set]
theorem ov_nv {x : Option Nat} {t : Nat} : ov x = nv t ↔ x = some t := by
  cases x with
  | none => exact ⟨fun h => (nomatch h), fun h => (nomatch h)⟩
  | some d =>
    refine ⟨fun h => ?_, fun h => by rw [Option.some.inj h]; rfl⟩
    have := V.int.inj (show V.int (d : Int) = V.int (t : Int) from h)
    congr 1
    omega
theorem ov_non {x : Option Nat} : ov x = .non ↔ x = none := by
  cases x with
  | none => exact ⟨fun _ => rfl, fun _ => rfl⟩
  | some d => exact ⟨fun h => (nomatch h), fun h => (nomatch h)⟩
theorem ovs_ref {l : List (Option Nat)} {ps : List Addr} (h : ovs l = ps.map V.ref) : l = [] := by
  cases l with
  | nil => rfl
  | cons x l =>
    cases ps with
    | nil => cases h
    | cons p ps =>
      have h1 : ov x = .ref p := (List.cons.inj h).1
      cases x <;> cases h1
/-- tuples stay -/
def Tk (H H' : Hp) : Prop := ∀ q l, H q = some (.tup l) → H' q = some (.tup l)
theorem Tk.refl (H : Hp) : Tk H H := fun _ _ h => h
theorem Tk.trans {H H1 H2 : Hp} (a : Tk H H1) (b : Tk H1 H2) : Tk H H2 := fun q l h => b q l (a q l h)
theorem Ex.tk {H H' : Hp} (e : Ex H H') : Tk H H' := fun q l h => e q _ h
theorem Tk.put {H H' : Hp} {r : Addr} {ys zs : List V} (t : Tk H H') (hr : H' r = some (.lst ys)) : Tk H (upd H' r (.lst zs)) := fun q l h => by
  rw [upd_ne (ne_of (t q l h) hr (by intro z; cases z))]
  exact t q l h
theorem range_fm {α β γ : Type} {l : List α} {g : α → Option β} {h : β → γ} {f : Nat → Bool} {u : Nat → γ} (hf : ∀ k x, l[k]? = some x → f k = (g x).isSome ∧ ∀ y, g x = some y → u k = h y) :
    ((List.range l.length).filter f).map u = (l.filterMap g).map h := by
  have key : ∀ n, n ≤ l.length → ((List.range n).filter f).map u = ((l.take n).filterMap g).map h := by
    intro n
    induction n with
    | zero => intro _; rfl
    | succ n ih =>
      intro hn
      have hx : l[n]? = some l[n] := List.getElem?_eq_getElem (by omega)
      obtain ⟨h1, h2⟩ := hf n _ hx
      rw [take_snoc hx, List.filterMap_append, List.map_append, ← ih (by omega)]
      cases hg : g l[n] with
      | none =>
        rw [hg] at h1
        rw [range_no u h1]
        simp [hg]
      | some y =>
        rw [hg] at h1
        rw [range_yes u h1, h2 y hg]
        simp [hg]
  have := key l.length (Nat.le_refl _)
  rwa [List.take_length] at this
section
variable {K : PySem.W.Frag} {σ : L2.St} {H H' : Hp} {ta tb tc te tl : TE} {t u : TT} {g : TG} {vs : List Nat} {a p : Addr} {xs ws : List V} {D : Ends} {tu tz : TS} {v x y : V}
theorem ev_eqO {x : Option Nat} {i : Nat} (ha : Ev ta σ H (ov x)) (hb : Ev tb σ H (nv i)) : Ev (tOp rEq ta tb) σ H (.bl (decide (x = some i))) := by
  refine ev_is (ev_op ha hb (rv_eq (by cases x <;> rfl))) ?_
  exact congrArg V.bl (decide_eq_decide.mpr ov_nv)
theorem ev_isO {x : Option Nat} (ha : Ev ta σ H (ov x)) : Ev (tOp rIsN ta (tC .non)) σ H (.bl (decide (x = none))) := ev_is (ev_isN ha) (congrArg V.bl (decide_eq_decide.mpr ov_non))
theorem ev_notO {x : Option Nat} (ha : Ev ta σ H (ov x)) : Ev (tOp rNotN ta (tC .non)) σ H (.bl (!decide (x = none))) := ev_is (ev_notN ha) (congrArg (fun b => V.bl (!b)) (decide_eq_decide.mpr ov_non))
theorem s_appG {l : Addr} {xs : List V} {P : HP} (hl : H l = some (.lst xs)) (ha : Ev ta σ H (.ref l)) (h : EvP te σ H P) (hz : xs.length < 100000) (k : ∀ v H1, Ex H H1 → P v H1 → D.nx σ (upd H1 l (.lst (xs ++ [v])))) :
    tDrop (tBM K "list" rAppend ta (tCons te tNil)) D σ H := ha H (Ex.refl H) _ fun H1 e1 =>
  ⟨Or.inl ⟨rfl, xs, sq_of (e1 l _ hl)⟩, h H1 e1 _ fun v H2 e2 h2 => ⟨l, xs, v, rfl, rfl, e2 l _ (e1 l _ hl), sz_lt hz, k v H2 (e1.trans e2) h2⟩⟩
theorem q_appG {l : Addr} {xs : List V} {P : HP} (hl : H l = some (.lst xs)) (ha : Ev ta σ H (.ref l)) (h : EvP te σ H P) (hz : xs.length < 100000) (k : ∀ v H1, Ex H H1 → P v H1 → tz D σ (upd H1 l (.lst (xs ++ [v])))) :
    tSeq (tDrop (tBM K "list" rAppend ta (tCons te tNil))) tz D σ H := s_appG (D := { D with nx := tz D }) hl ha h hz k
/-- names = a tuple of which something is known -/
theorem q_asgPT {is : List Nat} {P : HP} (h : EvP te σ H P) (hp : ∀ v H1, Ex H H1 → P v H1 → ∃ q, v = .ref q ∧ SqT K H1 q ws) (hl : ws.length = is.length) (k : ∀ H1, Ex H H1 → tz D (setAll σ is ws) H1) : tSeq (tAsg te (gTup K is.length (gNames is))) tz D σ H :=
  h H (Ex.refl H) _ fun v H1 e hv => by
    obtain ⟨q, rfl, hq⟩ := hp v H1 e hv
    exact gTup_ok hq hl (k H1 e)
/-- d.get(k, a new tuple) -/
theorem ep_dget2U {kvs : List (Key × V)} {k : Nat} (ha : Ev ta σ H (.ref p)) (hb : Ev tb σ H (nv k)) (hc : EvU tc σ H ws) (hp : H p = some (.dK kvs)) :
    EvP (tDGet2 ta tb tc) σ H fun v H2 => v = (valV kvs (.inl (k : Int))).getD v ∧ (valV kvs (.inl (k : Int)) = none → ∃ q, v = .ref q ∧ H2 q = some (.tup ws)) := fun H1 e Q q =>
  ha H1 e _ fun H2 e2 => ⟨p, rfl, .inl ⟨kvs, .inl (e2 _ _ (e _ _ hp))⟩, hb H2 (e.trans e2) _ fun H3 e3 => hc H3 ((e.trans e2).trans e3) _ fun r H4 hr e4 h4 =>
    ⟨_, DGet.k (k := .inl (k : Int)) (e4 _ _ (e3 _ _ (e2 _ _ (e _ _ hp)))), q _ H4 ((e2.trans e3).trans e4) (by
      cases hv : valV kvs (.inl (k : Int)) with
      | none => exact ⟨rfl, fun _ => ⟨r, rfl, h4⟩⟩
      | some w => exact ⟨rfl, fun z => by cases z⟩)⟩⟩
/-- both directions of a way -/
theorem s_forBoth {i j : Nat} {w : Way} (he : Ev te σ H (.ref p)) (hW : WayAt K H p w) (Pv : Hp → Nat → L2.St → Hp → Prop) (h0 : ∀ H1, Ex H H1 → Pv H1 0 σ H1) (hT : ∀ H1 k σ' H', Pv H1 k σ' H' → Tk H1 H')
    (hs : ∀ H1 k σ' H', Ex H H1 → k < 2 → Pv H1 k σ' H' → tu { D with nx := Pv H1 (k + 1), ct := Pv H1 (k + 1), bk := D.nx } ((σ'.set i (some (nv (if k = 0 then w.a else w.b)))).set j (some (nv (if k = 0 then w.b else w.a)))) H')
    (hd : ∀ H1 σ' H', Ex H H1 → Pv H1 2 σ' H' → D.nx σ' H') : tFor (iTup K (tCall (sp_both_directions K) [] C8.E0 (tCons te tNil))) (gTup K 2 (gCons (gName i) (gCons (gName j) gNil))) tu D σ H :=
  he H (Ex.refl H) _ fun H1 e => v_both (hW.mono e) H1 (Ex.refl H1) _ (fun t t1 t2 H2 e2 h h1 h2 => by
    have e12 := e.trans e2
    refine ⟨t, rfl, ⟨_, SqT.of h⟩, for_tup (K := K) (a := t) (xs := [.ref t1, .ref t2]) (Pv H2) (h0 H2 e12) (fun k σ' H' _ P => SqT.of (hT H2 k σ' H' P _ _ h)) (fun k x σ' H' hx P => ?_) (fun σ' H' P => hd H2 σ' H' e12 P)⟩
    have tk := hT H2 k σ' H' P
    match k, hx with
    | 0, hx =>
      obtain rfl := Option.some.inj hx
      exact gTup_ok (is := [i, j]) (SqT.of (tk _ _ h1)) rfl (hs H2 0 σ' H' e12 (by decide) P)
    | 1, hx =>
      obtain rfl := Option.some.inj hx
      exact gTup_ok (is := [i, j]) (SqT.of (tk _ _ h2)) rfl (hs H2 1 σ' H' e12 (by decide) P)
    | k + 2, hx => simp at hx) C8.E0
/-- over a new list of tuples, giving new things -/
theorem eos_lcTN {γ : Type} (F : γ → HO) {is : List Nat} (ts : List (List V)) (p : List V → Bool) (v : List V → γ) (h : EvTs tl σ H ts) (hz : ts.length ≤ 40000)
    (hn : ∀ t ∈ ts, t.length = is.length) (hw : ∀ t, t.length = is.length → wipe (setAll (wipe σ vs) is t) vs = wipe σ vs)
    (ht : ∀ x ∈ ts, ∀ H1, Ex H H1 → EvT t (setAll (wipe σ vs) is x) H1 (p x)) (he : ∀ x ∈ ts, ∀ H1, Ex H H1 → p x = true → EvN te (setAll (wipe σ vs) is x) H1 (F (v x))) :
    EvOs F (tLc (iList K tl) (gTup K is.length (gNames is)) t te vs) σ H ((ts.filter p).map v) := fun H0 e Q q =>
  h H0 e _ fun a ps H1 ha e1 h1 h2 => by
    have key := eos_lcT (K := K) (σ := σ) (tl := fun _ H Q => Q (.ref a) H) (te := te) (t := t) (vs := vs) (H := H1) F ts p v (fun H2 _ Q q => q H2 (Ex.refl _)) (sq_of h1) h2 hz hn hw (fun x hx H2 e2 => ht x hx H2 ((e.trans e1).trans e2)) (fun x hx H2 e2 hp => he x hx H2 ((e.trans e1).trans e2) hp)
    have := key H1 (Ex.refl _) Q fun p qs H2 hp e2 h3 h4 h5 => q p qs H2 (fresh_back e1 hp) (e1.trans e2) h3 h4 h5
    exact this
theorem en_tup {ta : TA} {vs : List V} (h : EvA ta σ H vs) (hl : vs.length ≤ 100000) : EvN (tTup ta) σ H (.tup vs) := eu_tup h hl
theorem eap_of {ta : TA} {vs : List V} (h : EvA ta σ H vs) : EvAP ta σ H fun us _ => us = vs := fun H1 e Q q => h H1 e _ fun H2 e2 => q vs H2 e2 rfl
end
end Sc
end

section
set_option Elab.async false
set_option linter.all false
set_option maxRecDepth 100000
set_option maxHeartbeats 4000000
namespace Sc
open PySem PySem.Spec PyProof.Rows L2 Evl
open TimStorm (Office Way Wood Table Beetle)
def sp_fewest_ways (K : PySem.W.Frag) : Sp := fun vs H Q _ => ∃ (A : OA) (s : Office) (p : Nat), vs = [.ref A.o, nv p] ∧ OffAt K H A s ∧ Ok s ∧ p < s.n ∧ RetL (ovs (farL s p)) H Q
/-- a swarm as it lies in the heap -/
def SwAt (s : Office) (H : Hp) (p : Addr) (x : Nat × Nat × Nat × Nat) : Prop := ∃ f, H p = some (.tup [nv x.1, nv x.2.1, nv x.2.2.1, .ref f]) ∧ H f = some (.lst (ovs (farL s x.2.2.2)))
theorem SwAt.mono {s : Office} {H H' : Hp} (e : Ex H H') {p : Addr} {x : Nat × Nat × Nat × Nat} (h : SwAt s H p x) : SwAt s H' p x := let ⟨f, h1, h2⟩ := h; ⟨f, e _ _ h1, e _ _ h2⟩
theorem SwAt.put {s : Office} (ok : Ok s) {H : Hp} {p r : Addr} {x : Nat × Nat × Nat × Nat} {ps : List Addr} {zs : List V} (h : SwAt s H p x) (hr : H r = some (.lst (ps.map V.ref))) : SwAt s (upd H r (.lst zs)) p x := by
  obtain ⟨f, h1, h2⟩ := h
  refine ⟨f, ?_, ?_⟩
  · rw [upd_ne (ne_of h1 hr (by intro z; cases z))]
    exact h1
  · rw [upd_ne]
    · exact h2
    · rintro rfl
      rw [h2] at hr
      have e := ovs_ref (HO.lst.inj (Option.some.inj hr))
      have := farL_len s x.2.2.2
      rw [e] at this
      have := ok.n2
      simp at *
      omega
def isSwarms (s : Office) : HP := fun v H => ∃ p ps, v = .ref p ∧ H p = some (.lst (ps.map V.ref)) ∧ Paired (SwAt s H) ps (swarmsL s)
theorem isSwarms.mono {s : Office} {H H' : Hp} {v : V} (e : Ex H H') (h : isSwarms s v H) : isSwarms s v H' := let ⟨p, ps, h1, h2, h3⟩ := h; ⟨p, ps, h1, e _ _ h2, paired_mono (fun _ _ z => z.mono e) h3⟩
def sp_swarming (K : PySem.W.Frag) : Sp := fun vs H Q _ => ∃ (A : OA) (s : Office), vs = [.ref A.o] ∧ OffAt K H A s ∧ Ok s ∧ RetP (isSwarms s) H Q
def strikeT (x : Nat × Nat × Nat) : List V := [nv x.1, nv x.2.1, nv x.2.2]
def sp_strikes_at (K : PySem.W.Frag) : Sp := fun vs H Q _ => ∃ (s : Office) (v : V) (p : Nat), vs = [v, nv p] ∧ Ok s ∧ isSwarms s v H ∧ p < s.n ∧ RetTs ((strikesL s p).map strikeT) H Q
def pairT (x : Nat × Nat) : List V := [nv x.1, nv x.2]
def sp_due_for (K : PySem.W.Frag) : Sp := fun vs H Q _ => ∃ (A : OA) (s : Office) (p day : Nat), vs = [.ref A.o, nv p, nv day] ∧ OffAt K H A s ∧ Ok s ∧ p < s.n ∧ RetTs ((s.due p day).map pairT) H Q
def sp_struck_up_to (K : PySem.W.Frag) : Sp := fun vs H Q _ => ∃ (A : OA) (s : Office) (day : Nat), vs = [.ref A.o, nv day] ∧ OffAt K H A s ∧ Ok s ∧ RetTs ((s.struck day).map pairT) H Q
theorem sc_fewest_ways : FnScope ["office", "start", "far", "turn", "way", "one", "other"] ["office", "start"] (defScope s_fewest_ways) := C8.fnScope_by (by decide +kernel)
def t_fewest_ways (K : PySem.W.Frag) : TS :=
  (tSeq (tAsg (tOp rRep (tLst (tCons (tC .non) tNil)) (tFld K (tVar 0) "places")) (gName 2))
    (tSeq (tAsg (tC (.int 0)) (gSub (tVar 2) (tVar 1) rSetL))
    (tSeq (tFor (iRng1 (tCons (tOp rSubI (tFld K (tVar 0) "places") (tC (.int 1))) tNil)) (gName 3) (tFor (iList K (tFld K (tVar 0) "ways")) (gName 4) (tFor (iTup K (tCall (sp_both_directions K) [] C8.E0 (tCons (tVar 4) tNil))) (gTup K 2 (gCons (gName 5) (gCons (gName 6) gNil))) (tIfS (tAnd (tTest (tOp rEq (tOp (rIxL K) (tVar 2) (tVar 5)) (tVar 3))) (tTest (tOp rIsN (tOp (rIxL K) (tVar 2) (tVar 6)) (tC .non)))) (tAsg (tOp rAddI (tVar 3) (tC (.int 1))) (gSub (tVar 2) (tVar 6) rSetL)) tNext))))
    (tRet (tVar 2)))))
theorem sc_swarming : FnScope ["office", "found", "number", "wood", "job", "days", "days_over"] ["office"] (defScope s_swarming) := C8.fnScope_by (by decide +kernel)
def t_swarming (K : PySem.W.Frag) : TS :=
  (tSeq (tAsg (tLst tNil) (gName 1))
    (tSeq (tFor (iEnum K (tCons (tFld K (tVar 0) "woods") tNil)) (gTup K 2 (gCons (gName 2) (gCons (gName 3) gNil))) (tSeq (tAsg (tOp rAddI (tC (.int (32))) (tVar 2)) (gName 4))
    (tSeq (tAsg (tDGet2 (tFld K (tVar 0) "beetles") (tFld K (tVar 3) "kind") (tTup (tCons (tC (.int 0)) (tCons (tC (.int 1)) tNil)))) (gTup K 2 (gCons (gName 5) (gCons (gName 6) gNil))))
    (tIfS (tAnd (tTest (tOp rGtI (tVar 5) (tC (.int 0)))) (tTest (tOp (rIn K true) (tVar 4) (tFld K (tVar 0) "jobs_done")))) (tDrop (tBM K "list" rAppend (tVar 1) (tCons (tTup (tCons (tVar 4) (tCons (tOp rAddI (tFld K (tVar 3) "day") (tVar 5)) (tCons (tVar 6) (tCons (tCall (sp_fewest_ways K) [] C8.E0 (tCons (tVar 0) (tCons (tFld K (tVar 3) "place") tNil))) tNil))))) tNil))) tNext))))
    (tRet (tVar 1))))
theorem sc_strikes_at : FnScope ["swarms", "place", "job", "day", "days_over", "far"] ["swarms", "place"] (defScope s_strikes_at) := C8.fnScope_by (by decide +kernel)
def t_strikes_at (K : PySem.W.Frag) : TS :=
  (tRet (tLc (iList K (tVar 0)) (gTup K 4 (gCons (gName 2) (gCons (gName 3) (gCons (gName 4) (gCons (gName 5) gNil))))) (tTest (tOp rNotN (tOp (rIxL K) (tVar 5) (tVar 1)) (tC .non))) (tTup (tCons (tVar 2) (tCons (tVar 3) (tCons (tOp rAddI (tVar 3) (tOp rMulI (tOp (rIxL K) (tVar 5) (tVar 1)) (tVar 4))) tNil)))) [2, 3, 4, 5]))
theorem sc_due_for : FnScope ["office", "place", "last", "job", "day", "struck"] ["office", "place", "last"] (defScope s_due_for) := C8.fnScope_by (by decide +kernel)
def t_due_for (K : PySem.W.Frag) : TS :=
  (tRet (tLc (iList K (tCall (sp_strikes_at K) [] C8.E0 (tCons (tCall (sp_swarming K) [] C8.E0 (tCons (tVar 0) tNil)) (tCons (tVar 1) tNil)))) (gTup K 3 (gCons (gName 3) (gCons (gName 4) (gCons (gName 5) gNil)))) (tTest (tOp rLe (tVar 5) (tVar 2))) (tTup (tCons (tVar 3) (tCons (tVar 4) tNil))) [3, 4, 5]))
theorem sc_struck_up_to : FnScope ["office", "last", "swarms", "found", "place", "days", "job", "day", "struck"] ["office", "last"] (defScope s_struck_up_to) := C8.fnScope_by (by decide +kernel)
def t_struck_up_to (K : PySem.W.Frag) : TS :=
  (tSeq (tAsg (tCall (sp_swarming K) [] C8.E0 (tCons (tVar 0) tNil)) (gName 2))
    (tSeq (tAsg (tLst tNil) (gName 3))
    (tSeq (tFor (iRng1 (tCons (tFld K (tVar 0) "places") tNil)) (gName 4) (tSeq (tAsg (tLc (iList K (tCall (sp_strikes_at K) [] C8.E0 (tCons (tVar 2) (tCons (tVar 4) tNil)))) (gTup K 3 (gCons (gName 6) (gCons (gName 7) (gCons (gName 8) gNil)))) (tTest (tOp rLe (tVar 8) (tVar 1))) (tVar 8) [6, 7, 8]) (gName 5))
    (tIfS (tTest (tOp rGtI (tCB (rLenS K) (tCons (tVar 5) tNil)) (tC (.int 0)))) (tDrop (tBM K "list" rAppend (tVar 3) (tCons (tTup (tCons (tVar 4) (tCons (tCB (rMin K) (tCons (tVar 5) tNil)) tNil))) tNil))) tNext)))
    (tRet (tVar 3)))))
theorem swarmsL_len {s : Office} (ok : Ok s) : (swarmsL s).length ≤ 10 := by
  unfold swarmsL
  have := List.length_filterMap_le (swarmAt s) (List.range s.woods.length)
  rw [List.length_range] at this
  have := ok.ol
  omega
theorem strikesL_len {s : Office} (ok : Ok s) (p : Nat) : (strikesL s p).length ≤ 10 := Nat.le_trans (List.length_filterMap_le _ _) (swarmsL_len ok)
theorem swarm_mem {s : Office} (ok : Ok s) {x : Nat × Nat × Nat × Nat} (h : x ∈ swarmsL s) : x.2.2.2 < s.n := by
  unfold swarmsL at h
  obtain ⟨k, hk, h⟩ := List.mem_filterMap.mp h
  unfold swarmAt at h
  obtain ⟨w, hw, h⟩ := Option.bind_eq_some_iff.mp h
  obtain ⟨b, hb, h⟩ := Option.bind_eq_some_iff.mp h
  split at h
  · cases h
  · obtain rfl := Option.some.inj h
    exact (ok.wd w (List.mem_of_getElem? hw)).1
section
variable {K : PySem.W.Frag} {mg : Str → Option Value}
theorem p_fewest_ways (T : Top K mg) (vs : List V) (H : Hp) (Q : VK) (E : XK) (h : sp_fewest_ways K vs H Q E) : t_fewest_ways K { nx := fun _ H' => Q .non H', rt := Q } (start ["office", "start", "far", "turn", "way", "one", "other"] vs) H := by
  obtain ⟨A, s, p, rfl, hO, ok, hp, q⟩ := h
  have hn := ok.n16
  have hn2 := ok.n2
  refine q_asgL (el_rep (n := s.n) (el_lst (ea_cons ev_c ea_nil) (by decide : 1 ≤ 100000)) (ev_places T hO (ev_var rfl)) (by omega)) fun r H1 hr e1 hr1 => ?_
  refine q_setL hr1 (ev_nat 0 rfl) (ev_var rfl) (ev_var rfl) (by rw [List.length_replicate]; omega) fun H2 e2 => ?_
  have h20 : ∀ o, upd H2 r o r = some o := fun o => upd_same
  have x2 : Ex H (upd H2 r (.lst ((List.replicate s.n V.non).set p (nv 0)))) := Ex.mut (e1.trans e2) hr
  have hr2 : upd H2 r (.lst ((List.replicate s.n V.non).set p (nv 0))) r = some (.lst (ovs (farRun s p 0))) := by
    rw [h20]
    unfold farRun
    rw [← ovs_set]
    unfold ovs
    rw [List.map_replicate]
    rfl
  revert x2 hr2
  generalize upd H2 r (.lst ((List.replicate s.n V.non).set p (nv 0))) = H3
  intro x3 hr3
  obtain ⟨ps, hw1, hw2⟩ := hO.ways
  refine q_forR1 (n := ((s.n - 1 : Nat) : Int)) (ea_cons (ev_sub (by omega) (ev_places T (hO.mono x3) (ev_var rfl)) (ev_nat 1 rfl)) ea_nil) (by omega)
    (fun t σ' H' => Ex H H' ∧ H' r = some (.lst (ovs (farRun s p t))) ∧ ∃ v w x y, σ' = [some (.ref A.o), some (nv p), some (.ref r), v, w, x, y])
    (fun H4 e4 => ⟨x3.trans e4, e4 _ _ hr3, none, none, none, none, rfl⟩) ?_ ?_
  · rintro t σ' H' ht ⟨e2, h2, v, w, x, y, rfl⟩
    refine s_forLn (ev_ways T (hO.mono e2) (ev_var rfl)) (ex_l e2 (sq_of hw1)) (fun k σ' H'' => Ex H H'' ∧ H'' r = some (.lst (ovs ((s.ways.take k).foldl (farWay t) (farRun s p t)))) ∧ ∃ w x y, σ' = [some (.ref A.o), some (nv p), some (.ref r), some (nv t), w, x, y])
      (fun H3 e3 => ⟨e2.trans e3, e3 _ _ h2, _, _, _, rfl⟩) (fun k σ' H'' hk P => ex_l P.1 (sq_of hw1)) ?_ ?_
    · rintro k x σ' H3 hx ⟨e3, h3, w, x', y, rfl⟩
      obtain ⟨a, ha, rfl⟩ := refs_get1 hx
      obtain ⟨wy, hw, hW⟩ := paired_at1 hw2 ha
      have hb := ok.wy wy (List.mem_of_getElem? hw)
      rw [take_snoc hw, List.foldl_append]
      generalize hL : (s.ways.take k).foldl (farWay t) (farRun s p t) = L at h3
      have hlen : L.length = s.n := by rw [← hL, farWays_len, farRun_len]
      refine s_forBoth (i := 5) (j := 6) (ev_var rfl) (hW.mono e3) (fun H4 c σ' H5 => Ex H H5 ∧ Tk H4 H5 ∧ H5 r = some (.lst (ovs (if c = 0 then L else if c = 1 then farStep t L wy.a wy.b else farWay t L wy))) ∧ ∃ x y, σ' = [some (.ref A.o), some (nv p), some (.ref r), some (nv t), some (.ref a), x, y])
        (fun H4 e4 => ⟨e3.trans e4, Tk.refl _, e4 _ _ h3, _, _, rfl⟩) (fun H4 c σ' H5 P => P.2.1) ?_ ?_
      · rintro H4 c σ' H5 e4 hc ⟨e5, tk, h5, x, y, rfl⟩
        have key : ∀ (M : List (Option Nat)) (a1 b1 : Nat) (Nx : L2.St → Hp → Prop) (D : Ends), M.length = s.n → a1 < s.n → b1 < s.n → H5 r = some (.lst (ovs M)) → D.nx = Nx →
            (∀ H6, Ex H H6 → Tk H4 H6 → H6 r = some (.lst (ovs (farStep t M a1 b1))) → Nx [some (.ref A.o), some (nv p), some (.ref r), some (nv t), some (.ref a), some (nv a1), some (nv b1)] H6) →
            (tIfS (tAnd (tTest (tOp rEq (tOp (rIxL K) (tVar 2) (tVar 5)) (tVar 3))) (tTest (tOp rIsN (tOp (rIxL K) (tVar 2) (tVar 6)) (tC .non)))) (tAsg (tOp rAddI (tVar 3) (tC (.int 1))) (gSub (tVar 2) (tVar 6) rSetL)) tNext) D [some (.ref A.o), some (nv p), some (.ref r), some (nv t), some (.ref a), some (nv a1), some (nv b1)] H5 := by
          intro M a1 b1 Nx D hM ha1 hb1 hr5 hD hk
          have hlM := ovs_len M
          refine s_when (b := decide (M.getD a1 none = some t) && decide (M.getD b1 none = none)) (et_and (et_test (ev_eqO (ev_ix (ev_var rfl) (sq_of hr5) (ev_var rfl) (ovs_at (by omega))) (ev_var rfl))) fun _ => et_test (ev_isO (ev_ix (ev_var rfl) (sq_of hr5) (ev_var rfl) (ovs_at (by omega))))) (fun hb H6 e6 => ?_) (fun hb H6 e6 => ?_)
          · rw [Bool.and_eq_true, decide_eq_true_eq, decide_eq_true_eq] at hb
            refine s_setL (e6 _ _ hr5) (ev_add (ev_var rfl) (ev_nat 1 rfl)) (ev_var rfl) (ev_var rfl) (by omega) fun H7 e7 => ?_
            have hf : farStep t M a1 b1 = M.set b1 (some (t + 1)) := by unfold farStep; rw [if_pos hb]
            rw [hf] at hk
            rw [hD]
            refine hk _ (Ex.mut ((e5.trans e6).trans e7) hr) ((tk.trans (Ex.tk (e6.trans e7))).put (e7 _ _ (e6 _ _ hr5))) ?_
            rw [upd_same, ← ovs_set]
            rfl
          · have hb' : ¬ (M.getD a1 none = some t ∧ M.getD b1 none = none) := fun z => by
              rw [decide_eq_true z.1, decide_eq_true z.2] at hb
              cases hb
            have hf : farStep t M a1 b1 = M := by unfold farStep; rw [if_neg hb']
            rw [hf] at hk
            rw [hD]
            exact hk H6 (e5.trans e6) (tk.trans (Ex.tk e6)) (e6 _ _ hr5)
        match c, hc with
        | 0, _ => exact key L wy.a wy.b _ _ hlen hb.1 hb.2.1 h5 rfl fun H6 g1 g2 g3 => ⟨g1, g2, g3, _, _, rfl⟩
        | 1, _ => exact key (farStep t L wy.a wy.b) wy.b wy.a _ _ ((farStep_len ..).trans hlen) hb.2.1 hb.1 h5 rfl fun H6 g1 g2 g3 => ⟨g1, g2, g3, _, _, rfl⟩
      · rintro H4 σ' H5 e4 ⟨e5, tk, h5, x, y, rfl⟩
        exact ⟨e5, h5, _, _, _, rfl⟩
    · rintro σ' H3 ⟨e3, h3, w, x, y, rfl⟩
      rw [List.length_map, paired_len hw2, List.take_length] at h3
      exact ⟨e3, h3, _, _, _, _, rfl⟩
  · rintro σ' H' ⟨e2, h2, v, w, x, y, rfl⟩
    exact s_ret (ev_var rfl) fun H3 e3 => q r H3 hr (e2.trans e3) (e3 _ _ h2)
theorem v_fewest_ways {H : Hp} {A : OA} {s : Office} {p : Nat} (hO : OffAt K H A s) (ok : Ok s) (hp : p < s.n) : SpL (sp_fewest_ways K) [.ref A.o, nv p] H (ovs (farL s p)) := fun H1 e Q q E => ⟨A, s, p, rfl, hO.mono e, ok, hp, q⟩
theorem p_swarming (T : Top K mg) (vs : List V) (H : Hp) (Q : VK) (E : XK) (h : sp_swarming K vs H Q E) : t_swarming K { nx := fun _ H' => Q .non H', rt := Q } (start ["office", "found", "number", "wood", "job", "days", "days_over"] vs) H := by
  obtain ⟨A, s, rfl, hO, ok, q⟩ := h
  obtain ⟨ps, hw1, hw2⟩ := hO.woods
  have hol := ok.ol
  refine q_asgL (el_lst ea_nil (by decide : 0 ≤ 100000)) fun f H1 hf e1 hf1 => ?_
  refine q_forE (ea_cons (ev_woods T (hO.mono e1) (ev_var rfl)) ea_nil) (ex_l e1 (sq_of hw1)) (fun k σ' H' => Ex H H' ∧ (∃ qs : List Addr, H' f = some (.lst (qs.map V.ref)) ∧ Paired (SwAt s H') qs ((List.range k).filterMap (swarmAt s)) ∧ qs.length ≤ k) ∧ ∃ v w x y z, σ' = [some (.ref A.o), some (.ref f), v, w, x, y, z])
    (fun H2 e2 => ⟨e1.trans e2, ⟨[], e2 _ _ hf1, .nil, Nat.le_refl _⟩, none, none, none, none, none, rfl⟩) (fun k σ' H' _ P => ex_l P.1 (sq_of hw1)) ?_ ?_
  · rintro k x σ' H' hx ⟨e2, ⟨qs, h1, h2, h3⟩, v, w, x', y, z, rfl⟩ H2 e3 _
    obtain ⟨a, ha, rfl⟩ := refs_get1 hx
    obtain ⟨wd, hwd, hW⟩ := paired_at1 hw2 ha
    have hk := (List.getElem?_eq_some_iff.mp hwd).1
    have hb := ok.wd wd (List.mem_of_getElem? hwd)
    have eA := e2.trans e3
    have h1A := e3 _ _ h1
    refine q_asg (ev_add (ev_nat 32 rfl) (ev_var rfl)) fun H3 e4 => ?_
    have eB := eA.trans e4
    have hOB := hO.mono eB
    have hWB := hW.mono eB
    obtain ⟨kvs, hd1, hd2, hd3⟩ := hOB.beetles
    have hbee := hd3 wd.kind
    -- the beetles' two numbers
    generalize hbo : s.beetles.find? (fun b => b.kind == wd.kind) = bo at hbee
    have hsw : swarmAt s k = bo.bind fun b => if 0 < b.days ∧ s.done.contains (32 + k) = false then some (32 + k, wd.day + b.days, b.gap, wd.place) else none := by
      unfold swarmAt
      rw [hwd, Option.bind_some, beetleOf_eq ok, hbo]
      cases bo with
      | none => rfl
      | some b =>
        simp only [Option.bind_some]
        by_cases c : 0 < b.days
        · rw [if_pos c, Option.bind_some]
          cases s.done.contains (32 + k) <;> simp [c]
        · rw [if_neg c, Option.bind_none, if_neg (fun z => c z.1)]
    let dd : Nat := (bo.map fun b => b.days).getD 0
    let gg : Nat := (bo.map fun b => b.gap).getD 1
    refine q_asgPT (is := [5, 6]) (ws := [nv dd, nv gg]) (ep_dget2U (ev_beetles T hOB (ev_var rfl)) (ev_d_kind T hWB (ev_var rfl)) (eu_tup (ea_cons (ev_nat 0 rfl) (ea_cons (ev_nat 1 rfl) ea_nil)) (by decide : 2 ≤ 100000)) hd1) (fun v H4 e5 hv => ?_) rfl fun H4 e5 => ?_
    · cases bo with
      | none =>
        obtain ⟨r, h4, h5⟩ := hv.2 hbee
        exact ⟨r, h4, SqT.of h5⟩
      | some b =>
        obtain ⟨r, h4, h5⟩ := hbee
        refine ⟨r, ?_, SqT.of (e5 _ _ h5)⟩
        rw [hv.1, h4]
        rfl
    · have eC := eB.trans e5
      have hOC := hO.mono eC
      have hWC := hW.mono eC
      refine s_when (b := decide (0 < dd) && !s.done.reverse.contains (32 + k)) (et_and (et_test (ev_gt (ev_var rfl) (ev_nat 0 rfl))) fun _ => et_test (ev_notIn (ev_var rfl) (ev_jobs_done T hOC (ev_var rfl)) (sq_of hOC.done))) (fun hc H5 e6 => ?_) (fun hc H5 e6 => ?_)
      · rw [Bool.and_eq_true, decide_eq_true_eq, contains_rev, Bool.not_eq_true'] at hc
        have eD := eC.trans e6
        have hOD := hO.mono eD
        have hWD := hW.mono eD
        have h1D := e6 _ _ (e5 _ _ (e4 _ _ h1A))
        cases bo with
        | none => exact absurd hc.1 (by simp [dd])
        | some b =>
          have hs : swarmAt s k = some (32 + k, wd.day + b.days, b.gap, wd.place) := by
            rw [hsw, Option.bind_some, if_pos ⟨hc.1, hc.2⟩]
          refine s_appG (P := fun v H6 => ∃ r, v = .ref r ∧ SwAt s H6 r (32 + k, wd.day + b.days, b.gap, wd.place)) h1D (ev_var rfl) (ep_tup (P := fun vs H6 => ∃ o, vs = [nv (32 + k), nv (wd.day + b.days), nv b.gap, .ref o] ∧ H6 o = some (.lst (ovs (farL s wd.place)))) ?_ ?_ ?_) (by rw [List.length_map]; omega) fun v H6 e7 hv => ?_
          · refine eap_cons (ep_ev (ev_var rfl)) fun v1 H6 g1 hv1 => ?_
            refine eap_cons (ep_ev (ev_add (ev_d_day T (hWD.mono g1) (ev_var rfl)) (ev_var rfl))) fun v2 H7 g2 hv2 => ?_
            refine eap_cons (ep_ev (ev_var rfl)) fun v3 H8 g3 hv3 => ?_
            have g := (g1.trans g2).trans g3
            refine eap_cons (ep_l (el_call (ea_cons (ev_var rfl) (ea_cons (ev_d_place T (hWD.mono g) (ev_var rfl)) ea_nil)) (v_fewest_ways (hOD.mono g) ok hb.1))) fun v4 H9 g4 hv4 => eap_nil fun H10 g5 => ?_
            obtain ⟨o, rfl, ho⟩ := hv4
            subst hv1 hv2 hv3
            exact ⟨o, rfl, g5 _ _ ho⟩
          · rintro vs H6 ⟨o, rfl, _⟩
            exact (by decide : 4 ≤ 100000)
          · rintro vs H6 r _ ⟨o, rfl, ho⟩ hr
            exact ⟨r, rfl, o, upd_same, Ex.new hr _ _ ho⟩
          · obtain ⟨r, rfl, hr⟩ := hv
            refine ⟨Ex.mut (eD.trans e7) hf, ⟨qs ++ [r], ?_, ?_, ?_⟩, _, _, _, _, _, rfl⟩
            · rw [upd_same, List.map_append]; rfl
            · rw [List.range_succ, List.filterMap_append, List.filterMap_cons, hs]
              refine Paired.snoc ?_ (hr.put ok (e7 _ _ h1D))
              exact paired_mono (fun _ _ z => ((z.mono ((e3.trans e4).trans (e5.trans (e6.trans e7)))).put ok (e7 _ _ h1D))) h2
            · rw [List.length_append]; simp; omega
      · have hs : swarmAt s k = none := by
          rw [hsw]
          cases bo with
          | none => rfl
          | some b =>
            rw [Option.bind_some, if_neg]
            intro z
            rw [contains_rev, z.2, decide_eq_true (show 0 < dd from z.1)] at hc
            cases hc
        refine ⟨eC.trans e6, ⟨qs, e6 _ _ (e5 _ _ (e4 _ _ h1A)), ?_, by omega⟩, _, _, _, _, _, rfl⟩
        rw [List.range_succ, List.filterMap_append, List.filterMap_cons, hs, List.filterMap_nil, List.append_nil]
        exact paired_mono (fun _ _ z => z.mono ((e3.trans e4).trans (e5.trans e6))) h2
  · rintro σ' H' ⟨e2, ⟨qs, h1, h2, h3⟩, v, w, x, y, z, rfl⟩
    rw [List.length_map, paired_len hw2] at h2
    exact s_ret (ev_var rfl) fun H3 e3 => q (.ref f) H3 (e2.trans e3) ⟨f, qs, rfl, e3 _ _ h1, paired_mono (fun _ _ z => z.mono e3) h2⟩
theorem v_swarming {H : Hp} {A : OA} {s : Office} (hO : OffAt K H A s) (ok : Ok s) : ∀ H1, Ex H H1 → ∀ Q : VK, RetP (isSwarms s) H1 Q → ∀ E : XK, sp_swarming K [.ref A.o] H1 Q E := fun H1 e Q q E => ⟨A, s, rfl, hO.mono e, ok, q⟩
theorem p_strikes_at (T : Top K mg) (vs : List V) (H : Hp) (Q : VK) (E : XK) (h : sp_strikes_at K vs H Q E) : t_strikes_at K { nx := fun _ H' => Q .non H', rt := Q } (start ["swarms", "place", "job", "day", "days_over", "far"] vs) H := by
  obtain ⟨s, v, p, rfl, ok, ⟨l, ps, rfl, h1, h2⟩, hp, q⟩ := h
  have hlen := paired_len h2
  have hsl := swarmsL_len ok
  let d0 : Nat × Nat × Nat × Nat := (0, 0, 0, 0)
  have key := eos_lc (K := K) (a := l) (xs := ps.map V.ref) (tA := iList K (tVar 0)) (g := gTup K 4 (gCons (gName 2) (gCons (gName 3) (gCons (gName 4) (gCons (gName 5) gNil))))) (t := tTest (tOp rNotN (tOp (rIxL K) (tVar 5) (tVar 1)) (tC .non)))
    (te := tTup (tCons (tVar 2) (tCons (tVar 3) (tCons (tOp rAddI (tVar 3) (tOp rMulI (tOp (rIxL K) (tVar 5) (tVar 1)) (tVar 4))) tNil)))) (vs := [2, 3, 4, 5]) (σ := [some (.ref l), some (nv p), none, none, none, none]) (H := H) HO.tup
    (fun k => !decide (s.apart ((swarmsL s).getD k d0).2.2.2 p = none)) (fun k => strikeT ((strike s p ((swarmsL s).getD k d0)).getD (0, 0, 0))) (by rw [List.length_map]; omega) (it_list (ev_var rfl) (sq_of h1)) ?_
  · have e : ((List.range (ps.map V.ref).length).filter fun k => !decide (s.apart ((swarmsL s).getD k d0).2.2.2 p = none)).map (fun k => strikeT ((strike s p ((swarmsL s).getD k d0)).getD (0, 0, 0))) = (strikesL s p).map strikeT := by
      rw [List.length_map, hlen]
      refine range_fm fun k x hx => ?_
      rw [List.getD_eq_getElem?_getD, hx, Option.getD_some]
      unfold strike
      cases s.apart x.2.2.2 p with
      | none => exact ⟨rfl, fun y hy => by cases hy⟩
      | some f => exact ⟨rfl, fun y hy => by rw [hy]; rfl⟩
    rw [e] at key
    exact s_retTs key.ts q
  · intro k x hk H2 e2
    obtain ⟨o, ho, rfl⟩ := refs_get1 hk
    obtain ⟨x, hx, f, g1, g2⟩ := paired_at1 h2 ho
    have hgd : (swarmsL s).getD k d0 = x := by rw [List.getD_eq_getElem?_getD, hx]; rfl
    have hpl := swarm_mem ok (List.mem_of_getElem? hx)
    have hfl := farL_len s x.2.2.2
    have hix : (ovs (farL s x.2.2.2))[p]? = some (ov (s.apart x.2.2.2 p)) := by
      rw [ovs_at (by omega), farL_at ok hpl hp]
    refine ⟨[some (.ref l), some (nv p), some (nv x.1), some (nv x.2.1), some (nv x.2.2.1), some (.ref f)], fun Q q => gTup_ok (is := [2, 3, 4, 5]) (SqT.of (e2 _ _ g1)) rfl q, rfl, ?_, fun hf => ?_⟩
    · rw [hgd]
      exact et_test (ev_notO (ev_ix (ev_var rfl) (sq_of (e2 _ _ g2)) (ev_var rfl) hix))
    · rw [hgd] at hf ⊢
      cases ha : s.apart x.2.2.2 p with
      | none => rw [ha] at hf; cases hf
      | some d =>
        have hd := apart_le ha
        have hn := ok.n16
        have hst : strikeT ((strike s p x).getD (0, 0, 0)) = [nv x.1, nv x.2.1, nv (x.2.1 + d * x.2.2.1)] := by
          unfold strike
          rw [ha]
          rfl
        rw [hst]
        rw [ha] at hix
        exact en_tup (ea_cons (ev_var rfl) (ea_cons (ev_var rfl) (ea_cons (ev_add (ev_var rfl) (ev_mul (by omega) (ev_ix (ev_var rfl) (sq_of (e2 _ _ g2)) (ev_var rfl) hix) (ev_var rfl))) ea_nil))) (by decide : 3 ≤ 100000)
theorem v_strikes_at {H : Hp} {s : Office} {v : V} {p : Nat} (ok : Ok s) (hv : isSwarms s v H) (hp : p < s.n) : SpTs (sp_strikes_at K) [v, nv p] H ((strikesL s p).map strikeT) := fun H1 e Q q E => ⟨s, v, p, rfl, ok, hv.mono e, hp, q⟩
/-- strikes_at(swarming(office), place) -/
theorem ets_strikes {σ : L2.St} {H : Hp} {A : OA} {s : Office} {p : Nat} {ta tb : TE} {E1 E2 : XK} (hO : OffAt K H A s) (ok : Ok s) (hp : p < s.n) (ha : Ev ta σ H (.ref A.o)) (hb : ∀ H1, Ex H H1 → Ev tb σ H1 (nv p)) :
    EvTs (tCall (sp_strikes_at K) [] E1 (tCons (tCall (sp_swarming K) [] E2 (tCons ta tNil)) (tCons tb tNil))) σ H ((strikesL s p).map strikeT) :=
  ets_callG (P := fun vs H2 => ∃ v, vs = [v, nv p] ∧ isSwarms s v H2) (eap_cons (P := isSwarms s) (ep_callG (P := fun vs _ => vs = [.ref A.o]) (eap_of (ea_cons ha ea_nil)) fun vs H1 e hvs Q q => by
      subst hvs
      exact v_swarming hO ok H1 e Q q _) fun v H1 e hv => eap_cons (ep_ev (hb H1 e)) fun w H2 e2 hw => eap_nil fun H3 e3 => ⟨v, by rw [hw], hv.mono (e2.trans e3)⟩)
    fun vs H1 e hvs => by
      obtain ⟨v, rfl, hv⟩ := hvs
      exact v_strikes_at ok hv hp
theorem p_due_for (T : Top K mg) (vs : List V) (H : Hp) (Q : VK) (E : XK) (h : sp_due_for K vs H Q E) : t_due_for K { nx := fun _ H' => Q .non H', rt := Q } (start ["office", "place", "last", "job", "day", "struck"] vs) H := by
  obtain ⟨A, s, p, day, rfl, hO, ok, hp, q⟩ := h
  have hsl := strikesL_len ok p
  have key := eos_lcTN (K := K) (is := [3, 4, 5]) (te := tTup (tCons (tVar 3) (tCons (tVar 4) tNil))) (t := tTest (tOp rLe (tVar 5) (tVar 2))) (vs := [3, 4, 5]) (σ := [some (.ref A.o), some (nv p), some (nv day), none, none, none]) HO.tup ((strikesL s p).map strikeT)
    (fun t => match t with | [_, _, .int z] => decide (z ≤ (day : Int)) | _ => false) (fun t => t.take 2) (ets_strikes (ta := tVar 0) (tb := tVar 1) (E1 := C8.E0) (E2 := C8.E0) hO ok hp (ev_var rfl) fun H1 e => ev_var rfl) (by rw [List.length_map]; omega) (fun t ht => by
      obtain ⟨x, _, rfl⟩ := List.mem_map.mp ht
      rfl) (fun t ht => by
      match t, ht with
      | [a, b, c], _ => rfl) (fun t ht H1 e => by
      obtain ⟨x, _, rfl⟩ := List.mem_map.mp ht
      exact et_test (ev_leI (ev_var rfl) (ev_var rfl))) (fun t ht H1 e _ => by
      obtain ⟨x, _, rfl⟩ := List.mem_map.mp ht
      exact en_tup (ea_cons (ev_var rfl) (ea_cons (ev_var rfl) ea_nil)) (by decide : 2 ≤ 100000))
  have e : (((strikesL s p).map strikeT).filter (fun t => match t with | [_, _, .int z] => decide (z ≤ (day : Int)) | _ => false)).map (fun t => t.take 2) = (s.due p day).map pairT := by
    rw [due_eq, List.filter_map, List.map_map, List.map_map]
    have : ((fun t : List V => match t with | [_, _, .int z] => decide (z ≤ (day : Int)) | _ => false) ∘ strikeT) = fun x => decide (x.2.2 ≤ day) := by
      funext x
      exact decide_eq_decide.mpr Int.ofNat_le
    rw [this]
    rfl
  rw [e] at key
  exact s_retTs key.ts q
theorem v_due_for {H : Hp} {A : OA} {s : Office} {p day : Nat} (hO : OffAt K H A s) (ok : Ok s) (hp : p < s.n) : SpTs (sp_due_for K) [.ref A.o, nv p, nv day] H ((s.due p day).map pairT) := fun H1 e Q q E => ⟨A, s, p, day, rfl, hO.mono e, ok, hp, q⟩
theorem p_struck_up_to (T : Top K mg) (vs : List V) (H : Hp) (Q : VK) (E : XK) (h : sp_struck_up_to K vs H Q E) : t_struck_up_to K { nx := fun _ H' => Q .non H', rt := Q } (start ["office", "last", "swarms", "found", "place", "days", "job", "day", "struck"] vs) H := by
  obtain ⟨A, s, day, rfl, hO, ok, q⟩ := h
  have hn := ok.n16
  refine q_asgG (P := isSwarms s) (ep_callG (P := fun vs _ => vs = [.ref A.o]) (eap_of (ea_cons (ev_var rfl) ea_nil)) fun vs H1 e hvs Q q => by
      subst hvs
      exact v_swarming hO ok H1 e Q q _) fun sw H1 e1 hsw => ?_
  refine q_asgL (el_lst ea_nil (by decide : 0 ≤ 100000)) fun f H2 hf e2 hf2 => ?_
  have e12 := e1.trans e2
  have hsw2 := hsw.mono e2
  let good : Nat → Bool := fun p => decide (0 < (daysL s p day).length)
  let val : Nat → List V := fun p => [nv p, nv (minL (daysL s p day))]
  refine q_forR1 (n := ((s.n : Nat) : Int)) (ea_cons (ev_places T (hO.mono e12) (ev_var rfl)) ea_nil) (by omega)
    (fun k σ' H' => Ex H H' ∧ isSwarms s sw H' ∧ (∃ qs : List Addr, H' f = some (.lst (qs.map V.ref)) ∧ Tups H' qs (((List.range k).filter good).map val) ∧ qs.length ≤ k ∧ sw ≠ .ref f) ∧ ∃ v w x y z, σ' = [some (.ref A.o), some (nv day), some sw, some (.ref f), v, w, x, y, z])
    (fun H3 e3 => ⟨e12.trans e3, hsw2.mono e3, ⟨[], e3 _ _ hf2, .nil, Nat.le_refl _, by
      rintro rfl
      obtain ⟨r, rs, h1, h2, _⟩ := hsw
      have : f = r := V.ref.inj h1
      rw [← this, hf] at h2
      cases h2⟩, none, none, none, none, none, rfl⟩) ?_ ?_
  · rintro k σ' H' hk ⟨p1, p2, ⟨qs, p3, p4, p5, p6⟩, v, w, x, y, z, rfl⟩
    have hk' : k < s.n := by omega
    have hdl : (daysL s k day).length ≤ 10 := by
      unfold daysL
      rw [List.length_map]
      exact Nat.le_trans (List.length_filter_le _ _) (strikesL_len ok k)
    have key := el_lcTBN (K := K) (is := [6, 7, 8]) (tl := tCall (sp_strikes_at K) [] C8.E0 (tCons (tVar 2) (tCons (tVar 4) tNil))) (te := tVar 8) (t := tTest (tOp rLe (tVar 8) (tVar 1))) (vs := [6, 7, 8]) (σ := [some (.ref A.o), some (nv day), some sw, some (.ref f), some (nv k), w, x, y, z]) (H := H')
      (strikesL s k) strikeT (fun x => decide (x.2.2 ≤ day)) (fun x => nv x.2.2) (ets_call (ea_cons (ev_var rfl) (ea_cons (ev_var rfl) ea_nil)) (v_strikes_at ok p2 hk')) (by have := strikesL_len ok k; omega) (fun _ _ => rfl) (fun t ht => by
        match t, ht with
        | [a, b, c], _ => rfl) (fun x hx H1 e => et_test (ev_le (ev_var rfl) (ev_var rfl))) (fun x hx H1 e _ => ev_var rfl)
    refine q_asgL key fun o H3 ho e3 h3 => ?_
    have hlst : ((strikesL s k).filter fun x => decide (x.2.2 ≤ day)).map (fun x => nv x.2.2) = nvs (daysL s k day) := by
      unfold daysL nvs
      rw [List.map_map]
      rfl
    rw [hlst] at h3
    refine s_when (b := good k) (et_test (ev_is (ev_gt (ev_is (ev_lenL (ev_var rfl) (sq_of h3)) (by rw [nvs_len])) (ev_nat 0 rfl)) rfl)) (fun hb H4 e4 => ?_) (fun hb H4 e4 => ?_)
    · have hne : daysL s k day ≠ [] := List.length_pos_iff.mp (of_decide_eq_true hb)
      refine s_appU (xs := qs.map V.ref) (ys := val k) (e4 _ _ (e3 _ _ p3)) (ev_var rfl) (eu_tup (ea_cons (ev_var rfl) (ea_cons (ev_minN hne (ev_var rfl) (sq_of (e4 _ _ h3))) ea_nil)) (by decide : 2 ≤ 100000)) (by rw [List.length_map]; omega) fun t H5 ht e5 h5 => ?_
      have hne2 : t ≠ f := by
        rintro rfl
        rw [e4 _ _ (e3 _ _ p3)] at ht
        cases ht
      have h5f := e5 _ _ (e4 _ _ (e3 _ _ p3))
      refine ⟨Ex.mut (((p1.trans e3).trans e4).trans e5) (fresh_back e1 hf), ?_, ⟨qs ++ [t], ?_, ?_, ?_, p6⟩, _, _, _, _, _, rfl⟩
      · obtain ⟨r, rs, rfl, g1, g2⟩ := p2.mono (e3.trans (e4.trans e5))
        exact ⟨r, rs, rfl, by rw [upd_ne (fun c => p6 (by rw [c]))]; exact g1, paired_mono (fun _ _ z => z.put ok h5f) g2⟩
      · rw [upd_same, List.map_append]; rfl
      · rw [range_yes _ hb]
        exact Paired.snoc ((p4.mono (e3.trans (e4.trans e5))).put h5f) (by rw [upd_ne hne2]; exact h5)
      · rw [List.length_append]; simp; omega
    · refine ⟨(p1.trans e3).trans e4, p2.mono (e3.trans e4), ⟨qs, e4 _ _ (e3 _ _ p3), ?_, by omega, p6⟩, _, _, _, _, _, rfl⟩
      rw [range_no _ hb]
      exact p4.mono (e3.trans e4)
  · rintro σ' H' ⟨p1, p2, ⟨qs, p3, p4, p5, p6⟩, v, w, x, y, z, rfl⟩
    refine s_ret (ev_var rfl) fun H5 e5 => q f qs H5 (fresh_back e1 hf) (p1.trans e5) (e5 _ _ p3) ?_
    have : (s.struck day).map pairT = ((List.range (s.n : Int).toNat).filter good).map val := by
      rw [struck_eq, List.map_map, Int.toNat_natCast]
      rfl
    rw [this]
    exact p4.mono e5
theorem v_struck_up_to {H : Hp} {A : OA} {s : Office} {day : Nat} (hO : OffAt K H A s) (ok : Ok s) : SpTs (sp_struck_up_to K) [.ref A.o, nv day] H ((s.struck day).map pairT) := fun H1 e Q q E => ⟨A, s, day, rfl, hO.mono e, ok, q⟩
end
end Sc
end

section
set_option Elab.async false
set_option linter.all false
set_option maxRecDepth 100000
set_option maxHeartbeats 4000000
namespace Sc
open PySem PySem.Spec PyProof.Rows L2 Evl
open TimStorm (Office Way Wood Table Beetle)
/-- what's due, as a dict -/
def dueK (d : List (Nat × Nat)) : List (Key × V) := d.map fun x => (.inl (x.1 : Int), nv x.2)
theorem valV_due (d : List (Nat × Nat)) (j : Nat) : valV (dueK d) (.inl (j : Int)) = (d.find? fun x => x.1 == j).map fun x => nv x.2 := by
  induction d with
  | nil => rfl
  | cons a d ih =>
    show valV ((.inl (a.1 : Int), nv a.2) :: dueK d) _ = _
    by_cases c : a.1 = j
    · rw [valV_pos (by rw [c]), List.find?_cons_of_pos (by simpa using c)]
      rfl
    · rw [valV_neg (fun z => c (by have := Sum.inl.inj z; omega)), List.find?_cons_of_neg (by simpa using c), ih]
theorem valV_due_some (d : List (Nat × Nat)) (j : Nat) : (valV (dueK d) (.inl (j : Int))).isSome = d.any fun x => x.1 == j := by
  rw [valV_due, Option.isSome_map, Bool.eq_iff_iff, List.find?_isSome, List.any_eq_true]
theorem mergeK_due {d : List (Nat × Nat)} (hn : (d.map (·.1)).Nodup) : mergeK [] (dueK d) = dueK d := by
  have key : ∀ (d acc : List (Nat × Nat)), ((acc ++ d).map (·.1)).Nodup → mergeK (dueK acc) (dueK d) = dueK (acc ++ d) := by
    intro d
    induction d with
    | nil => intro acc _; rw [List.append_nil]; rfl
    | cons a d ih =>
      intro acc h
      show mergeK (putK (dueK acc) (.inl (a.1 : Int)) (nv a.2)) (dueK d) = _
      have e : putK (dueK acc) (.inl (a.1 : Int)) (nv a.2) = dueK (acc ++ [a]) := by
        unfold putK
        rw [if_neg]
        · unfold dueK
          rw [List.map_append]
          rfl
        · intro z
          obtain ⟨x, hx, he⟩ := List.any_eq_true.mp z
          obtain ⟨y, hy, rfl⟩ := List.mem_map.mp hx
          have he := of_decide_eq_true he
          have he : y.1 = a.1 := by have := Sum.inl.inj he; omega
          rw [List.map_append, List.nodup_append] at h
          exact h.2.2 y.1 (List.mem_map.mpr ⟨y, hy, rfl⟩) a.1 (by simp) he
      rw [e, ih (acc ++ [a]) (by rw [List.append_assoc]; exact h), List.append_assoc]
      rfl
  exact key d [] (by simpa using hn)
def sp_steps_in_time (K : PySem.W.Frag) : Sp := fun vs H Q _ => ∃ (A : OA) (s : Office) (l a : Addr) (d : List (Nat × Nat)) (m : Nat), vs = [.ref A.o, .ref l, .ref a, nv m] ∧ OffAt K H A s ∧ Ok s ∧ SqL K H l (nvs s.left) ∧ H a = some (.dK (dueK d)) ∧ (d.map (·.1)).Nodup ∧ RetL (nvs (goodS s d m)) H Q
def sp_has_all_due (K : PySem.W.Frag) : Sp := fun vs H Q _ => ∃ (s : Office) (l a : Addr) (d : List (Nat × Nat)) (m : Nat), vs = [.ref l, .ref a, nv m] ∧ Ok s ∧ SqL K H l (nvs s.left) ∧ H a = some (.dK (dueK d)) ∧ RetV (.bl (hasAll s d m)) H Q
def sp_jobs_wanting (K : PySem.W.Frag) : Sp := fun vs H Q _ => ∃ (A : OA) (s : Office) (l a : Addr) (d : List (Nat × Nat)), vs = [.ref A.o, .ref l, .ref a] ∧ OffAt K H A s ∧ Ok s ∧ SqL K H l (nvs s.left) ∧ H a = some (.dK (dueK d)) ∧ (d.map (·.1)).Nodup ∧ RetL (ovs (want (goodS s d) (hasAll s d) s.left.length)) H Q
def isOrd (o : Option (List Nat)) : HP := fun v H => match o with
  | none => v = .non
  | some l => ∃ a, v = .ref a ∧ H a = some (.lst (nvs l))
def sp_saving_order (K : PySem.W.Frag) : Sp := fun vs H Q _ => ∃ (A : OA) (s : Office) (p day : Nat), vs = [.ref A.o, nv p, nv day] ∧ OffAt K H A s ∧ Ok s ∧ p < s.n ∧ RetP (isOrd (s.save p day)) H Q
theorem sc_steps_in_time : FnScope ["office", "jobs", "due", "members", "at", "day"] ["office", "jobs", "due", "members"] (defScope s_steps_in_time) := C8.fnScope_by (by decide +kernel)
def t_steps_in_time (K : PySem.W.Frag) : TS :=
  (tRet (tLc (iList K (tCall (sp_steps_from K) [] C8.E0 (tCons (tVar 0) (tCons (tFld K (tVar 0) "hours_a_day") (tCons (tVar 1) (tCons (tVar 3) tNil)))))) (gTup K 2 (gCons (gName 4) (gCons (gName 5) gNil))) (tTest (tOp rLe (tVar 5) (tDGet2 (tVar 2) (tOp (rIxL K) (tVar 1) (tVar 4)) (tVar 5)))) (tVar 4) [4, 5]))
theorem sc_has_all_due : FnScope ["jobs", "due", "members", "at", "job"] ["jobs", "due", "members"] (defScope s_has_all_due) := C8.fnScope_by (by decide +kernel)
def t_has_all_due (K : PySem.W.Frag) : TS :=
  (tRet (tCB (rAll K) (tCons (tLc (iEnum K (tCons (tVar 0) tNil)) (gTup K 2 (gCons (gName 3) (gCons (gName 4) gNil))) (tB (tDIn (tVar 4) (tVar 1))) (tCall (sp_has K) [] C8.E0 (tCons (tVar 2) (tCons (tVar 3) tNil))) [3, 4]) tNil)))
theorem sc_jobs_wanting : FnScope ["office", "jobs", "due", "wanting", "members", "behind", "possible", "at", "many"] ["office", "jobs", "due"] (defScope s_jobs_wanting) := C8.fnScope_by (by decide +kernel)
def t_jobs_wanting (K : PySem.W.Frag) : TS :=
  (tSeq (tAsg (tOp rRep (tLst (tCons (tC .non) tNil)) (tCall (sp_how_many_sets K) [] C8.E0 (tCons (tVar 1) tNil))) (gName 3))
    (tSeq (tFor (iRng3 (tCons (tOp rSubI (tCall (sp_how_many_sets K) [] C8.E0 (tCons (tVar 1) tNil)) (tC (.int 1))) (tCons (tUn (rU fun i => .int (-i)) (tC (.int 1))) (tCons (tUn (rU fun i => .int (-i)) (tC (.int 1))) tNil)))) (gName 4) (tIfS (tB (tCall (sp_has_all_due K) [] C8.E0 (tCons (tVar 1) (tCons (tVar 2) (tCons (tVar 4) tNil))))) (tAsg (tC (.int 0)) (gSub (tVar 3) (tVar 4) rSetL)) (tSeq (tAsg (tLc (iList K (tCall (sp_steps_in_time K) [] C8.E0 (tCons (tVar 0) (tCons (tVar 1) (tCons (tVar 2) (tCons (tVar 4) tNil)))))) (gName 7) tYes (tOp (rIxL K) (tVar 3) (tCall (sp_joined K) [] C8.E0 (tCons (tVar 4) (tCons (tVar 7) tNil)))) [7]) (gName 5))
    (tSeq (tAsg (tLc (iList K (tVar 5)) (gName 8) (tTest (tOp rNotN (tVar 8) (tC .non))) (tOp rAddI (tVar 8) (tC (.int 1))) [8]) (gName 6))
    (tAsg (tIf (tTest (tOp rGtI (tCB (rLenS K) (tCons (tVar 6) tNil)) (tC (.int 0)))) (tCB (rMin K) (tCons (tVar 6) tNil)) (tC .non)) (gSub (tVar 3) (tVar 4) rSetL))))))
    (tRet (tVar 3))))
theorem sc_saving_order : FnScope ["office", "place", "last", "jobs", "due", "wanting", "order", "members", "many", "fitting", "job", "at"] ["office", "place", "last"] (defScope s_saving_order) := C8.fnScope_by (by decide +kernel)
def t_saving_order (K : PySem.W.Frag) : TS :=
  (tSeq (tAsg (tCall (sp_left_jobs K) [] C8.E0 (tCons (tVar 0) tNil)) (gName 3))
    (tSeq (tAsg (tCB (rDictP K) (tCons (tCall (sp_due_for K) [] C8.E0 (tCons (tVar 0) (tCons (tVar 1) (tCons (tVar 2) tNil)))) tNil)) (gName 4))
    (tSeq (tIfS (tNot (tB (tCB (rAll K) (tCons (tLockE (tLc (iKeys (tVar 4)) (gName 10) tYes (tOp (rIn K false) (tVar 10) (tVar 3)) [10])) tNil)))) (tRet (tC .non)) tNext)
    (tSeq (tAsg (tCall (sp_jobs_wanting K) [] C8.E0 (tCons (tVar 0) (tCons (tVar 3) (tCons (tVar 4) tNil)))) (gName 5))
    (tSeq (tIfS (tTest (tOp rIsN (tOp (rIxL K) (tVar 5) (tC (.int 0))) (tC .non))) (tRet (tC .non)) tNext)
    (tSeq (tAsg (tLst tNil) (gName 6))
    (tSeq (tAsg (tC (.int 0)) (gName 7))
    (tSeq (tFor (iRng3 (tCons (tOp rSubI (tOp (rIxL K) (tVar 5) (tC (.int 0))) (tC (.int 1))) (tCons (tUn (rU fun i => .int (-i)) (tC (.int 1))) (tCons (tUn (rU fun i => .int (-i)) (tC (.int 1))) tNil)))) (gName 8) (tSeq (tAsg (tLc (iList K (tCall (sp_steps_in_time K) [] C8.E0 (tCons (tVar 0) (tCons (tVar 3) (tCons (tVar 4) (tCons (tVar 7) tNil)))))) (gName 11) (tTest (tOp rEq (tOp (rIxL K) (tVar 5) (tCall (sp_joined K) [] C8.E0 (tCons (tVar 7) (tCons (tVar 11) tNil)))) (tVar 8))) (tVar 11) [11]) (gName 9))
    (tSeq (tDrop (tBM K "list" rAppend (tVar 6) (tCons (tOp (rIxL K) (tVar 3) (tOp (rIxL K) (tVar 9) (tC (.int 0)))) tNil)))
    (tAsg (tCall (sp_joined K) [] C8.E0 (tCons (tVar 7) (tCons (tOp (rIxL K) (tVar 9) (tC (.int 0))) tNil))) (gName 7)))))
    (tRet (tVar 6))))))))))
section
variable {K : PySem.W.Frag} {mg : Str → Option Value}
/-- [k in js for k in a dict] -/
theorem el_keysIn {σ : L2.St} {H : Hp} {a l : Addr} {d : List (Nat × Nat)} {js : List Nat} {ia j il : Nat} (hl : H l = some (.lst (nvs js))) (ha : H a = some (.dK (dueK d))) (hz : d.length ≤ 40000) (h1 : σ[ia]? = some (some (.ref a)))
    (hw : ∀ x, wipe ((wipe σ [j]).set j (some x)) [j] = wipe σ [j]) (h2 : ∀ x, ((wipe σ [j]).set j (some x))[il]? = some (some (.ref l))) (h3 : ∀ x, ((wipe σ [j]).set j (some x))[j]? = some (some x)) :
    EvL (tLockE (tLc (iKeys (tVar ia)) (gName j) tYes (tOp (rIn K false) (tVar j) (tVar il)) [j])) σ H ((d.map fun x => js.contains x.1).map V.bl) := fun H1 e1 Q q => by
  have ha1 := e1 _ _ ha
  have hl1 := e1 _ _ hl
  have hal : l ≠ a := by
    rintro rfl
    rw [ha] at hl
    cases hl
  refine ⟨a, .dK (dueK d), ha1, trivial, fun od => ?_⟩
  refine ⟨_, h1, a, od, rfl, .inl ⟨dueK d, upd_same, fun Dl hD => ?_⟩⟩
  have hDa : Dl ≠ a := by
    rintro rfl
    rw [upd_same] at hD
    cases hD
  have hD1 : H1 Dl = none := by rwa [upd_ne hDa] at hD
  refine lc_it (walk_keys (d := a) (o := od) (kvs := dueK d)) (fun k H' => H' a = some (.frz od (.dK (dueK d))) ∧ (∀ b o, b ≠ a → H1 b = some o → H' b = some o) ∧ H' Dl = some (.lst (((d.take k).map fun x => js.contains x.1).map V.bl)))
    ⟨by rw [upd_ne (Ne.symm hDa)]; exact upd_same, fun b o hb hbo => by
      have hbD : b ≠ Dl := by
        rintro rfl
        rw [hD1] at hbo
        cases hbo
      rw [upd_ne hbD, upd_ne hb]
      exact hbo, upd_same⟩ (fun k H' _ P => P.1) (fun k x H2 H3 hk P y => ?_) (fun H' P => ?_)
  · obtain ⟨rfl, kk, v, hkv, rfl⟩ := y
    obtain ⟨p1, p2, p3⟩ := P
    unfold dueK at hkv
    rw [List.getElem?_map] at hkv
    obtain ⟨z, hz', he⟩ := Option.map_eq_some_iff.mp hkv
    obtain ⟨rfl, rfl⟩ := Prod.mk.inj he
    refine ⟨hw _, et_yes H3 (Ex.refl _) _ fun H4 e4 => ?_⟩
    rw [if_pos rfl]
    have hlt := (List.getElem?_eq_some_iff.mp hz').1
    refine (ev_in (j := z.1) (ev_var (h3 _)) (ev_var (h2 _)) (sq_of (e4 _ _ (p2 l _ hal hl1)))) H4 (Ex.refl _) _ fun H5 e5 => ?_
    have e45 := e4.trans e5
    refine ⟨_, e45 _ _ p3, sz_lt (by rw [List.length_map, List.length_map, List.length_take]; omega), ?_, ?_, ?_⟩
    · rw [upd_ne (Ne.symm hDa)]
      exact e45 _ _ p1
    · intro b o hb hbo
      have hbD : b ≠ Dl := by
        rintro rfl
        rw [hD1] at hbo
        cases hbo
      rw [upd_ne hbD]
      exact e45 _ _ (p2 b o hb hbo)
    · rw [upd_same, take_snoc hz', List.map_append, List.map_append]
      rfl
  · obtain ⟨p1, p2, p3⟩ := P
    refine ⟨p1, q Dl _ hD1 ?_ ?_⟩
    · intro b o hbo
      by_cases c : b = a
      · subst c
        rw [ha1] at hbo
        rw [upd_same, hbo]
      · rw [upd_ne c]
        exact p2 b o c hbo
    · rw [upd_ne hDa, p3]
      have hlen : (dueK d).length = d.length := List.length_map ..
      rw [hlen, List.take_length]
theorem p_steps_in_time (T : Top K mg) (vs : List V) (H : Hp) (Q : VK) (E : XK) (h : sp_steps_in_time K vs H Q E) : t_steps_in_time K { nx := fun _ H' => Q .non H', rt := Q } (start ["office", "jobs", "due", "members", "at", "day"] vs) H := by
  obtain ⟨A, s, l, a, d, m, rfl, hO, ok, hl, ha, hn, q⟩ := h
  have hl10 := left_len ok
  have hjob : ∀ j ∈ s.left, s.isJob j = true := fun j hj => ((mem_left ok).mp hj).1
  have key := el_lcTBN (K := K) (is := [4, 5]) (te := tVar 4) (t := tTest (tOp rLe (tVar 5) (tDGet2 (tVar 2) (tOp (rIxL K) (tVar 1) (tVar 4)) (tVar 5)))) (vs := [4, 5]) (σ := [some (.ref A.o), some (.ref l), some (.ref a), some (nv m), none, none]) (H := H)
    (s.nexts s.left m) (fun i => [nv i, nv (dayAt s s.hours s.left m i)]) (fun i => s.inTime d (s.left.getD i 0) (s.spent s.done + (s.spent (TimStorm.picked s.left m) + s.work (s.left.getD i 0)))) nv
    (ets_call (sp := sp_steps_from K) (E := C8.E0) (ea_cons (ev_var (i := 0) rfl) (ea_cons (ev_hours_a_day (ta := tVar 0) T hO (ev_var rfl)) (ea_cons (ev_var (i := 1) rfl) (ea_cons (ev_var (i := 3) rfl) ea_nil)))) (v_steps_from (m := m) hO ok ok.h1 ok.h24 hl hjob hl10))
    (by have := nexts_len s s.left m; omega) (fun _ _ => rfl) (fun t ht => by
      match t, ht with
      | [x, y], _ => rfl) (fun i hi H1 e1 => ?_) (fun i hi H1 e1 _ => ev_var rfl)
  · exact s_retL key q
  · obtain ⟨g1, g2, _⟩ := mem_nexts.mp hi
    unfold Office.inTime
    rw [inTime_find hn]
    refine et_test (ev_le (ev_var rfl) (ev_is (ev_dget2 (ev_var rfl) (ev_ix (ev_var rfl) (ex_l e1 hl) (ev_var rfl) (nvs_at (get_of_lt g1))) (ev_var rfl) (e1 _ _ ha)) ?_))
    rw [valV_due]
    show (Option.map _ (d.find? _)).getD (nv (dayAt s s.hours s.left m i)) = nv _
    cases d.find? fun x => x.1 == s.left.getD i 0 <;> rfl
theorem v_steps_in_time {H : Hp} {A : OA} {s : Office} {l a : Addr} {d : List (Nat × Nat)} {m : Nat} (hO : OffAt K H A s) (ok : Ok s) (hl : SqL K H l (nvs s.left)) (ha : H a = some (.dK (dueK d))) (hn : (d.map (·.1)).Nodup) : SpL (sp_steps_in_time K) [.ref A.o, .ref l, .ref a, nv m] H (nvs (goodS s d m)) :=
  fun H1 e Q q E => ⟨A, s, l, a, d, m, rfl, hO.mono e, ok, ex_l e hl, e _ _ ha, hn, q⟩
theorem p_has_all_due (T : Top K mg) (vs : List V) (H : Hp) (Q : VK) (E : XK) (h : sp_has_all_due K vs H Q E) : t_has_all_due K { nx := fun _ H' => Q .non H', rt := Q } (start ["jobs", "due", "members", "at", "job"] vs) H := by
  obtain ⟨s, l, a, d, m, rfl, ok, hl, ha, q⟩ := h
  have hl10 := left_len ok
  refine s_ret (ev_is (ev_all (bs := (s.left.zipIdx.filter fun z => d.any fun x => x.1 == z.1).map fun z => m.testBit z.2) ?_) (congrArg V.bl (hasAll_list s d m))) q
  rw [List.map_map]
  exact el_lcE s.left (fun _ j => d.any fun x => x.1 == j) (fun i _ => .bl (m.testBit i)) (ea_cons (ev_var rfl) ea_nil) hl (nvs_len _) (by omega) (fun _ _ => rfl) (fun k x j hx hj H1 e => by
      obtain ⟨i, hi, rfl⟩ := nvs_of hx
      rw [hj] at hi
      obtain rfl := Option.some.inj hi
      rw [← valV_due_some]
      exact et_val (ev_din (ev_var rfl) (ev_var rfl) (e _ _ ha))) (fun k x j hx hj H1 e _ => ev_call (ea_cons (ev_var rfl) (ea_cons (ev_var rfl) ea_nil)) v_has)
theorem v_has_all_due {H : Hp} {s : Office} {l a : Addr} {d : List (Nat × Nat)} {m : Nat} (ok : Ok s) (hl : SqL K H l (nvs s.left)) (ha : H a = some (.dK (dueK d))) : SpV (sp_has_all_due K) [.ref l, .ref a, nv m] H (.bl (hasAll s d m)) :=
  fun H1 e Q q E => ⟨s, l, a, d, m, rfl, ok, ex_l e hl, e _ _ ha, q⟩
theorem p_jobs_wanting (T : Top K mg) (vs : List V) (H : Hp) (Q : VK) (E : XK) (h : sp_jobs_wanting K vs H Q E) : t_jobs_wanting K { nx := fun _ H' => Q .non H', rt := Q } (start ["office", "jobs", "due", "wanting", "members", "behind", "possible", "at", "many"] vs) H := by
  obtain ⟨A, s, l, a, d, rfl, hO, ok, hl, ha, hn, q⟩ := h
  have hl10 := left_len ok
  have hpw := pow_left ok
  have hpos : 0 < 2 ^ s.left.length := Nat.two_pow_pos _
  have S := goodS_stp s d
  refine q_asgL (el_rep (n := 2 ^ s.left.length) (el_lst (ea_cons ev_c ea_nil) (by decide : 1 ≤ 100000)) (ev_call (ea_cons (ev_var rfl) ea_nil) (v_how_many_sets hl (by omega))) (by omega)) fun r H1 hr e1 hr1 => ?_
  have hr1' : H1 r = some (.lst (ovs (wantRun (goodS s d) (hasAll s d) s.left.length 0))) := by
    rw [hr1]
    unfold wantRun ovs
    rw [List.map_replicate]
    rfl
  refine q_forDown (m := 2 ^ s.left.length) (ea_cons (ev_subI (ev_call (ea_cons (ev_var rfl) ea_nil) (v_how_many_sets (ex_l e1 hl) (by omega))) ev_c) (ea_cons (ev_neg ev_c) (ea_cons (ev_neg ev_c) ea_nil))) (by omega)
    (fun k σ' H' => Ex H H' ∧ H' r = some (.lst (ovs (wantRun (goodS s d) (hasAll s d) s.left.length k))) ∧ ∃ v w x y z, σ' = [some (.ref A.o), some (.ref l), some (.ref a), some (.ref r), v, w, x, y, z])
    (fun H2 e2 => ⟨e1.trans e2, e2 _ _ hr1', none, none, none, none, none, rfl⟩) ?_ ?_
  · rintro k σ' H' hk ⟨e2, hR, v, w, x, y, z, rfl⟩
    have hm : 2 ^ s.left.length - 1 - k < 2 ^ s.left.length := by omega
    have hwl := wantRun_len (goodS s d) (hasAll s d) s.left.length k
    have hstep : wantRun (goodS s d) (hasAll s d) s.left.length (k + 1) = wantStep (goodS s d) (hasAll s d) (wantRun (goodS s d) (hasAll s d) s.left.length k) (2 ^ s.left.length - 1 - k) := rfl
    revert hm hstep
    generalize 2 ^ s.left.length - 1 - k = mm
    intro hm hstep
    rw [hstep]
    generalize hWk : wantRun (goodS s d) (hasAll s d) s.left.length k = Wk at hR hwl
    unfold wantStep
    refine s_if (b := hasAll s d mm) (et_val (ev_call (ea_cons (ev_var rfl) (ea_cons (ev_var rfl) (ea_cons (ev_var rfl) ea_nil))) (v_has_all_due ok (ex_l e2 hl) (e2 _ _ ha)))) (fun hb H2 e3 => ?_) (fun hb H2 e3 => ?_)
    · refine s_setL (e3 _ _ hR) (ev_nat 0 rfl) (ev_var rfl) (ev_var rfl) (by rw [ovs_len, hwl]; exact hm) fun H3 e4 => ?_
      refine ⟨Ex.mut ((e2.trans e3).trans e4) hr, ?_, _, _, _, _, _, rfl⟩
      rw [upd_same, if_pos hb, ← ovs_set]
      rfl
    · have eA := e2.trans e3
      have hOA := hO.mono eA
      have hgl := goodS_len s d mm
      rw [if_neg (by rw [hb]; decide)]
      have k1 := el_lcNB (K := K) (te := tOp (rIxL K) (tVar 3) (tCall (sp_joined K) [] C8.E0 (tCons (tVar 4) (tCons (tVar 7) tNil)))) (t := tYes) (vs := [7]) (j := 7) (σ := [some (.ref A.o), some (.ref l), some (.ref a), some (.ref r), some (nv mm), w, x, y, z]) (H := H2)
        (goodS s d mm) (fun _ => true) (fun i => ov (Wk.getD (mm + 2 ^ i) none)) nv (el_call (sp := sp_steps_in_time K) (E := C8.E0) (ea_cons (ev_var (i := 0) rfl) (ea_cons (ev_var (i := 1) rfl) (ea_cons (ev_var (i := 2) rfl) (ea_cons (ev_var (i := 4) rfl) ea_nil)))) (v_steps_in_time hOA ok (ex_l eA hl) (eA _ _ ha) hn))
        (by omega) (fun _ => rfl) (fun _ _ _ _ => et_yes) (fun i hi H3 e4 _ => by
          have hi1 := S.lt hi
          have hi2 := S.bit hi
          have hadd := add_bit hm hi1 hi2
          exact ev_ix (ev_var rfl) (sq_of (e4 _ _ (e3 _ _ hR))) (ev_call (ea_cons (ev_var rfl) (ea_cons (ev_var rfl) ea_nil)) (v_joined hi2 (by omega))) (ovs_at (by rw [hwl]; exact hadd)))
      rw [List.filter_eq_self.mpr (fun _ _ => rfl)] at k1
      refine q_asgL k1 fun b H3 hb3 e4 h3 => ?_
      have h3' : H3 b = some (.lst (((goodS s d mm).map fun i => Wk.getD (mm + 2 ^ i) none).map ov)) := by
        rw [h3, List.map_map]
        rfl
      generalize hX : (goodS s d mm).map (fun i => Wk.getD (mm + 2 ^ i) none) = X at h3'
      have hXl : X.length ≤ 10 := by rw [← hX, List.length_map]; omega
      refine q_asgL (el_lcN X (fun x => !decide (x = none)) (fun x => nv (x.getD 0 + 1)) ov (ev_var rfl) (sq_of h3') (by omega) (fun _ => rfl) (fun x hx H4 e5 => et_test (ev_notO (ev_var rfl))) (fun x hx H4 e5 hx2 => ?_)) fun c H4 hc e5 h4 => ?_
      · cases x with
        | none => cases hx2
        | some d => exact ev_add (ev_var rfl) (ev_nat 1 rfl)
      · have hP : (X.filter fun x => !decide (x = none)).map (fun x => nv (x.getD 0 + 1)) = nvs (X.filterMap fun x => x.map (· + 1)) := by
          rw [← poss_eq]
          unfold nvs
          rw [List.map_map]
          rfl
        rw [hP] at h4
        generalize X.filterMap (fun x => x.map (· + 1)) = P at h4
        refine s_setL (v := ov P.min?) ((e4.trans e5) _ _ (e3 _ _ hR)) (ev_if (b := decide (0 < P.length)) (et_test (ev_gt (ev_is (ev_lenL (ev_var rfl) (sq_of h4)) (by rw [nvs_len])) (ev_nat 0 rfl))) (fun hp => ?_) (fun hp => ?_)) (ev_var rfl) (ev_var rfl) (by rw [ovs_len, hwl]; exact hm) fun H5 e6 => ?_
        · have hne : P ≠ [] := List.length_pos_iff.mp (of_decide_eq_true hp)
          refine ev_is (ev_minN hne (ev_var rfl) (sq_of h4)) ?_
          unfold minL
          cases hmm : P.min? with
          | none => exact absurd (List.min?_eq_none_iff.mp hmm) hne
          | some q => rfl
        · have : P = [] := List.length_eq_zero_iff.mp (by have := of_decide_eq_false hp; omega)
          rw [this]
          exact ev_c
        · refine ⟨Ex.mut (((eA.trans e4).trans e5).trans e6) hr, ?_, _, _, _, _, _, rfl⟩
          rw [upd_same, ← ovs_set]
  · rintro σ' H' ⟨e2, hR, v, w, x, y, z, rfl⟩
    exact s_ret (ev_var rfl) fun H3 e3 => q r H3 hr (e2.trans e3) (e3 _ _ hR)
theorem v_jobs_wanting {H : Hp} {A : OA} {s : Office} {l a : Addr} {d : List (Nat × Nat)} (hO : OffAt K H A s) (ok : Ok s) (hl : SqL K H l (nvs s.left)) (ha : H a = some (.dK (dueK d))) (hn : (d.map (·.1)).Nodup) : SpL (sp_jobs_wanting K) [.ref A.o, .ref l, .ref a] H (ovs (want (goodS s d) (hasAll s d) s.left.length)) :=
  fun H1 e Q q E => ⟨A, s, l, a, d, rfl, hO.mono e, ok, ex_l e hl, e _ _ ha, hn, q⟩
theorem p_saving_order (T : Top K mg) (vs : List V) (H : Hp) (Q : VK) (E : XK) (h : sp_saving_order K vs H Q E) : t_saving_order K { nx := fun _ H' => Q .non H', rt := Q } (start ["office", "place", "last", "jobs", "due", "wanting", "order", "members", "many", "fitting", "job", "at"] vs) H := by
  obtain ⟨A, s, p, day, rfl, hO, ok, hp, q⟩ := h
  rw [save_eq ok] at q
  have hn := due_nodup s p day
  have hdl : (s.due p day).length ≤ 10 := by
    rw [due_eq, List.length_map]
    exact Nat.le_trans (List.length_filter_le _ _) (strikesL_len ok p)
  have hv := v_due_for (K := K) (day := day) hO ok hp
  revert q hn hdl hv
  generalize s.due p day = d
  intro q hn hdl hv
  have hl10 := left_len ok
  have hpos : 0 < 2 ^ s.left.length := Nat.two_pow_pos _
  have S := goodS_stp s d
  have hW := fun m hm => wantS_ok s d m hm
  refine q_asgL (el_left T hO ok (ev_var rfl)) fun l H1 hl e1 h1 => ?_
  refine q_asgG (P := fun v H2 => ∃ a, v = .ref a ∧ H2 a = some (.dK (dueK d))) (ep_cbG (P := fun vs H2 => ∃ p ps, vs = [.ref p] ∧ H2 p = some (.lst (ps.map V.ref)) ∧ Tups H2 ps (d.map pairT)) (eap_cons (ep_ts (ets_call (ea_cons (ev_var rfl) (ea_cons (ev_var rfl) (ea_cons (ev_var rfl) ea_nil))) (fun H2 e2 Q q E => hv H2 (e1.trans e2) Q q E))) fun v H2 e2 hv2 => eap_nil fun H3 e3 => ?_) fun vs H2 e2 hvs Q k => ?_) fun v H2 e2 hv2 => ?_
  · obtain ⟨r, rs, rfl, g1, g2⟩ := hv2
    exact ⟨r, rs, rfl, e3 _ _ g1, g2.mono e3⟩
  · obtain ⟨r, rs, rfl, g1, g2⟩ := hvs
    refine ⟨r, rs, dueK d, rfl, sq_of g1, ?_, fun a ha => ?_⟩
    · have key : ∀ (rs : List Addr) (d : List (Nat × Nat)), Tups H2 rs (d.map pairT) → Paired (fun p (kv : Key × V) => SqT K H2 p [kV kv.1, kv.2]) rs (dueK d) := by
        intro rs d
        induction d generalizing rs with
        | nil =>
          intro h
          cases h
          exact .nil
        | cons a d ih =>
          intro h
          cases h with
          | cons h1 h2 => exact .cons (SqT.of h1) (ih _ h2)
      exact key rs d g2
    · rw [mergeK_due hn]
      exact k (.ref a) _ (Ex.new ha) ⟨a, rfl, upd_same⟩
  obtain ⟨a, rfl, ha⟩ := hv2
  have e12 := e1.trans e2
  have h12 := e2 _ _ h1
  refine q_when (b := !(d.all fun x => s.left.contains x.1)) (et_not (et_val (ev_is (ev_all (el_keysIn (il := 3) (js := s.left) h12 ha (by omega) rfl (fun _ => rfl) (fun _ => rfl) (fun _ => rfl))) (by rw [List.all_map]; rfl)))) (fun hb H3 e3 => ?_) (fun hb H3 e3 => ?_)
  · have hs : saveL s d = none := by
      unfold saveL
      rw [if_neg (by simpa using hb)]
    rw [hs] at q
    exact s_ret ev_c fun H4 e4 => q .non H4 ((e12.trans e3).trans e4) rfl
  have hall : (d.all fun x => s.left.contains x.1) = true := by simpa using hb
  have e13 := e12.trans e3
  have hO3 := hO.mono e13
  refine q_asgL (el_call (ea_cons (ev_var rfl) (ea_cons (ev_var rfl) (ea_cons (ev_var rfl) ea_nil))) (v_jobs_wanting hO3 ok (sq_of (e3 _ _ h12)) (e3 _ _ ha) hn)) fun r H4 hr e4 h4 => ?_
  have hwl := want_len (goodS s d) (hasAll s d) s.left.length
  have hix : ∀ m, m < 2 ^ s.left.length → (ovs (want (goodS s d) (hasAll s d) s.left.length))[m]? = some (ov (wantS s d m)) := fun m hm => ovs_at (by rw [hwl]; exact hm)
  generalize want (goodS s d) (hasAll s d) s.left.length = WL at h4 hix
  have e14 := e13.trans e4
  refine q_when (b := decide (wantS s d 0 = none)) (et_test (ev_isO (ev_ix (j := 0) (ev_var rfl) (sq_of h4) (ev_nat 0 rfl) (hix 0 hpos)))) (fun hb H5 e5 => ?_) (fun hb H5 e5 => ?_)
  · have hs : saveL s d = none := by
      unfold saveL
      rw [if_pos hall, of_decide_eq_true hb]
      rfl
    rw [hs] at q
    exact s_ret ev_c fun H6 e6 => q .non H6 ((e14.trans e5).trans e6) rfl
  cases hw0 : wantS s d 0 with
  | none => exact absurd hw0 (of_decide_eq_false hb)
  | some w =>
    have hs : saveL s d = some ((goS (goodS s d) (wantS s d) w 0).map (JL s)) := by
      unfold saveL
      rw [if_pos hall, hw0]
      rfl
    rw [hs] at q
    have hwk : w ≤ 10 := by
      obtain ⟨⟨m', g1, _⟩, g2, _⟩ := goS_ok hW S w hpos hw0
      have := Go.free S g1
      rw [free_zero] at this
      omega
    have e15 := e14.trans e5
    have h1' := (e3.trans (e4.trans e5)) _ _ h12
    have ha' := (e3.trans (e4.trans e5)) _ _ ha
    have h4' := e5 _ _ h4
    refine q_asgL (el_lst ea_nil (by decide : 0 ≤ 100000)) fun o H6 ho e6 h6 => q_asg (ev_nat 0 rfl) fun H7 e7 => ?_
    have e17 := (e15.trans e6).trans e7
    have e67 := e6.trans e7
    have hoH : H o = none := fresh_back e15 ho
    have hne : ∀ {b : Addr} {u : HO}, H5 b = some u → b ≠ o := by
      rintro b u hb rfl
      rw [ho] at hb
      cases hb
    have hlo := hne h1'
    have hao := hne ha'
    have hro := hne h4'
    refine q_forDown (m := w) (ea_cons (ev_subI (i := (w : Int)) (j := 1) (ev_is (ev_ix (j := 0) (ev_var rfl) (sq_of (e67 _ _ h4')) (ev_nat 0 rfl) (hix 0 hpos)) (by rw [hw0]; rfl)) ev_c) (ea_cons (ev_neg ev_c) (ea_cons (ev_neg ev_c) ea_nil))) (by omega)
      (fun k σ' H' => Ex H H' ∧ H' l = some (.lst (nvs s.left)) ∧ H' a = some (.dK (dueK d)) ∧ H' r = some (.lst (ovs WL)) ∧ (∃ m is, m < 2 ^ s.left.length ∧ wantS s d m = some (w - k) ∧ k ≤ w ∧ goS (goodS s d) (wantS s d) w 0 = is ++ goS (goodS s d) (wantS s d) (w - k) m ∧ is.length = k ∧ H' o = some (.lst (nvs (is.map (JL s)))) ∧
        ∃ x y z u, σ' = [some (.ref A.o), some (nv p), some (nv day), some (.ref l), some (.ref a), some (.ref r), some (.ref o), some (nv m), x, y, z, u]))
      (fun H8 e8 => ⟨e17.trans e8, e8 _ _ (e67 _ _ h1'), e8 _ _ (e67 _ _ ha'), e8 _ _ (e67 _ _ h4'), 0, [], hpos, hw0, Nat.zero_le _, rfl, rfl, e8 _ _ (e7 _ _ h6), none, none, none, none, rfl⟩) ?_ ?_
    · rintro k σ' H8 hk ⟨p1, p2, p3, p4, m, is, hm, hwm, hkw, hgo, hil, p5, x, y, z, u, rfl⟩
      have hwm' : wantS s d m = some (w - 1 - k + 1) := by
        rw [hwm]
        congr 1
        omega
      obtain ⟨f1, f2⟩ := fit_ok hW S hm hwm'
      have hfne := fit_ne hW S hm hwm'
      have hgl := goodS_len s d m
      have hO8 := hO.mono p1
      refine q_asgL (el_lcNB (K := K) (te := tVar 11) (t := tTest (tOp rEq (tOp (rIxL K) (tVar 5) (tCall (sp_joined K) [] C8.E0 (tCons (tVar 7) (tCons (tVar 11) tNil)))) (tVar 8))) (vs := [11]) (j := 11) (H := H8)
        (goodS s d m) (fun i => decide (wantS s d (m + 2 ^ i) = some (w - 1 - k))) nv nv (el_call (sp := sp_steps_in_time K) (E := C8.E0) (ea_cons (ev_var (i := 0) rfl) (ea_cons (ev_var (i := 3) rfl) (ea_cons (ev_var (i := 4) rfl) (ea_cons (ev_var (i := 7) rfl) ea_nil)))) (v_steps_in_time hO8 ok (sq_of p2) p3 hn))
        (by omega) (fun _ => rfl) (fun i hi H9 e9 => by
          have hi1 := S.lt hi
          have hi2 := S.bit hi
          exact et_test (ev_eqO (ev_ix (ev_var rfl) (sq_of (e9 _ _ p4)) (ev_call (ea_cons (ev_var rfl) (ea_cons (ev_var rfl) ea_nil)) (v_joined hi2 (by omega))) (hix _ (add_bit hm hi1 hi2))) (ev_var rfl))) (fun i hi H9 e9 _ => ev_var rfl)) fun b H9 hb9 e9 h9 => ?_
      have hf0 : (nvs ((goodS s d m).filter fun i => decide (wantS s d (m + 2 ^ i) = some (w - 1 - k))))[0]? = some (nv (firstFit (goodS s d) (wantS s d) m (w - 1 - k))) := by
        unfold firstFit
        generalize (goodS s d m).filter (fun i => decide (wantS s d (m + 2 ^ i) = some (w - 1 - k))) = Z at hfne
        cases Z with
        | nil => exact absurd rfl hfne
        | cons q Z => rfl
      have h9' : H9 b = some (.lst (nvs ((goodS s d m).filter fun i => decide (wantS s d (m + 2 ^ i) = some (w - 1 - k))))) := h9
      generalize hF : firstFit (goodS s d) (wantS s d) m (w - 1 - k) = F at f1 f2 hf0
      have hF1 := S.lt f1
      have hF2 := S.bit f1
      have hbo : b ≠ o := by
        rintro rfl
        rw [p5] at hb9
        cases hb9
      refine q_app (e9 _ _ p5) (ev_var rfl) (ev_ix (ev_var rfl) (sq_of (e9 _ _ p2)) (ev_ix (j := 0) (ev_var rfl) (sq_of h9') (ev_nat 0 rfl) hf0) (nvs_at (get_of_lt hF1))) (by rw [nvs_len, List.length_map]; omega) fun H10 e10 => ?_
      have pA := Ex.mut ((p1.trans e9).trans e10) hoH (o := .lst (nvs (is.map (JL s)) ++ [nv (s.left.getD F 0)]))
      refine s_asg (ev_call (ea_cons (ev_var rfl) (ea_cons (ev_ix (j := 0) (ev_var rfl) (sq_of (by rw [upd_ne hbo]; exact e10 _ _ h9')) (ev_nat 0 rfl) hf0) ea_nil)) (v_joined hF2 (by omega))) fun H11 e11 => ?_
      refine ⟨pA.trans e11, e11 _ _ (by rw [upd_ne hlo]; exact (e9.trans e10) _ _ p2), e11 _ _ (by rw [upd_ne hao]; exact (e9.trans e10) _ _ p3), e11 _ _ (by rw [upd_ne hro]; exact (e9.trans e10) _ _ p4), m + 2 ^ F, is ++ [F], add_bit hm hF1 hF2, ?_, by omega, ?_, ?_, e11 _ _ ?_, _, _, _, _, rfl⟩
      · rw [f2]
        congr 1
        omega
      · rw [hgo, List.append_assoc]
        congr 1
        have : w - k = (w - 1 - k) + 1 := by omega
        rw [this]
        show firstFit (goodS s d) (wantS s d) m (w - 1 - k) :: _ = _
        rw [hF]
        have : w - (k + 1) = w - 1 - k := by omega
        rw [this]
        rfl
      · rw [List.length_append, hil]; rfl
      · rw [upd_same, List.map_append, nvs_app]
        rfl
    · rintro σ' H8 ⟨p1, p2, p3, p4, m, is, hm, hwm, hkw, hgo, hil, p5, x, y, z, u, rfl⟩
      refine s_ret (ev_var rfl) fun H9 e9 => q (.ref o) H9 (p1.trans e9) ⟨o, rfl, ?_⟩
      have : w - w = 0 := Nat.sub_self w
      rw [this] at hgo
      have hnil : goS (goodS s d) (wantS s d) 0 m = [] := rfl
      rw [hnil, List.append_nil] at hgo
      rw [hgo]
      exact e9 _ _ p5
theorem v_saving_order {H : Hp} {A : OA} {s : Office} {p day : Nat} (hO : OffAt K H A s) (ok : Ok s) (hp : p < s.n) : ∀ H1, Ex H H1 → ∀ Q : VK, RetP (isOrd (s.save p day)) H1 Q → ∀ E : XK, sp_saving_order K [.ref A.o, nv p, nv day] H1 Q E := fun H1 e Q q E => ⟨A, s, p, day, rfl, hO.mono e, ok, hp, q⟩
end
end Sc
end

section
set_option Elab.async false
set_option linter.all false
set_option maxRecDepth 100000
set_option maxHeartbeats 4000000
namespace Sc
open PySem PySem.Spec PyProof.Rows L2 Evl
open TimStorm (Office Way Wood Table Beetle before)
/-- a drive as it lies in the heap, or none -/
def isDrive (x : Option T3) : HP := fun v H => match x with
  | none => v = .non
  | some t => ∃ q, v = .ref q ∧ TripAt H q t.1 t.2.1 t.2.2
theorem isDrive.mono {x : Option T3} {v : V} {H H' : Hp} (e : Ex H H') (h : isDrive x v H) : isDrive x v H' := by
  cases x with
  | none => exact h
  | some t =>
    obtain ⟨q, h1, h2⟩ := h
    exact ⟨q, h1, h2.mono e⟩
def Drs (H : Hp) (us : List V) (D : List (Option T3)) : Prop := Paired (fun v x => isDrive x v H) us D
theorem Drs.mono {H H' : Hp} (e : Ex H H') {us : List V} {D : List (Option T3)} (h : Drs H us D) : Drs H' us D := paired_mono (fun _ _ z => z.mono e) h
theorem Drs.get {H : Hp} {us : List V} {D : List (Option T3)} (h : Drs H us D) {i : Nat} (hi : i < D.length) : ∃ v, us[i]? = some v ∧ isDrive (D.getD i none) v H := by
  have hx : D[i]? = some D[i] := List.getElem?_eq_getElem hi
  obtain ⟨v, h1, h2⟩ := paired_at h hx
  refine ⟨v, h1, ?_⟩
  rw [List.getD_eq_getElem?_getD, hx]
  exact h2
theorem isDrive_int {x : Option T3} {H : Hp} {i : Int} (h : isDrive x (.int i) H) : False := by
  cases x with
  | none => cases h
  | some t =>
    obtain ⟨q, h1, _⟩ := h
    cases h1
theorem Drs.put {H : Hp} {r : Addr} {us zs : List V} {D : List (Option T3)} (h : Drs H us D) (hr : H r = some (.lst us)) : Drs (upd H r (.lst zs)) us D := by
  cases h with
  | nil => exact .nil
  | @cons a b l1 l2 h1 t =>
    have key : ∀ x v, isDrive x v H → isDrive x v (upd H r (.lst zs)) := by
      intro x v hv
      cases x with
      | none => exact hv
      | some y =>
        obtain ⟨q, h2, o, h3, h4⟩ := hv
        refine ⟨q, h2, o, ?_, ?_⟩
        · rw [upd_ne (ne_of h3 hr (by intro z; cases z))]
          exact h3
        · rw [upd_ne]
          · exact h4
          · rintro rfl
            rw [h4] at hr
            have e := HO.lst.inj (Option.some.inj hr)
            cases hy : y.2.2 with
            | nil => rw [hy] at e; cases e
            | cons n r =>
              rw [hy] at e
              have e1 : nv n = a := (List.cons.inj e).1
              rw [← e1] at h1
              exact isDrive_int h1
    exact .cons (key _ _ h1) (paired_mono (fun v x z => key x v z) t)
theorem Drs.set {H : Hp} {v : V} {x : Option T3} (hv : isDrive x v H) : ∀ {us : List V} {D : List (Option T3)} (i : Nat), Drs H us D → Drs H (us.set i v) (D.set i x)
  | _, _, _, .nil => .nil
  | _, _, 0, .cons _ t => .cons hv t
  | _, _, i + 1, .cons a t => .cons a (Drs.set hv i t)
def sp_quickest (K : PySem.W.Frag) : Sp := fun vs H Q _ => ∃ (A : OA) (s : Office) (l : Addr) (ps : List Addr) (ws : List Way) (p : Nat), vs = [.ref A.o, .ref l, nv p] ∧ OffAt K H A s ∧ Ok s ∧ SqL K H l (ps.map V.ref) ∧ Paired (WayAt K H) ps ws ∧ (∀ w ∈ ws, w.a < s.n ∧ w.b < s.n) ∧ ws.length ≤ 32 ∧ p < s.n ∧ RetP (isDrive ((qrun s.n ws (s.n - 1)).getD p none)) H Q
theorem sc_quickest : FnScope ["office", "ways", "goal", "drives", "turn", "way", "start", "end", "minutes", "many", "row", "drive"] ["office", "ways", "goal"] (defScope s_quickest) := C8.fnScope_by (by decide +kernel)
def t_quickest (K : PySem.W.Frag) : TS :=
  (tSeq (tAsg (tOp rRep (tLst (tCons (tC .non) tNil)) (tFld K (tVar 0) "places")) (gName 3))
    (tSeq (tAsg (tTup (tCons (tC (.int 0)) (tCons (tC (.int 1)) (tCons (tLst (tCons (tC (.int 0)) tNil)) tNil)))) (gSub (tVar 3) (tC (.int 0)) rSetL))
    (tSeq (tFor (iRng1 (tCons (tOp rSubI (tFld K (tVar 0) "places") (tC (.int 1))) tNil)) (gName 4) (tFor (iList K (tVar 1)) (gName 5) (tFor (iTup K (tCall (sp_both_directions K) [] C8.E0 (tCons (tVar 5) tNil))) (gTup K 2 (gCons (gName 6) (gCons (gName 7) gNil))) (tIfS (tTest (tOp rNotN (tOp (rIxL K) (tVar 3) (tVar 6)) (tC .non))) (tSeq (tAsg (tOp (rIxL K) (tVar 3) (tVar 6)) (gTup K 3 (gCons (gName 8) (gCons (gName 9) (gCons (gName 10) gNil)))))
    (tSeq (tAsg (tTup (tCons (tOp rAddI (tVar 8) (tFld K (tVar 5) "minutes")) (tCons (tOp rAddI (tVar 9) (tC (.int 1))) (tCons (tOp rCat (tVar 10) (tLst (tCons (tVar 7) tNil))) tNil)))) (gName 11))
    (tIfS (tOr (tTest (tOp rIsN (tOp (rIxL K) (tVar 3) (tVar 7)) (tC .non))) (tTest (tOp (rLtD K) (tVar 11) (tOp (rIxL K) (tVar 3) (tVar 7))))) (tAsg (tVar 11) (gSub (tVar 3) (tVar 7) rSetL)) tNext))) tNext))))
    (tRet (tOp (rIxL K) (tVar 3) (tVar 2))))))
/-- how long the rows are -/
def Rows (D : List (Option T3)) (k : Nat) : Prop := ∀ r d, D.getD r none = some d → d.2.2.length ≤ k
theorem Rows.w {D : List (Option T3)} {k : Nat} {w : Way} (ha : w.a < D.length) (hb : w.b < D.length) (h : Rows D k) : Rows (relaxW D w) (k + 2) := relax_rows (by rw [relax_len]; exact ha) (relax_rows hb h)
theorem Rows.ws {n : Nat} : ∀ (ws : List Way) {D : List (Option T3)} {k : Nat}, (∀ w ∈ ws, w.a < n ∧ w.b < n) → D.length = n → Rows D k → Rows (ws.foldl relaxW D) (k + 2 * ws.length)
  | [], D, k, _, _, h => h
  | w :: ws, D, k, hw, hn, h => by
    have hb := hw w List.mem_cons_self
    have := Rows.ws ws (D := relaxW D w) (fun v hv => hw v (List.mem_cons_of_mem _ hv)) ((relaxW_len D w).trans hn) (Rows.w (by rw [hn]; exact hb.1) (by rw [hn]; exact hb.2) h)
    rw [List.foldl_cons, List.length_cons]
    intro r d hd
    have := this r d hd
    omega
theorem Rows.run {n : Nat} {ws : List Way} (hw : ∀ w ∈ ws, w.a < n ∧ w.b < n) (hl : ws.length ≤ 32) : ∀ t, Rows (qrun n ws t) (1 + 64 * t)
  | 0 => by
    intro r d hd
    unfold qrun at hd
    rw [List.getD_eq_getElem?_getD, List.getElem?_set] at hd
    split at hd
    · split at hd
      · obtain rfl := Option.some.inj hd
        exact Nat.le_refl _
      · cases hd
    · by_cases c : r < n
      · simp [c] at hd
      · simp [c] at hd
  | t + 1 => by
    intro r d hd
    have := Rows.ws ws hw (qrun_len n ws t) (Rows.run hw hl t) r d hd
    omega
section
variable {K : PySem.W.Frag} {mg : Str → Option Value}
section
variable {σ : L2.St} {H : Hp} {ta tb te : TE} {D : Ends} {tz : TS}
theorem ev_ltD {p q : Addr} {a b a' b' : Nat} {l l' : List Nat} (ha : Ev ta σ H (.ref p)) (hb : Ev tb σ H (.ref q)) (hp : TripAt H p a b l) (hq : TripAt H q a' b' l') : Ev (tOp (rLtD K) ta tb) σ H (.bl (before (a :: b :: l) (a' :: b' :: l'))) := fun H1 e Q k =>
  ha H1 e _ fun H2 e2 => hb H2 (e.trans e2) _ fun H3 e3 => by
    have e13 := (e.trans e2).trans e3
    refine ⟨tripD a b l, tripD a' b' l', (hp.mono e13).dp, (hq.mono e13).dp, alike_trip _ _ _ _ _ _, (fun z => by cases z), Nat.le_trans (depth_trip _ _ _) (by decide), ?_⟩
    rw [ltD_trip]
    exact k H3 (e2.trans e3)
theorem s_setG {l : Addr} {xs : List V} {j : Nat} {P : HP} (hl : H l = some (.lst xs)) (h : EvP te σ H P) (ho : Ev ta σ H (.ref l)) (hi : Ev tb σ H (nv j)) (hj : j < xs.length) (k : ∀ v H1 H2, Ex H H1 → Ex H1 H2 → P v H1 → D.nx σ (upd H2 l (.lst (xs.set j v)))) :
    tAsg te (gSub ta tb rSetL) D σ H := h H (Ex.refl H) _ fun v H1 e1 hv => ho H1 e1 _ fun H2 e2 => hi H2 (e1.trans e2) _ fun H3 e3 =>
  ⟨l, xs, (j : Int), j, rfl, rfl, ((e1.trans e2).trans e3) l _ hl, ixN_nat hj, k v H1 H3 e1 (e2.trans e3) hv⟩
theorem q_setG {l : Addr} {xs : List V} {j : Nat} {P : HP} (hl : H l = some (.lst xs)) (h : EvP te σ H P) (ho : Ev ta σ H (.ref l)) (hi : Ev tb σ H (nv j)) (hj : j < xs.length) (k : ∀ v H1 H2, Ex H H1 → Ex H1 H2 → P v H1 → tz D σ (upd H2 l (.lst (xs.set j v)))) :
    tSeq (tAsg te (gSub ta tb rSetL)) tz D σ H := s_setG (D := { D with nx := tz D }) hl h ho hi hj k
/-- a new triple -/
theorem ep_trip {a b : Nat} {l : List Nat} {tc : TE} (ha : ∀ H1, Ex H H1 → Ev ta σ H1 (nv a)) (hb : ∀ H1, Ex H H1 → Ev tb σ H1 (nv b)) (hc : ∀ H1, Ex H H1 → EvL tc σ H1 (nvs l)) :
    EvP (tTup (tCons ta (tCons tb (tCons tc tNil)))) σ H fun v H2 => ∃ q, v = .ref q ∧ TripAt H2 q a b l := by
  refine ep_tup (P := fun vs H2 => ∃ o, vs = [nv a, nv b, .ref o] ∧ H2 o = some (.lst (nvs l))) (eap_cons (ep_ev (ha H (Ex.refl _))) fun v1 H1 e1 h1 => eap_cons (ep_ev (hb H1 e1)) fun v2 H2 e2 h2 => eap_cons (ep_l (hc H2 (e1.trans e2))) fun v3 H3 e3 h3 => eap_nil fun H4 e4 => ?_) ?_ ?_
  · obtain ⟨o, rfl, ho⟩ := h3
    subst h1 h2
    exact ⟨o, rfl, e4 _ _ ho⟩
  · rintro vs H1 ⟨o, rfl, _⟩
    exact (by decide : 3 ≤ 100000)
  · rintro vs H1 q _ ⟨o, rfl, ho⟩ hq
    exact ⟨q, rfl, o, upd_same, Ex.new hq _ _ ho⟩
end
theorem drive_non {x : Option T3} {v : V} {H : Hp} (h : isDrive x v H) : v = .non ↔ x = none := by
  cases x with
  | none => exact ⟨fun _ => rfl, fun _ => h⟩
  | some t =>
    obtain ⟨q, rfl, _⟩ := h
    exact ⟨fun z => (nomatch z), fun z => (nomatch z)⟩
theorem p_quickest (T : Top K mg) (vs : List V) (H : Hp) (Q : VK) (E : XK) (h : sp_quickest K vs H Q E) : t_quickest K { nx := fun _ H' => Q .non H', rt := Q } (start ["office", "ways", "goal", "drives", "turn", "way", "start", "end", "minutes", "many", "row", "drive"] vs) H := by
  obtain ⟨A, s, l, ps, ws, p, rfl, hO, ok, hl, hps, hws, hz, hp, q⟩ := h
  have hn := ok.n16
  have hn2 := ok.n2
  refine q_asgL (el_rep (n := s.n) (el_lst (ea_cons ev_c ea_nil) (by decide : 1 ≤ 100000)) (ev_places T hO (ev_var rfl)) (by omega)) fun r H1 hr e1 hr1 => ?_
  refine q_setG hr1 (ep_trip (a := 0) (b := 1) (l := [0]) (fun H2 e2 => ev_nat 0 rfl) (fun H2 e2 => ev_nat 1 rfl) (fun H2 e2 => el_lst (ea_cons (ev_nat 0 rfl) ea_nil) (by decide : 1 ≤ 100000))) (ev_var rfl) (ev_nat 0 rfl) (by rw [List.length_replicate]; omega) fun v0 H2 H3 e2 e3 hv0 => ?_
  have h30 := (e2.trans e3) _ _ hr1
  have hrep : Drs H3 (List.replicate s.n V.non) (List.replicate s.n none) := by
    have : ∀ n, Drs H3 (List.replicate n V.non) (List.replicate n none) := by
      intro n
      induction n with
      | zero => exact .nil
      | succ n ih => exact .cons rfl ih
    exact this s.n
  have hD0 : Drs (upd H3 r (.lst ((List.replicate s.n V.non).set 0 v0))) ((List.replicate s.n V.non).set 0 v0) (qrun s.n ws 0) := by
    refine Drs.set ?_ 0 (hrep.put h30)
    obtain ⟨q0, rfl, o, g1, g2⟩ := hv0
    refine ⟨q0, rfl, o, ?_, ?_⟩
    · rw [upd_ne (ne_of (e3 _ _ g1) h30 (by intro z; cases z))]
      exact e3 _ _ g1
    · rw [upd_ne]
      · exact e3 _ _ g2
      · rintro rfl
        rw [e3 _ _ g2] at h30
        have e := HO.lst.inj (Option.some.inj h30)
        have : (nvs [0]).length = (List.replicate s.n V.non).length := by
          rw [show nvs [0] = List.replicate s.n V.non from e]
        rw [List.length_replicate] at this
        have : 1 = s.n := this
        omega
  have x3 : Ex H (upd H3 r (.lst ((List.replicate s.n V.non).set 0 v0))) := Ex.mut ((e1.trans e2).trans e3) hr
  have hr3 : upd H3 r (.lst ((List.replicate s.n V.non).set 0 v0)) r = some (.lst ((List.replicate s.n V.non).set 0 v0)) := upd_same
  revert x3 hr3 hD0
  generalize (List.replicate s.n V.non).set 0 v0 = us0
  generalize upd H3 r (.lst us0) = H4
  intro hD0 x4 hr4
  refine q_forR1 (n := ((s.n - 1 : Nat) : Int)) (ea_cons (ev_sub (by omega) (ev_places T (hO.mono x4) (ev_var rfl)) (ev_nat 1 rfl)) ea_nil) (by omega)
    (fun t σ' H' => Ex H H' ∧ (∃ us, H' r = some (.lst us) ∧ Drs H' us (qrun s.n ws t)) ∧ ∃ a b c d e f g h, σ' = [some (.ref A.o), some (.ref l), some (nv p), some (.ref r), a, b, c, d, e, f, g, h])
    (fun H5 e5 => ⟨x4.trans e5, ⟨us0, e5 _ _ hr4, hD0.mono e5⟩, none, none, none, none, none, none, none, none, rfl⟩) ?_ ?_
  · rintro t σ' H' ht ⟨p1, ⟨us, p2, p3⟩, v1, v2, v3, v4, v5, v6, v7, v8, rfl⟩
    have ht' : t < s.n - 1 := by omega
    have hrows := Rows.run hws hz t
    refine s_forLn (ev_var rfl) (ex_l p1 hl) (fun k σ' H'' => Ex H H'' ∧ (∃ us, H'' r = some (.lst us) ∧ Drs H'' us ((ws.take k).foldl relaxW (qrun s.n ws t))) ∧ ∃ b c d e f g h, σ' = [some (.ref A.o), some (.ref l), some (nv p), some (.ref r), some (nv t), b, c, d, e, f, g, h])
      (fun H5 e5 => ⟨p1.trans e5, ⟨us, e5 _ _ p2, p3.mono e5⟩, _, _, _, _, _, _, _, rfl⟩) (fun k σ' H'' hk P => ex_l P.1 hl) ?_ ?_
    · rintro k x σ' H5 hx ⟨g1, ⟨us, g2, g3⟩, v2, v3, v4, v5, v6, v7, v8, rfl⟩
      obtain ⟨a, ha, rfl⟩ := refs_get1 hx
      obtain ⟨wy, hw, hW⟩ := paired_at1 hps ha
      have hb := hws wy (List.mem_of_getElem? hw)
      rw [take_snoc hw, List.foldl_append]
      have hkl := (List.getElem?_eq_some_iff.mp hw).1
      have hLr : Rows ((ws.take k).foldl relaxW (qrun s.n ws t)) 2000 := by
        intro i d hd
        have := Rows.ws (ws.take k) (fun w hw => hws w (List.mem_of_mem_take hw)) (qrun_len s.n ws t) hrows i d hd
        rw [List.length_take] at this
        omega
      have hLl : ((ws.take k).foldl relaxW (qrun s.n ws t)).length = s.n := by rw [relaxs_len, qrun_len]
      revert g3 hLr hLl
      generalize (ws.take k).foldl relaxW (qrun s.n ws t) = L
      intro g3 hLr hLl
      refine s_forBoth (i := 6) (j := 7) (ev_var rfl) (hW.mono g1) (fun H6 c σ' H7 => Ex H H7 ∧ Tk H6 H7 ∧ (∃ us, H7 r = some (.lst us) ∧ Drs H7 us (if c = 0 then L else if c = 1 then relax L wy.a wy.b wy.minutes else relaxW L wy)) ∧ ∃ c d e f g h, σ' = [some (.ref A.o), some (.ref l), some (nv p), some (.ref r), some (nv t), some (.ref a), c, d, e, f, g, h])
        (fun H6 e6 => ⟨g1.trans e6, Tk.refl _, ⟨us, e6 _ _ g2, g3.mono e6⟩, _, _, _, _, _, _, rfl⟩) (fun H6 c σ' H7 P => P.2.1) ?_ ?_
      · rintro H6 c σ' H7 e6 hc ⟨e7, tk, hus, v3, v4, v5, v6, v7, v8, rfl⟩
        have key : ∀ (M : List (Option T3)) (a1 b1 : Nat) (Nx : L2.St → Hp → Prop) (D : Ends) (us : List V), M.length = s.n → Rows M 3000 → a1 < s.n → b1 < s.n → H7 r = some (.lst us) → Drs H7 us M → D.nx = Nx →
            (∀ H8 c d e f, Ex H H8 → Tk H6 H8 → (∃ us, H8 r = some (.lst us) ∧ Drs H8 us (relax M a1 b1 wy.minutes)) → Nx [some (.ref A.o), some (.ref l), some (nv p), some (.ref r), some (nv t), some (.ref a), some (nv a1), some (nv b1), c, d, e, f] H8) →
            (tIfS (tTest (tOp rNotN (tOp (rIxL K) (tVar 3) (tVar 6)) (tC .non))) (tSeq (tAsg (tOp (rIxL K) (tVar 3) (tVar 6)) (gTup K 3 (gCons (gName 8) (gCons (gName 9) (gCons (gName 10) gNil)))))
              (tSeq (tAsg (tTup (tCons (tOp rAddI (tVar 8) (tFld K (tVar 5) "minutes")) (tCons (tOp rAddI (tVar 9) (tC (.int 1))) (tCons (tOp rCat (tVar 10) (tLst (tCons (tVar 7) tNil))) tNil)))) (gName 11))
              (tIfS (tOr (tTest (tOp rIsN (tOp (rIxL K) (tVar 3) (tVar 7)) (tC .non))) (tTest (tOp (rLtD K) (tVar 11) (tOp (rIxL K) (tVar 3) (tVar 7))))) (tAsg (tVar 11) (gSub (tVar 3) (tVar 7) rSetL)) tNext))) tNext) D
              [some (.ref A.o), some (.ref l), some (nv p), some (.ref r), some (nv t), some (.ref a), some (nv a1), some (nv b1), v5, v6, v7, v8] H7 := by
          intro M a1 b1 Nx D us hM hR ha1 hb1 hr7 hD7 hDn hk
          have hul := paired_len hD7
          obtain ⟨va, hva, hda⟩ := hD7.get (i := a1) (by omega)
          obtain ⟨vb, hvb, hdb⟩ := hD7.get (i := b1) (by omega)
          refine s_when (b := !decide (va = .non)) (et_test (ev_notN (ev_ix (ev_var rfl) (sq_of hr7) (ev_var rfl) hva))) (fun hb' H8 e8 => ?_) (fun hb' H8 e8 => ?_)
          · cases hx : M.getD a1 none with
            | none =>
              rw [hx] at hda
              rw [show va = .non from hda] at hb'
              cases hb'
            | some y =>
              have hyl := hR a1 y hx
              rw [hx] at hda
              obtain ⟨qa, rfl, oa, hqa, hoa⟩ := hda
              refine q_asgT (is := [8, 9, 10]) (ws := [nv y.1, nv y.2.1, .ref oa]) (ev_ix (ev_var rfl) (sq_of (e8 _ _ hr7)) (ev_var rfl) hva) (SqT.of (e8 _ _ hqa)) rfl fun H9 e9 => ?_
              have e79 := e8.trans e9
              refine q_asgG (P := fun v H2 => ∃ q, v = .ref q ∧ TripAt H2 q (y.1 + wy.minutes) (y.2.1 + 1) (y.2.2 ++ [b1])) (ep_trip (fun H10 e10 => ev_add (ev_var rfl) (ev_w_minutes T (hW.mono ((e7.trans e79).trans e10)) (ev_var rfl))) (fun H10 e10 => ev_add (ev_var rfl) (ev_nat 1 rfl)) (fun H10 e10 => by
                rw [nvs_app]
                exact el_cat1 (ev_var rfl) ((e79.trans e10) _ _ hoa) (el_lst (ea_cons (ev_var rfl) ea_nil) (by decide : 1 ≤ 100000)) (by rw [nvs_len]; show _ + 1 ≤ 100000; omega))) fun v H10 e10 hv => ?_
              obtain ⟨qn, rfl, hqn⟩ := hv
              have e710 := e79.trans e10
              have hdb10 := hdb.mono e710
              refine s_when (b := better (ext3 y wy.minutes b1) (M.getD b1 none)) (et_is (et_or (a := decide (vb = .non)) (b := better (ext3 y wy.minutes b1) (M.getD b1 none)) (et_test (ev_isN (ev_ix (ev_var rfl) (sq_of (e710 _ _ hr7)) (ev_var rfl) hvb))) fun hnn => ?_) ?_) (fun hb2 H11 e11 => ?_) (fun hb2 H11 e11 => ?_)
              · cases hzz : M.getD b1 none with
                | none =>
                  rw [hzz] at hdb10
                  rw [show vb = .non from hdb10] at hnn
                  cases hnn
                | some z =>
                  rw [hzz] at hdb10
                  obtain ⟨qz, rfl, hqz⟩ := hdb10
                  exact et_test (ev_ltD (ev_var rfl) (ev_ix (ev_var rfl) (sq_of (e710 _ _ hr7)) (ev_var rfl) hvb) hqn hqz)
              · cases hzz : M.getD b1 none with
                | none =>
                  rw [hzz] at hdb10
                  rw [show vb = .non from hdb10]
                  rfl
                | some z =>
                  rw [hzz] at hdb10
                  obtain ⟨qz, rfl, hqz⟩ := hdb10
                  rfl
              · have hrel : relax M a1 b1 wy.minutes = M.set b1 (some (ext3 y wy.minutes b1)) := by
                  unfold relax
                  rw [hx]
                  exact if_pos hb2
                refine s_setL ((e710.trans e11) _ _ hr7) (ev_var rfl) (ev_var rfl) (ev_var rfl) (by omega) fun H12 e12 => ?_
                have e712 := (e710.trans e11).trans e12
                have hr12 := e712 _ _ hr7
                rw [hDn]
                refine hk _ _ _ _ _ (Ex.mut (e7.trans e712) hr) ((tk.trans (Ex.tk e712)).put hr12) ⟨us.set b1 (.ref qn), upd_same, ?_⟩
                rw [hrel]
                have hq12 := hqn.mono (e11.trans e12)
                refine Drs.set ?_ b1 ((hD7.mono e712).put hr12)
                have : isDrive (some (ext3 y wy.minutes b1)) (.ref qn) H12 := ⟨qn, rfl, hq12⟩
                obtain ⟨o, k1, k2⟩ := hq12
                refine ⟨qn, rfl, o, ?_, ?_⟩
                · rw [upd_ne (ne_of k1 hr12 (by intro z; cases z))]
                  exact k1
                · rw [upd_ne]
                  · exact k2
                  · rintro rfl
                    rw [k2] at hr12
                    have e := HO.lst.inj (Option.some.inj hr12)
                    have h0 : us[0]? = (nvs (y.2.2 ++ [b1]))[0]? := by rw [e]
                    obtain ⟨v0, hv0, hd0⟩ := hD7.get (i := 0) (by omega)
                    rw [hv0] at h0
                    obtain ⟨n0, _, rfl⟩ := nvs_of h0.symm
                    exact isDrive_int hd0
              · have hrel : relax M a1 b1 wy.minutes = M := by
                  unfold relax
                  rw [hx]
                  exact if_neg (by rw [hb2]; decide)
                rw [hDn]
                exact hk _ _ _ _ _ (e7.trans (e710.trans e11)) (tk.trans (Ex.tk (e710.trans e11))) ⟨us, (e710.trans e11) _ _ hr7, by rw [hrel]; exact hD7.mono (e710.trans e11)⟩
          · have hx : M.getD a1 none = none := (drive_non hda).mp (by simpa using hb')
            have hrel : relax M a1 b1 wy.minutes = M := by
              unfold relax
              rw [hx]
            rw [hDn]
            exact hk _ _ _ _ _ (e7.trans e8) (tk.trans (Ex.tk e8)) ⟨us, e8 _ _ hr7, by rw [hrel]; exact hD7.mono e8⟩
        obtain ⟨us, hr7, hD7⟩ := hus
        match c, hc with
        | 0, _ => exact key L wy.a wy.b _ _ us hLl (fun i d hd => Nat.le_trans (hLr i d hd) (by decide)) hb.1 hb.2 hr7 hD7 rfl fun H8 _ _ _ _ k1 k2 k3 => ⟨k1, k2, k3, _, _, _, _, _, _, rfl⟩
        | 1, _ => exact key (relax L wy.a wy.b wy.minutes) wy.b wy.a _ _ us ((relax_len ..).trans hLl) (fun i d hd => Nat.le_trans (relax_rows (by rw [hLl]; exact hb.2) hLr i d hd) (by decide)) hb.2 hb.1 hr7 hD7 rfl fun H8 _ _ _ _ k1 k2 k3 => ⟨k1, k2, k3, _, _, _, _, _, _, rfl⟩
      · rintro H6 σ' H7 e6 ⟨e7, tk, hus, v3, v4, v5, v6, v7, v8, rfl⟩
        exact ⟨e7, hus, _, _, _, _, _, _, _, rfl⟩
    · rintro σ' H5 ⟨g1, hus, v2, v3, v4, v5, v6, v7, v8, rfl⟩
      rw [List.length_map, paired_len hps, List.take_length] at hus
      exact ⟨g1, hus, _, _, _, _, _, _, _, _, rfl⟩
  · rintro σ' H' ⟨p1, ⟨us, p2, p3⟩, v1, v2, v3, v4, v5, v6, v7, v8, rfl⟩
    rw [Int.toNat_natCast] at p3
    obtain ⟨v, hv, hd⟩ := p3.get (i := p) (by rw [qrun_len]; exact hp)
    exact s_ret (ev_ix (ev_var rfl) (sq_of p2) (ev_var rfl) hv) fun H5 e5 => q v H5 (p1.trans e5) (hd.mono e5)
theorem v_quickest {H : Hp} {A : OA} {s : Office} {l : Addr} {ps : List Addr} {ws : List Way} {p : Nat} (hO : OffAt K H A s) (ok : Ok s) (hl : SqL K H l (ps.map V.ref)) (hps : Paired (WayAt K H) ps ws) (hws : ∀ w ∈ ws, w.a < s.n ∧ w.b < s.n) (hz : ws.length ≤ 32) (hp : p < s.n) :
    ∀ H1, Ex H H1 → ∀ Q : VK, RetP (isDrive ((qrun s.n ws (s.n - 1)).getD p none)) H1 Q → ∀ E : XK, sp_quickest K [.ref A.o, .ref l, nv p] H1 Q E := fun H1 e Q q E => ⟨A, s, l, ps, ws, p, rfl, hO.mono e, ok, ex_l e hl, paired_mono (fun _ _ z => z.mono e) hps, hws, hz, hp, q⟩
end
end Sc
end

section
set_option Elab.async false
set_option linter.all false
set_option maxRecDepth 100000
set_option maxHeartbeats 4000000
namespace Sc
open PySem PySem.Spec PyProof.Rows L2 Evl
open TimStorm (Office Way Wood Table Beetle)
open WrtistSpec (Call does asks right)
/-! ### what a call of the desk promises -/
/-- all but the office's own things stays -/
def Keep (A : OA) (H H' : Hp) : Prop := ∀ b o, H b = some o → b ≠ A.o → b ≠ A.ways → b ≠ A.woods → b ≠ A.tables → b ≠ A.beetles → b ≠ A.done → H' b = some o
theorem Ex.keep {A : OA} {H H' : Hp} (e : Ex H H') : Keep A H H' := fun b o h _ _ _ _ _ _ => e b o h
/-- the office's lists and dicts stand apart -/
structure OffD (A : OA) : Prop where
  wo : A.ways ≠ A.woods
  wd : A.ways ≠ A.done
  od : A.woods ≠ A.done
  tb : A.tables ≠ A.beetles
def DRet (K : PySem.W.Frag) (A : OA) (s : Office) (c : Call) (H : Hp) (Q : VK) : Prop := OffD A ∧ ∀ p H2, H p = none → Keep A H H2 → OffAt K H2 A (does s c).1 → H2 p = some (.lst ((ansOf (does s c).2).map V.int)) → Q (.ref p) H2
def sp_deed (K : PySem.W.Frag) (mk : Call → Prop) : Sp := fun vs H Q _ => ∃ (A : OA) (s : Office) (nl rl : Addr) (c : Call), mk c ∧ right c = true ∧ vs = [.ref A.o, .ref nl, .ref rl] ∧ OffAt K H A s ∧ Ok s ∧ H nl = some (.lst (nvs (numsOf c))) ∧ H rl = some (.lst ((rowOf c).map V.int)) ∧ DRet K A s c H Q
theorem ints_nvs (l : List Nat) : (intsN l).map V.int = nvs l := by
  unfold intsN nvs
  rw [List.map_map]
  rfl
theorem dret_ask {K : PySem.W.Frag} {A : OA} {s : Office} {c : Call} {H : Hp} {Q : VK} (hO : OffAt K H A s) (k : DRet K A s c H Q) (hc : isAsk c) : RetL ((ansOf (asks s c)).map V.int) H Q := by
  unfold DRet at k
  rw [does_ask hc] at k
  exact fun p H2 hp e h => k.2 p H2 hp (Ex.keep e) (hO.mono e) h
def sp_Officehas_place (K : PySem.W.Frag) : Sp := fun vs H Q _ => ∃ (A : OA) (s : Office) (p : Nat), vs = [.ref A.o, nv p] ∧ OffAt K H A s ∧ RetV (.bl (decide (p < s.n))) H Q
def sp_in_one_row (K : PySem.W.Frag) : Sp := fun vs H Q _ => ∃ (l : Addr) (ps : List Addr) (d : List (Nat × Nat)), vs = [.ref l] ∧ H l = some (.lst (ps.map V.ref)) ∧ Tups H ps (d.map pairT) ∧ d.length ≤ 100 ∧ RetL (nvs (WrtistSpec.pairs d)) H Q
section
variable {K : PySem.W.Frag} {mg : Str → Option Value} {σ : L2.St} {H H' : Hp} {A : OA} {s : Office} {ta tb tc te tl : TE} {t u : TT} {g : TG} {vs : List Nat} {a p : Addr} {xs ws : List V} {D : Ends} {tu tz : TS} {v x y : V}
theorem ev_has {E : XK} {q : Nat} (hO : OffAt K H A s) (ha : Ev ta σ H (.ref A.o)) (hb : Ev tb σ H (nv q)) : Ev (tMeth (He.ga K "Office") "has_place" (sp_Officehas_place K) [] E ta (tCons tb tNil)) σ H (.bl (decide (q < s.n))) := fun H1 e Q k =>
  ha H1 e _ fun H2 e2 => by
    obtain ⟨dx, ho⟩ := (hO.mono (e.trans e2)).off
    refine ⟨A.o, dx, offF A s, rfl, ho, ?_, hb H2 (e.trans e2) _ fun H3 e3 => ⟨A, s, q, rfl, hO.mono ((e.trans e2).trans e3), fun H4 e4 => k H4 ((e2.trans e3).trans e4)⟩⟩
    exact (lk_tl (by decide +kernel)).trans ((lk_tl (by decide +kernel)).trans ((lk_tl (by decide +kernel)).trans ((lk_tl (by decide +kernel)).trans ((lk_tl (by decide +kernel)).trans ((lk_tl (by decide +kernel)).trans ((lk_tl (by decide +kernel)).trans ((lk_tl (by decide +kernel)).trans rfl)))))))
/-- names = a list's items -/
theorem q_unl {is : List Nat} (h : Ev te σ H (.ref p)) (hp : SqL K H p ws) (hl : ws.length = is.length) (k : ∀ H1, Ex H H1 → tz D (setAll σ is ws) H1) : tSeq (tAsg te (gUnl K is.length (gNames is))) tz D σ H :=
  h H (Ex.refl H) _ fun H1 e => ⟨p, ws, rfl, ex_l e hp, hl, gNames_ok is ws σ H1 _ hl (k H1 e)⟩
theorem q_asgPTx {is : List Nat} {P : HP} {R : List V → Hp → Prop} (h : EvP te σ H P) (hp : ∀ v H1, Ex H H1 → P v H1 → ∃ q us, v = .ref q ∧ SqT K H1 q us ∧ us.length = is.length ∧ R us H1) (k : ∀ us H1, Ex H H1 → R us H1 → tz D (setAll σ is us) H1) : tSeq (tAsg te (gTup K is.length (gNames is))) tz D σ H :=
  h H (Ex.refl H) _ fun v H1 e hv => by
    obtain ⟨q, us, rfl, hq, hl, hr⟩ := hp v H1 e hv
    exact gTup_ok hq hl (k us H1 e hr)
/-- [0] + a list -/
theorem el_zero {l : List Nat} (hb : EvL tb σ H (nvs l)) (hz : l.length ≤ 9000) : EvL (tOp rCat (tLst (tCons (tC (.int 0)) tNil)) tb) σ H (nvs (0 :: l)) := el_cat (el_lst (ea_cons (ev_nat 0 rfl) ea_nil) (by decide : 1 ≤ 100000)) hb (by rw [List.length_map]; show 1 + _ ≤ 100000; omega)
theorem s_no {z : Int} (q : RetL [.int z] H D.rt) (e : Ex H H') : tRet (tLst (tCons (tC (.int z)) tNil)) D σ H' :=
  s_retL (el_lst (ea_cons ev_c ea_nil) (by decide : 1 ≤ 100000)) fun p H1 hp e1 h => q p H1 (fresh_back e hp) (e.trans e1) h
theorem RetL.mono {Q : VK} (e : Ex H H') (q : RetL xs H Q) : RetL xs H' Q := fun p H2 hp e2 h => q p H2 (fresh_back e hp) (e.trans e2) h
end
end Sc
end

section
set_option Elab.async false
set_option linter.all false
set_option maxRecDepth 100000
set_option maxHeartbeats 4000000
namespace Sc
open PySem PySem.Spec PyProof.Rows L2 Evl
open TimStorm (Office Way Wood Table Beetle)
open WrtistSpec (Call does asks right tells no pairs)
def sp_state (K : PySem.W.Frag) : Sp := sp_deed K fun c => c = .state
def sp_left (K : PySem.W.Frag) : Sp := sp_deed K fun c => c = .left
def sp_reached (K : PySem.W.Frag) : Sp := sp_deed K fun c => c = .reached
def sp_near (K : PySem.W.Frag) : Sp := sp_deed K fun c => ∃ p, c = .near p
def sp_must (K : PySem.W.Frag) : Sp := sp_deed K fun c => ∃ p, c = .must p
def sp_least (K : PySem.W.Frag) : Sp := sp_deed K fun c => ∃ l, c = .least l
def sp_try_jobs (K : PySem.W.Frag) : Sp := sp_deed K fun c => ∃ l, c = .try_ l
def sp_best (K : PySem.W.Frag) : Sp := sp_deed K fun c => c = .best
def sp_prove (K : PySem.W.Frag) : Sp := sp_deed K fun c => c = .prove
def sp_check (K : PySem.W.Frag) : Sp := sp_deed K fun c => ∃ r, c = .check r
def sp_due (K : PySem.W.Frag) : Sp := sp_deed K fun c => ∃ p d, c = .due p d
def sp_save (K : PySem.W.Frag) : Sp := sp_deed K fun c => ∃ p d, c = .save p d
def sp_struck (K : PySem.W.Frag) : Sp := sp_deed K fun c => ∃ d, c = .struck d
def sp_whatif (K : PySem.W.Frag) : Sp := sp_deed K fun c => ∃ h, c = .whatif h
theorem sc_Officehas_place : FnScope ["self", "place"] ["self", "place"] (defScope s_Officehas_place) := C8.fnScope_by (by decide +kernel)
def t_Officehas_place (K : PySem.W.Frag) : TS :=
  (tRet (tOp rLt (tVar 1) (tFld K (tVar 0) "places")))
theorem sc_in_one_row : FnScope ["pairs", "row", "pair"] ["pairs"] (defScope s_in_one_row) := C8.fnScope_by (by decide +kernel)
def t_in_one_row (K : PySem.W.Frag) : TS :=
  (tSeq (tAsg (tLst tNil) (gName 1))
    (tSeq (tFor (iList K (tVar 0)) (gName 2) (tDrop (tBM K "list" (rExtendT K) (tVar 1) (tCons (tVar 2) tNil))))
    (tRet (tVar 1))))
theorem sc_state : FnScope ["office", "numbers", "row", "told", "counted"] ["office", "numbers", "row"] (defScope s_state) := C8.fnScope_by (by decide +kernel)
def t_state (K : PySem.W.Frag) : TS :=
  (tSeq (tAsg (tLst (tCons (tFld K (tVar 0) "places") (tCons (tFld K (tVar 0) "hours_a_day") (tCons (tFld K (tVar 0) "first_day") tNil)))) (gName 3))
    (tSeq (tAsg (tLst (tCons (tCB (rLenS K) (tCons (tFld K (tVar 0) "ways") tNil)) (tCons (tCB (rLenS K) (tCons (tFld K (tVar 0) "woods") tNil)) (tCons (tCB (rLenS K) (tCons (tFld K (tVar 0) "jobs_done") tNil)) tNil)))) (gName 4))
    (tRet (tOp rCat (tOp rCat (tOp rCat (tLst (tCons (tC (.int 0)) tNil)) (tVar 3)) (tVar 4)) (tLst (tCons (tCall (sp_hours_of K) [] C8.E0 (tCons (tVar 0) (tCons (tFld K (tVar 0) "jobs_done") tNil))) (tCons (tCall (sp_day_now K) [] C8.E0 (tCons (tVar 0) tNil)) (tCons (tCall (sp_lost_so_far K) [] C8.E0 (tCons (tVar 0) tNil)) tNil))))))))
theorem sc_left : FnScope ["office", "numbers", "row", "pairs", "job"] ["office", "numbers", "row"] (defScope s_left) := C8.fnScope_by (by decide +kernel)
def t_left (K : PySem.W.Frag) : TS :=
  (tSeq (tAsg (tLst tNil) (gName 3))
    (tSeq (tFor (iList K (tCall (sp_left_jobs K) [] C8.E0 (tCons (tVar 0) tNil))) (gName 4) (tDrop (tBM K "list" rAppend (tVar 3) (tCons (tTup (tCons (tVar 4) (tCons (tIf (tTest (tOp rEq (tCall (sp_hindrance K) [] C8.E0 (tCons (tVar 0) (tCons (tFld K (tVar 0) "jobs_done") (tCons (tVar 4) tNil)))) (tC (.int 0)))) (tC (.int 1)) (tC (.int 0))) tNil))) tNil))))
    (tRet (tOp rCat (tLst (tCons (tC (.int 0)) tNil)) (tCall (sp_in_one_row K) [] C8.E0 (tCons (tVar 3) tNil))))))
theorem sc_reached : FnScope ["office", "numbers", "row", "states", "place", "is_reached"] ["office", "numbers", "row"] (defScope s_reached) := C8.fnScope_by (by decide +kernel)
def t_reached (K : PySem.W.Frag) : TS :=
  (tSeq (tAsg (tCall (sp_reached_with K) [] C8.E0 (tCons (tVar 0) (tCons (tFld K (tVar 0) "jobs_done") tNil))) (gName 3))
    (tRet (tOp rCat (tLst (tCons (tC (.int 0)) tNil)) (tLc (iEnum K (tCons (tVar 3) tNil)) (gTup K 2 (gCons (gName 4) (gCons (gName 5) gNil))) (tB (tVar 5)) (tVar 4) [4, 5]))))
theorem sc_near : FnScope ["office", "numbers", "row", "place", "drive", "minutes", "many", "places"] ["office", "numbers", "row"] (defScope s_near) := C8.fnScope_by (by decide +kernel)
def t_near (K : PySem.W.Frag) : TS :=
  (tSeq (tAsg (tOp (rIxL K) (tVar 1) (tC (.int 0))) (gName 3))
    (tSeq (tIfS (tNot (tB (tMeth (He.ga K "Office") "has_place" (sp_Officehas_place K) [] C8.E0 (tVar 0) (tCons (tVar 3) tNil)))) (tRet (tLst (tCons (tC (.int (-3))) tNil))) tNext)
    (tSeq (tAsg (tCall (sp_quickest K) [] C8.E0 (tCons (tVar 0) (tCons (tCall (sp_drivable K) [] C8.E0 (tCons (tVar 0) (tCons (tFld K (tVar 0) "jobs_done") tNil))) (tCons (tVar 3) tNil)))) (gName 4))
    (tSeq (tIfS (tTest (tOp rIsN (tVar 4) (tC .non))) (tRet (tLst (tCons (tC (.int (-4))) tNil))) tNext)
    (tSeq (tAsg (tVar 4) (gTup K 3 (gCons (gName 5) (gCons (gName 6) (gCons (gName 7) gNil)))))
    (tRet (tOp rCat (tLst (tCons (tC (.int 0)) (tCons (tVar 5) tNil))) (tVar 7))))))))
theorem sc_must : FnScope ["office", "numbers", "row", "place"] ["office", "numbers", "row"] (defScope s_must) := C8.fnScope_by (by decide +kernel)
def t_must (K : PySem.W.Frag) : TS :=
  (tSeq (tAsg (tOp (rIxL K) (tVar 1) (tC (.int 0))) (gName 3))
    (tSeq (tIfS (tNot (tB (tMeth (He.ga K "Office") "has_place" (sp_Officehas_place K) [] C8.E0 (tVar 0) (tCons (tVar 3) tNil)))) (tRet (tLst (tCons (tC (.int (-3))) tNil))) tNext)
    (tSeq (tIfS (tNot (tB (tCall (sp_can_be_reached K) [] C8.E0 (tCons (tVar 0) (tCons (tLst (tCons (tVar 3) tNil)) tNil))))) (tRet (tLst (tCons (tC (.int (-4))) tNil))) tNext)
    (tRet (tOp rCat (tLst (tCons (tC (.int 0)) tNil)) (tCall (sp_needed_ways K) [] C8.E0 (tCons (tVar 0) (tCons (tVar 3) tNil))))))))
theorem sc_least : FnScope ["office", "numbers", "row", "hours", "many", "ways", "place"] ["office", "numbers", "row"] (defScope s_least) := C8.fnScope_by (by decide +kernel)
def t_least (K : PySem.W.Frag) : TS :=
  (tSeq (tIfS (tNot (tB (tCB (rAll K) (tCons (tLc (iList K (tVar 2)) (gName 6) tYes (tMeth (He.ga K "Office") "has_place" (sp_Officehas_place K) [] C8.E0 (tVar 0) (tCons (tVar 6) tNil)) [6]) tNil)))) (tRet (tLst (tCons (tC (.int (-3))) tNil))) tNext)
    (tSeq (tIfS (tNot (tB (tCall (sp_can_be_reached K) [] C8.E0 (tCons (tVar 0) (tCons (tVar 2) tNil))))) (tRet (tLst (tCons (tC (.int (-4))) tNil))) tNext)
    (tSeq (tAsg (tCall (sp_least_opening K) [] C8.E0 (tCons (tVar 0) (tCons (tVar 2) tNil))) (gTup K 3 (gCons (gName 3) (gCons (gName 4) (gCons (gName 5) gNil)))))
    (tRet (tOp rCat (tLst (tCons (tC (.int 0)) (tCons (tVar 3) tNil))) (tVar 5))))))
theorem sc_try_jobs : FnScope ["office", "numbers", "row"] ["office", "numbers", "row"] (defScope s_try_jobs) := C8.fnScope_by (by decide +kernel)
def t_try_jobs (K : PySem.W.Frag) : TS :=
  (tRet (tCall (sp_tried K) [] C8.E0 (tCons (tVar 0) (tCons (tVar 2) tNil))))
theorem sc_best : FnScope ["office", "numbers", "row", "lost", "order"] ["office", "numbers", "row"] (defScope s_best) := C8.fnScope_by (by decide +kernel)
def t_best (K : PySem.W.Frag) : TS :=
  (tSeq (tAsg (tCall (sp_best_order K) [] C8.E0 (tCons (tVar 0) tNil)) (gTup K 2 (gCons (gName 3) (gCons (gName 4) gNil))))
    (tRet (tOp rCat (tLst (tCons (tC (.int 0)) (tCons (tVar 3) tNil))) (tVar 4))))
theorem sc_prove : FnScope ["office", "numbers", "row", "jobs"] ["office", "numbers", "row"] (defScope s_prove) := C8.fnScope_by (by decide +kernel)
def t_prove (K : PySem.W.Frag) : TS :=
  (tSeq (tAsg (tCall (sp_left_jobs K) [] C8.E0 (tCons (tVar 0) tNil)) (gName 3))
    (tSeq (tIfS (tTest (tOp rGtI (tCB (rLenS K) (tCons (tVar 3) tNil)) (tC (.int (6))))) (tRet (tLst (tCons (tC (.int (-4))) tNil))) tNext)
    (tRet (tOp rCat (tLst (tCons (tC (.int 0)) tNil)) (tCall (sp_least_losses K) [] C8.E0 (tCons (tVar 0) (tCons (tFld K (tVar 0) "hours_a_day") (tCons (tVar 3) tNil))))))))
theorem sc_check : FnScope ["office", "numbers", "row", "jobs", "fault"] ["office", "numbers", "row"] (defScope s_check) := C8.fnScope_by (by decide +kernel)
def t_check (K : PySem.W.Frag) : TS :=
  (tSeq (tAsg (tCall (sp_left_jobs K) [] C8.E0 (tCons (tVar 0) tNil)) (gName 3))
    (tSeq (tIfS (tOr (tTest (tOp rGtI (tCB (rLenS K) (tCons (tVar 3) tNil)) (tC (.int (6))))) (tTest (tOp rNe (tCB (rLenS K) (tCons (tVar 2) tNil)) (tCall (sp_how_many_sets K) [] C8.E0 (tCons (tVar 3) tNil))))) (tRet (tLst (tCons (tC (.int (-4))) tNil))) tNext)
    (tSeq (tIfS (tTest (tOp rGtI (tOp (rIxL K) (tVar 2) (tUn (rU fun i => .int (-i)) (tC (.int 1)))) (tC (.int 0)))) (tRet (tLst (tCons (tC (.int 2)) tNil))) tNext)
    (tSeq (tAsg (tCall (sp_first_fault K) [] C8.E0 (tCons (tVar 0) (tCons (tVar 3) (tCons (tVar 2) tNil)))) (gName 4))
    (tSeq (tIfS (tTest (tOp rGtI (tCB (rLenS K) (tCons (tVar 4) tNil)) (tC (.int 0)))) (tRet (tOp rCat (tLst (tCons (tC (.int 1)) tNil)) (tVar 4))) tNext)
    (tRet (tLst (tCons (tC (.int 0)) (tCons (tOp (rIxL K) (tVar 2) (tC (.int 0))) tNil)))))))))
theorem sc_due : FnScope ["office", "numbers", "row", "place", "day"] ["office", "numbers", "row"] (defScope s_due) := C8.fnScope_by (by decide +kernel)
def t_due (K : PySem.W.Frag) : TS :=
  (tSeq (tAsg (tVar 1) (gUnl K 2 (gCons (gName 3) (gCons (gName 4) gNil))))
    (tSeq (tIfS (tNot (tB (tMeth (He.ga K "Office") "has_place" (sp_Officehas_place K) [] C8.E0 (tVar 0) (tCons (tVar 3) tNil)))) (tRet (tLst (tCons (tC (.int (-3))) tNil))) tNext)
    (tRet (tOp rCat (tLst (tCons (tC (.int 0)) tNil)) (tCall (sp_in_one_row K) [] C8.E0 (tCons (tCall (sp_due_for K) [] C8.E0 (tCons (tVar 0) (tCons (tVar 3) (tCons (tVar 4) tNil)))) tNil))))))
theorem sc_save : FnScope ["office", "numbers", "row", "place", "day", "order"] ["office", "numbers", "row"] (defScope s_save) := C8.fnScope_by (by decide +kernel)
def t_save (K : PySem.W.Frag) : TS :=
  (tSeq (tAsg (tVar 1) (gUnl K 2 (gCons (gName 3) (gCons (gName 4) gNil))))
    (tSeq (tIfS (tNot (tB (tMeth (He.ga K "Office") "has_place" (sp_Officehas_place K) [] C8.E0 (tVar 0) (tCons (tVar 3) tNil)))) (tRet (tLst (tCons (tC (.int (-3))) tNil))) tNext)
    (tSeq (tAsg (tCall (sp_saving_order K) [] C8.E0 (tCons (tVar 0) (tCons (tVar 3) (tCons (tVar 4) tNil)))) (gName 5))
    (tSeq (tIfS (tTest (tOp rIsN (tVar 5) (tC .non))) (tRet (tLst (tCons (tC (.int (-4))) tNil))) tNext)
    (tRet (tOp rCat (tLst (tCons (tC (.int 0)) tNil)) (tVar 5)))))))
theorem sc_struck : FnScope ["office", "numbers", "row"] ["office", "numbers", "row"] (defScope s_struck) := C8.fnScope_by (by decide +kernel)
def t_struck (K : PySem.W.Frag) : TS :=
  (tRet (tOp rCat (tLst (tCons (tC (.int 0)) tNil)) (tCall (sp_in_one_row K) [] C8.E0 (tCons (tCall (sp_struck_up_to K) [] C8.E0 (tCons (tVar 0) (tCons (tOp (rIxL K) (tVar 1) (tC (.int 0))) tNil))) tNil))))
theorem sc_whatif : FnScope ["office", "numbers", "row"] ["office", "numbers", "row"] (defScope s_whatif) := C8.fnScope_by (by decide +kernel)
def t_whatif (K : PySem.W.Frag) : TS :=
  (tRet (tLst (tCons (tC (.int 0)) (tCons (tOp (rIxL K) (tCall (sp_least_losses K) [] C8.E0 (tCons (tVar 0) (tCons (tOp (rIxL K) (tVar 1) (tC (.int 0))) (tCons (tCall (sp_left_jobs K) [] C8.E0 (tCons (tVar 0) tNil)) tNil)))) (tC (.int 0))) tNil))))
theorem places_rf {s : Office} (ok : Ok s) (l : List Nat) : places (rf s.n (s.reach l)) (fun _ b => b) = s.reach l := by
  obtain ⟨f, hf⟩ := (flt_reach s l ok).1
  refine rise_ext (places_rise _ _) ?_ fun x => ?_
  · rw [hf]
    exact List.Pairwise.filter _ List.pairwise_lt_range
  · rw [mem_places]
    constructor
    · rintro ⟨b, h1, h2⟩
      have hx : x < s.n := by
        have := (List.getElem?_eq_some_iff.mp h1).1
        rwa [rf_len] at this
      rw [rf_at hx] at h1
      have := Option.some.inj h1
      rw [h2] at this
      exact List.contains_iff_mem.mp this
    · intro hx
      exact ⟨true, by rw [rf_at (reach_lt ok hx), List.contains_iff_mem.mpr hx], rfl⟩
theorem drivable_rev (s : Office) (l : List Nat) : drivable s l.reverse = drivable s l := by
  unfold drivable
  simp only [contains_rev]
theorem flatMap_len (d : List (Nat × Nat)) : (pairs d).length = 2 * d.length := by
  unfold pairs
  induction d with
  | nil => rfl
  | cons a d ih => rw [List.flatMap_cons, List.length_append, ih]; simp only [List.length_cons, List.length_nil]; omega
theorem pairs_snoc (d : List (Nat × Nat)) (x : Nat × Nat) : pairs (d ++ [x]) = pairs d ++ [x.1, x.2] := by
  unfold pairs
  rw [List.flatMap_append]
  rfl
theorem drivable_len (s : Office) (l : List Nat) : (drivable s l).length ≤ s.ways.length := by
  unfold drivable
  rw [List.length_map]
  exact Nat.le_trans (List.length_filter_le _ _) (by simp)
section
variable {K : PySem.W.Frag} {mg : Str → Option Value}
theorem p_Officehas_place (T : Top K mg) (vs : List V) (H : Hp) (Q : VK) (E : XK) (h : sp_Officehas_place K vs H Q E) : t_Officehas_place K { nx := fun _ H' => Q .non H', rt := Q } (start ["self", "place"] vs) H := by
  obtain ⟨A, s, p, rfl, hO, q⟩ := h
  exact s_ret (ev_lt (ev_var rfl) (ev_places T hO (ev_var rfl))) q
theorem p_in_one_row (T : Top K mg) (vs : List V) (H : Hp) (Q : VK) (E : XK) (h : sp_in_one_row K vs H Q E) : t_in_one_row K { nx := fun _ H' => Q .non H', rt := Q } (start ["pairs", "row", "pair"] vs) H := by
  obtain ⟨l, ps, d, rfl, hl, hts, hz, q⟩ := h
  refine q_asgL (el_lst ea_nil (by decide : 0 ≤ 100000)) fun r H1 hr e1 hr1 => ?_
  have hne : l ≠ r := by
    rintro rfl
    rw [hr] at hl
    cases hl
  have hpl : ps.length = d.length := by rw [paired_len hts, List.length_map]
  refine q_forLn (ev_var rfl) (sq_of (e1 _ _ hl)) (fun i σ' H' => Ex H H' ∧ H' r = some (.lst (nvs (pairs (d.take i)))) ∧ Tups H' ps (d.map pairT) ∧ ∃ v, σ' = [some (.ref l), some (.ref r), v])
    (fun H2 e2 => ⟨e1.trans e2, e2 _ _ hr1, hts.mono (e1.trans e2), none, rfl⟩) (fun i σ' H' _ P => sq_of (P.1 _ _ hl)) ?_ ?_
  · rintro i x σ' H' hx ⟨p1, p2, p3, v, rfl⟩
    obtain ⟨q', hq, rfl⟩ := refs_get1 hx
    obtain ⟨b, hb, hqt⟩ := paired_at1 p3 hq
    rw [List.getElem?_map] at hb
    obtain ⟨y, hy, rfl⟩ := Option.map_eq_some_iff.mp hb
    have hlen := flatMap_len (d.take i)
    have htl := List.length_take_le' i d
    -- row.extend(pair)
    refine ⟨_, rfl, ?_, _, rfl, r, q', nvs (pairs (d.take i)), pairT y, rfl, rfl, p2, hqt, sz_of (by rw [nvs_len, hlen]; show _ + 2 ≤ 100000; omega), Ex.mut p1 hr, ?_, ?_, _, rfl⟩
    · exact Or.inl ⟨rfl, _, sq_of p2⟩
    · rw [upd_same, take_snoc hy, pairs_snoc, nvs_app]
      rfl
    · exact p3.put p2
  · rintro σ' H' ⟨p1, p2, p3, v, rfl⟩
    rw [List.length_map, hpl, List.take_length] at p2
    exact s_ret (ev_var rfl) fun H2 e2 => q r H2 hr (p1.trans e2) (e2 _ _ p2)
theorem v_in_one_row {H : Hp} {l : Addr} {ps : List Addr} {d : List (Nat × Nat)} (hl : H l = some (.lst (ps.map V.ref))) (hts : Tups H ps (d.map pairT)) (hz : d.length ≤ 100) : SpL (sp_in_one_row K) [.ref l] H (nvs (pairs d)) := fun H1 e Q q E => ⟨l, ps, d, rfl, e _ _ hl, hts.mono e, hz, q⟩
theorem el_row {σ : L2.St} {H : Hp} {ta : TE} {d : List (Nat × Nat)} {E : XK} (h : EvTs ta σ H (d.map pairT)) (hz : d.length ≤ 100) : EvL (tCall (sp_in_one_row K) [] E (tCons ta tNil)) σ H (nvs (pairs d)) :=
  el_callG (P := fun vs H2 => ∃ p ps, vs = [.ref p] ∧ H2 p = some (.lst (ps.map V.ref)) ∧ Tups H2 ps (d.map pairT)) (eap_cons (ep_ts h) fun v H1 e hv => eap_nil fun H2 e2 => by
    obtain ⟨p, ps, rfl, h1, h2⟩ := hv
    exact ⟨p, ps, rfl, e2 _ _ h1, h2.mono e2⟩) fun vs H1 e hvs => by
    obtain ⟨p, ps, rfl, h1, h2⟩ := hvs
    exact v_in_one_row h1 h2 hz
theorem p_state (T : Top K mg) (vs : List V) (H : Hp) (Q : VK) (E : XK) (h : sp_state K vs H Q E) : t_state K { nx := fun _ H' => Q .non H', rt := Q } (start ["office", "numbers", "row", "told", "counted"] vs) H := by
  obtain ⟨A, s, nl, rl, c, rfl, hr, rfl, hO, ok, hn, hrw, k⟩ := h
  have q := dret_ask hO k trivial
  rw [show asks s .state = tells [s.n, s.hours, s.first, s.ways.length, s.woods.length, s.done.length, s.spent s.done, s.now, s.lost] from rfl, ans_tells, ints_nvs] at q
  have hdl := done_len ok
  refine q_asgL (el_lst (ea_cons (ev_places T hO (ev_var rfl)) (ea_cons (ev_hours_a_day T hO (ev_var rfl)) (ea_cons (ev_first_day T hO (ev_var rfl)) ea_nil))) (by decide : 3 ≤ 100000)) fun p1 H1 hp1 e1 h1 => ?_
  have hO1 := hO.mono e1
  refine q_asgL (el_lst (ea_cons (ev_nways T hO1 (ev_var rfl)) (ea_cons (ev_nwoods T hO1 (ev_var rfl)) (ea_cons (ev_ndone T hO1 (ev_var rfl)) ea_nil))) (by decide : 3 ≤ 100000)) fun p2 H2 hp2 e2 h2 => ?_
  have e12 := e1.trans e2
  have hO2 := hO1.mono e2
  have hsp : SpV (sp_hours_of K) [.ref A.o, .ref A.done] H2 (nv (s.spent s.done)) := by
    have := v_hours_of (K := K) hO2 ok (sq_of hO2.done) (fun j hj => ok.dj j (List.mem_reverse.mp hj)) (by rw [List.length_reverse]; omega)
    rwa [spent_reverse] at this
  exact s_retL (el_cat (el_catR (el_catR (el_lst (ea_cons (ev_nat 0 rfl) ea_nil) (by decide : 1 ≤ 100000)) (ev_var rfl) (e2 _ _ h1) (by decide : 1 + 3 ≤ 100000)) (ev_var rfl) h2 (by decide : 4 + 3 ≤ 100000))
    (el_lst (ea_cons (ev_call (ea_cons (ev_var rfl) (ea_cons (ev_jobs_done T hO2 (ev_var rfl)) ea_nil)) hsp) (ea_cons (ev_call (ea_cons (ev_var rfl) ea_nil) (v_day_now hO2 ok)) (ea_cons (ev_call (ea_cons (ev_var rfl) ea_nil) (v_lost_so_far hO2 ok)) ea_nil))) (by decide : 3 ≤ 100000)) (by decide : 7 + 3 ≤ 100000)) (RetL.mono e12 q)
theorem p_left (T : Top K mg) (vs : List V) (H : Hp) (Q : VK) (E : XK) (h : sp_left K vs H Q E) : t_left K { nx := fun _ H' => Q .non H', rt := Q } (start ["office", "numbers", "row", "pairs", "job"] vs) H := by
  obtain ⟨A, s, nl, rl, c, rfl, hr, rfl, hO, ok, hn, hrw, k⟩ := h
  have q := dret_ask hO k trivial
  let f : Nat → Nat × Nat := fun j => (j, if s.can s.done j = true then 1 else 0)
  rw [show asks s .left = tells (pairs (s.left.map f)) from rfl, ans_tells, ints_nvs] at q
  have hl10 := left_len ok
  refine q_asgL (el_lst ea_nil (by decide : 0 ≤ 100000)) fun r H1 hr1 e1 h1 => ?_
  refine q_forNLn (el_left T (hO.mono e1) ok (ev_var rfl)) (fun a i σ' H' => Ex H H' ∧ H' a = some (.lst (nvs s.left)) ∧ a ≠ r ∧ (∃ ps : List Addr, H' r = some (.lst (ps.map V.ref)) ∧ Tups H' ps (((s.left.take i).map f).map pairT) ∧ ps.length ≤ i) ∧ ∃ v, σ' = [some (.ref A.o), some (.ref nl), some (.ref rl), some (.ref r), v])
    (fun a H2 ha e2 h => ⟨e1.trans e2, h, (by rintro rfl; rw [ha] at h1; cases h1), ⟨[], e2 _ _ h1, .nil, Nat.le_refl _⟩, none, rfl⟩) (fun a i σ' H' _ P => sq_of P.2.1) ?_ ?_
  · rintro a i x σ' H' hx ⟨p1, p2, p3, ⟨ps, p4, p5, p6⟩, v, rfl⟩
    obtain ⟨j, hj, rfl⟩ := nvs_of hx
    have hO1 := hO.mono p1
    have hil := (List.getElem?_eq_some_iff.mp hj).1
    have hv : (if decide ((-(hind s s.done.reverse j : Nat) : Int) = 0) = true then nv 1 else nv 0) = nv (f j).2 := by
      have e : hind s s.done.reverse j = hind s s.done j := hind_congr ok (fun k => List.mem_reverse) j
      show _ = nv (if s.can s.done j = true then 1 else 0)
      rw [e]
      by_cases c : s.can s.done j = true
      · rw [if_pos c, (hind_can _ _).mpr c]
        rfl
      · rw [if_neg c, if_neg]
        intro z
        have := of_decide_eq_true z
        exact c ((hind_can _ _).mp (by omega))
    refine s_appU (xs := ps.map V.ref) (ys := pairT (f j)) p4 (ev_var rfl) (eu_tup (ea_cons (ev_var rfl) (ea_cons (ev_if (b := decide ((-(hind s s.done.reverse j : Nat) : Int) = 0)) (v := nv (f j).2) (et_test (ev_is (ev_op (ev_call (ea_cons (ev_var rfl) (ea_cons (ev_jobs_done T hO1 (ev_var rfl)) (ea_cons (ev_var rfl) ea_nil))) (v_hindrance hO1 ok (sq_of hO1.done))) ev_c (rv_eq rfl)) ?_)) (fun hb => ?_) (fun hb => ?_)) ea_nil)) (by decide : 2 ≤ 100000)) (by rw [List.length_map]; omega) fun t H2 ht e2 h2 => ?_
    · exact congrArg V.bl (decide_eq_decide.mpr ⟨fun z => V.int.inj z, fun z => by rw [z]⟩)
    · rw [if_pos hb] at hv
      rw [← hv]
      exact ev_nat 1 rfl
    · rw [if_neg (by rw [hb]; decide)] at hv
      rw [← hv]
      exact ev_nat 0 rfl
    · have hne : t ≠ r := by
        rintro rfl
        rw [p4] at ht
        cases ht
      refine ⟨Ex.mut (p1.trans e2) hr1, by rw [upd_ne p3]; exact e2 _ _ p2, p3, ⟨ps ++ [t], ?_, ?_, ?_⟩, _, rfl⟩
      · rw [upd_same, List.map_append]; rfl
      · rw [take_snoc hj, List.map_append, List.map_append]
        exact Paired.snoc ((p5.mono e2).put (e2 _ _ p4)) (by rw [upd_ne hne]; exact h2)
      · rw [List.length_append]; simp; omega
  · rintro a σ' H' ⟨p1, p2, p3, ⟨ps, p4, p5, p6⟩, v, rfl⟩
    rw [nvs_len, List.take_length] at p5
    have hlen : (s.left.map f).length ≤ 100 := by rw [List.length_map]; omega
    refine s_retL (el_zero (el_call (ea_cons (ev_var rfl) ea_nil) (v_in_one_row p4 p5 hlen)) (by rw [flatMap_len]; omega)) (RetL.mono p1 q)
theorem p_reached (T : Top K mg) (vs : List V) (H : Hp) (Q : VK) (E : XK) (h : sp_reached K vs H Q E) : t_reached K { nx := fun _ H' => Q .non H', rt := Q } (start ["office", "numbers", "row", "states", "place", "is_reached"] vs) H := by
  obtain ⟨A, s, nl, rl, c, rfl, hr, rfl, hO, ok, hn, hrw, k⟩ := h
  have q := dret_ask hO k trivial
  rw [show asks s .reached = tells (s.reach s.done) from rfl, ans_tells, ints_nvs] at q
  have hn16 := ok.n16
  refine q_asgL (el_call (ea_cons (ev_var rfl) (ea_cons (ev_jobs_done T hO (ev_var rfl)) ea_nil)) (v_reached_with hO ok (sq_of hO.done))) fun r H1 hr1 e1 h1 => ?_
  have er : s.reach s.done.reverse = s.reach s.done := reach_congr ok fun k => List.mem_reverse
  rw [er] at h1
  have key := el_lcE (K := K) (a := r) (t := tB (tVar 5)) (te := tVar 4) (vs := [4, 5]) (i := 4) (j := 5) (ta := tCons (tVar 3) tNil) (σ := [some (.ref A.o), some (.ref nl), some (.ref rl), some (.ref r), none, none]) (H := H1) (rf s.n (s.reach s.done)) (fun _ b => b) (fun k _ => nv k) (ea_cons (ev_var rfl) ea_nil) (sq_of h1) (bls_len _) (by rw [rf_len]; omega) (fun _ _ => rfl)
    (fun k x b hx hb H2 e => by
      have : x = .bl b := by
        unfold bls at hx
        rw [List.getElem?_map, hb] at hx
        exact (Option.some.inj hx).symm
      subst this
      exact et_val (ev_var rfl)) (fun k x b hx hb H2 e _ => ev_var rfl)
  rw [pick_nat, places_rf ok] at key
  have hlen : (s.reach s.done).length ≤ 16 := by
    have := flt_le (flt_reach s s.done ok).1
    omega
  exact s_retL (el_zero key (by omega)) (RetL.mono e1 q)
theorem p_near (T : Top K mg) (vs : List V) (H : Hp) (Q : VK) (E : XK) (h : sp_near K vs H Q E) : t_near K { nx := fun _ H' => Q .non H', rt := Q } (start ["office", "numbers", "row", "place", "drive", "minutes", "many", "places"] vs) H := by
  obtain ⟨A, s, nl, rl, c, ⟨p, rfl⟩, hr, rfl, hO, ok, hn, hrw, k⟩ := h
  have q := dret_ask hO k trivial
  have hwl := ok.wl
  refine q_asg (ev_ix (j := 0) (ev_var rfl) (sq_of hn) (ev_nat 0 rfl) (show _ = some (nv p) from rfl)) fun H1 e1 => ?_
  have ha : asks s (.near p) = if s.n ≤ p then no (-3) else match s.near p with
    | none => no (-4)
    | some d => tells (d.headD 0 :: d.drop 2) := rfl
  rw [ha] at q
  refine q_when (b := !decide (p < s.n)) (et_not (et_val (ev_has (hO.mono e1) (ev_var rfl) (ev_var rfl)))) (fun hb H2 e2 => ?_) (fun hb H2 e2 => ?_)
  · rw [if_pos (by simpa using hb)] at q
    exact s_no q (e1.trans e2)
  · have hp : p < s.n := by simpa using hb
    rw [if_neg (by omega), near_eq ok hp] at q
    have e12 := e1.trans e2
    have hO2 := hO.mono e12
    have hdw : drivable s s.done.reverse = drivable s s.done := drivable_rev s s.done
    have hdl := drivable_len s s.done
    refine q_asgG (P := isDrive ((qrun s.n (drivable s s.done) (s.n - 1)).getD p none)) (ep_callG (P := fun vs H3 => ∃ l ps, vs = [.ref A.o, .ref l, nv p] ∧ H3 l = some (.lst (ps.map V.ref)) ∧ Paired (WayAt K H3) ps (drivable s s.done)) (eap_cons (ep_ev (ev_var rfl)) fun v1 H3 e3 hv1 => eap_cons (P := fun v H3 => ∃ l ps, v = .ref l ∧ H3 l = some (.lst (ps.map V.ref)) ∧ Paired (WayAt K H3) ps (drivable s s.done)) (ep_callG (P := fun vs _ => vs = [.ref A.o, .ref A.done]) (eap_of (ea_cons (ev_var rfl) (ea_cons (ev_jobs_done T (hO2.mono e3) (ev_var rfl)) ea_nil))) fun vs H4 e4 hvs Q q => ?_) fun v2 H4 e4 hv2 => eap_cons (ep_ev (ev_var rfl)) fun v3 H5 e5 hv3 => eap_nil fun H6 e6 => ?_) fun vs H4 e4 hvs Q q => ?_) fun v H3 e3 hv => ?_
    · subst hvs
      have hO4 := hO2.mono (e3.trans e4)
      refine v_drivable hO4 ok (sq_of hO4.done) H4 (Ex.refl _) Q (fun l ps H5 hl e5 h1 h2 => ?_) _
      rw [hdw] at h2
      exact q (.ref l) H5 e5 ⟨l, ps, rfl, h1, h2⟩
    · obtain ⟨l, ps, rfl, h1, h2⟩ := hv2
      subst hv1 hv3
      exact ⟨l, ps, rfl, (e5.trans e6) _ _ h1, paired_mono (fun _ _ z => z.mono (e5.trans e6)) h2⟩
    · obtain ⟨l, ps, rfl, h1, h2⟩ := hvs
      exact v_quickest (hO2.mono e4) ok (sq_of h1) h2 (fun w hw => drv_lt ok w (mem_drivable.mp hw)) (by omega) hp H4 (Ex.refl _) Q q _
    · have e13 := e12.trans e3
      revert q hv
      generalize hx : (qrun s.n (drivable s s.done) (s.n - 1)).getD p none = x
      intro q hv
      have hlen : ∀ t, x = some t → t.2.2.length ≤ 3000 := by
        intro t ht
        rw [ht] at hx
        have := Rows.run (n := s.n) (ws := drivable s s.done) (fun w hw => drv_lt ok w (mem_drivable.mp hw)) (by omega) (s.n - 1) p t hx
        have := ok.n16
        omega
      refine q_when (b := decide (v = .non)) (et_test (ev_isN (ev_var rfl))) (fun hb H4 e4 => ?_) (fun hb H4 e4 => ?_)
      · have hx0 := (drive_non hv).mp (of_decide_eq_true hb)
        subst hx0
        exact s_no q (e13.trans e4)
      · cases x with
        | none => exact absurd ((drive_non hv).mpr rfl) (of_decide_eq_false hb)
        | some t =>
          obtain ⟨r, rfl, o, g1, g2⟩ := hv
          have htl := hlen t rfl
          refine q_asgT (is := [5, 6, 7]) (ws := [nv t.1, nv t.2.1, .ref o]) (ev_var rfl) (SqT.of (e4 _ _ g1)) rfl fun H5 e5 => ?_
          have q' : RetL (nvs (0 :: t.1 :: t.2.2)) H Q := by
            have : ansOf (tells ((flat t).headD 0 :: (flat t).drop 2)) = intsN (0 :: t.1 :: t.2.2) := rfl
            have q : RetL ((ansOf (tells ((flat t).headD 0 :: (flat t).drop 2))).map V.int) H Q := q
            rw [this, ints_nvs] at q
            exact q
          exact s_retL (el_catR (ys := nvs t.2.2) (el_lst (ea_cons (ev_nat 0 rfl) (ea_cons (ev_var rfl) ea_nil)) (by decide : 2 ≤ 100000)) (ev_var rfl) ((e4.trans e5) _ _ g2) (by rw [nvs_len]; show 2 + _ ≤ 100000; omega)) (RetL.mono ((e13.trans e4).trans e5) q')
theorem p_must (T : Top K mg) (vs : List V) (H : Hp) (Q : VK) (E : XK) (h : sp_must K vs H Q E) : t_must K { nx := fun _ H' => Q .non H', rt := Q } (start ["office", "numbers", "row", "place"] vs) H := by
  obtain ⟨A, s, nl, rl, c, ⟨p, rfl⟩, hr, rfl, hO, ok, hn, hrw, k⟩ := h
  have q := dret_ask hO k trivial
  refine q_asg (ev_ix (j := 0) (ev_var rfl) (sq_of hn) (ev_nat 0 rfl) (show _ = some (nv p) from rfl)) fun H1 e1 => ?_
  have ha : asks s (.must p) = if s.n ≤ p then no (-3) else if s.reaches s.jobs [p] = false then no (-4) else tells (s.must p) := rfl
  rw [ha] at q
  refine q_when (b := !decide (p < s.n)) (et_not (et_val (ev_has (hO.mono e1) (ev_var rfl) (ev_var rfl)))) (fun hb H2 e2 => ?_) (fun hb H2 e2 => ?_)
  · rw [if_pos (by simpa using hb)] at q
    exact s_no q (e1.trans e2)
  · have hp : p < s.n := by simpa using hb
    rw [if_neg (by omega)] at q
    have e12 := e1.trans e2
    have hO2 := hO.mono e12
    refine q_when (b := !s.reaches s.jobs [p]) (et_not (et_val (ev_callG (P := fun vs H3 => ∃ r, vs = [.ref A.o, .ref r] ∧ H3 r = some (.lst (nvs [p]))) (eap_cons (ep_ev (ev_var rfl)) fun v1 H3 e3 hv1 => eap_cons (ep_l (el_lst (ea_cons (ev_var rfl) ea_nil) (by decide : 1 ≤ 100000))) fun v2 H4 e4 hv2 => eap_nil fun H5 e5 => ?_) fun vs H3 e3 hvs => ?_))) (fun hb H3 e3 => ?_) (fun hb H3 e3 => ?_)
    · obtain ⟨r, rfl, h1⟩ := hv2
      subst hv1
      exact ⟨r, rfl, e5 _ _ h1⟩
    · obtain ⟨r, rfl, h1⟩ := hvs
      exact v_can_be_reached (hO2.mono e3) ok (sq_of h1) (fun x hx => by rw [List.mem_singleton.mp hx]; exact hp) (by decide : 1 ≤ 100)
    · rw [if_pos (by simpa using hb)] at q
      exact s_no q (e12.trans e3)
    · rw [if_neg (by simpa using hb), ans_tells, ints_nvs] at q
      have hml : (s.must p).length ≤ 10 := by
        rw [must_eq]
        exact Nat.le_trans (List.length_filter_le _ _) (shut_len ok)
      exact s_retL (el_zero (el_call (ea_cons (ev_var rfl) (ea_cons (ev_var rfl) ea_nil)) (v_needed_ways (hO2.mono e3) ok hp)) (by omega)) (RetL.mono (e12.trans e3) q)
theorem p_least (T : Top K mg) (vs : List V) (H : Hp) (Q : VK) (E : XK) (h : sp_least K vs H Q E) : t_least K { nx := fun _ H' => Q .non H', rt := Q } (start ["office", "numbers", "row", "hours", "many", "ways", "place"] vs) H := by
  obtain ⟨A, s, nl, rl, c, ⟨l, rfl⟩, hr, rfl, hO, ok, hn, hrw, k⟩ := h
  have q := dret_ask hO k trivial
  have hrow : H rl = some (.lst (nvs l)) := by rw [hrw, show rowOf (.least l) = intsN l from rfl, ints_nvs]
  have hll : l.length ≤ 16 := by
    have : (WrtistSpec.within 1 TimStorm.PLACES l.length && l.all WrtistSpec.isPlace) = true := hr
    rw [Bool.and_eq_true, within_iff] at this
    exact this.1.2
  have ha : asks s (.least l) = if l.any (fun (p : Nat) => decide (s.n ≤ p)) = true then no (-3) else match s.least l with
    | none => no (-4)
    | some x => tells (s.spent x :: x) := rfl
  rw [ha] at q
  refine q_when (b := !(l.all fun p => decide (p < s.n))) (et_not (et_val (ev_is (ev_all (bs := l.map fun p => decide (p < s.n)) (by
    rw [List.map_map]
    exact el_lcA l (fun p => .bl (decide (p < s.n))) nv (ev_var rfl) (sq_of hrow) (by omega) (fun _ => rfl) fun p hp H1 e1 => ev_has (hO.mono e1) (ev_var rfl) (ev_var rfl))) (by rw [List.all_map]; rfl)))) (fun hb H1 e1 => ?_) (fun hb H1 e1 => ?_)
  · rw [if_pos ?_] at q
    · exact s_no q e1
    · rw [Bool.not_eq_true', ← Bool.not_eq_true, List.all_eq_true] at hb
      rw [List.any_eq_true]
      apply Classical.byContradiction
      intro z
      refine hb fun x hx => ?_
      rw [decide_eq_true_eq]
      apply Classical.byContradiction
      intro y
      exact z ⟨x, hx, decide_eq_true (by omega)⟩
  · have hall : ∀ p ∈ l, p < s.n := by
      have : (l.all fun p => decide (p < s.n)) = true := by simpa using hb
      exact fun p hp => of_decide_eq_true (List.all_eq_true.mp this p hp)
    rw [if_neg ?_] at q
    · have hO1 := hO.mono e1
      have hrow1 := e1 _ _ hrow
      refine q_when (b := !s.reaches s.jobs l) (et_not (et_val (ev_call (ea_cons (ev_var rfl) (ea_cons (ev_var rfl) ea_nil)) (v_can_be_reached hO1 ok (sq_of hrow1) hall (by omega))))) (fun hb2 H2 e2 => ?_) (fun hb2 H2 e2 => ?_)
      · rw [least_no ok (by simpa using hb2)] at q
        exact s_no q (e1.trans e2)
      · have hrs : s.reaches s.jobs l = true := by simpa using hb2
        have hfn := fits_ne ok hrs
        cases hf : fits s l with
        | nil => exact absurd hf hfn
        | cons a b =>
          have hx := least_keep hf
          generalize TimStorm.sets s.shut = dummy at hx
          revert hx
          generalize keep (fun x y => TimStorm.before (key s x) (key s y)) a b = x
          intro hx
          rw [hx] at q
          have hxl : x.length ≤ 10 := by
            have hm := (optLeast_ok (key_st s) ((least_eq s l).symm.trans hx)).1
            have := (mem_sets.mp (List.mem_filter.mp hm).1).length_le
            have := shut_len ok
            omega
          have q' : RetL (nvs (0 :: s.spent x :: x)) H Q := by
            have q : RetL ((ansOf (tells (s.spent x :: x))).map V.int) H Q := q
            rw [ans_tells, ints_nvs] at q
            exact q
          have e12 := e1.trans e2
          refine q_asgPTx (is := [3, 4, 5]) (R := fun us H3 => ∃ o, us = [nv (s.spent x), nv x.length, .ref o] ∧ H3 o = some (.lst (nvs x))) (ep_callG (P := fun vs _ => vs = [.ref A.o, .ref rl]) (R := isTrip (s.spent x) x.length x) (eap_of (ea_cons (ev_var rfl) (ea_cons (ev_var rfl) ea_nil))) fun vs H3 e3 hvs Q q => ?_) (fun v H3 e3 hv => ?_) fun us H3 e3 hus => ?_
          · subst hvs
            exact v_least_opening (hO.mono e12) ok (sq_of (e12 _ _ hrow)) hall (by omega) hx H3 e3 Q q _
          · obtain ⟨r, rfl, o, g1, g2⟩ := hv
            exact ⟨r, _, rfl, SqT.of g1, rfl, o, rfl, g2⟩
          · obtain ⟨o, rfl, g2⟩ := hus
            exact s_retL (el_catR (ys := nvs x) (el_lst (ea_cons (ev_nat 0 rfl) (ea_cons (ev_var rfl) ea_nil)) (by decide : 2 ≤ 100000)) (ev_var rfl) g2 (by rw [nvs_len]; show 2 + _ ≤ 100000; omega)) (RetL.mono (e12.trans e3) q')
    · rw [Bool.not_eq_true, ← Bool.not_eq_true, List.any_eq_true]
      rintro ⟨x, hx, h⟩
      have := hall x hx
      have := of_decide_eq_true h
      omega
theorem p_try_jobs (T : Top K mg) (vs : List V) (H : Hp) (Q : VK) (E : XK) (h : sp_try_jobs K vs H Q E) : t_try_jobs K { nx := fun _ H' => Q .non H', rt := Q } (start ["office", "numbers", "row"] vs) H := by
  obtain ⟨A, s, nl, rl, c, ⟨l, rfl⟩, hr, rfl, hO, ok, hn, hrw, k⟩ := h
  have q := dret_ask hO k trivial
  have hrow : H rl = some (.lst (nvs l)) := by rw [hrw, show rowOf (.try_ l) = intsN l from rfl, ints_nvs]
  have hll : l.length ≤ 20 := by
    have : (decide (l.length ≤ 20) && l.all WrtistSpec.isJobNo) = true := hr
    rw [Bool.and_eq_true, decide_eq_true_eq] at this
    exact this.1
  have ha : ansOf (asks s (.try_ l)) = triedNums s l := by
    unfold triedNums
    show ansOf (match WrtistSpec.stops s 0 s.done l with
      | some x => ⟨1, [(x.1 : Int), (x.2 : Int)]⟩
      | none => tells [s.lossFrom (s.spent s.done) l, s.dayOf (s.spent s.done + s.spent l)]) = _
    cases WrtistSpec.stops s 0 s.done l <;> rfl
  rw [ha] at q
  exact s_retL (el_call (ea_cons (ev_var rfl) (ea_cons (ev_var rfl) ea_nil)) (v_tried hO ok (sq_of hrow) (by omega))) q
theorem p_best (T : Top K mg) (vs : List V) (H : Hp) (Q : VK) (E : XK) (h : sp_best K vs H Q E) : t_best K { nx := fun _ H' => Q .non H', rt := Q } (start ["office", "numbers", "row", "lost", "order"] vs) H := by
  obtain ⟨A, s, nl, rl, c, rfl, hr, rfl, hO, ok, hn, hrw, k⟩ := h
  have q := dret_ask hO k trivial
  rw [show asks s .best = tells (s.best.1 :: s.best.2) from rfl, ans_tells, ints_nvs] at q
  have hbl : s.best.2.length ≤ 10 := by
    rw [← goB_end ok]
    have : ∀ t, (goB s s.left t).2.length = t := by
      intro t
      induction t with
      | zero => rfl
      | succ t ih =>
        show ((goB s s.left t).2 ++ [_]).length = t + 1
        rw [List.length_append, ih]
        rfl
    rw [this]
    exact left_len ok
  refine q_asgPTx (is := [3, 4]) (R := fun us H3 => ∃ o, us = [nv s.best.1, .ref o] ∧ H3 o = some (.lst (nvs s.best.2))) (ep_callG (P := fun vs _ => vs = [.ref A.o]) (R := fun v H3 => ∃ r o, v = .ref r ∧ H3 r = some (.tup [nv s.best.1, .ref o]) ∧ H3 o = some (.lst (nvs s.best.2))) (eap_of (ea_cons (ev_var rfl) ea_nil)) fun vs H3 e3 hvs Q q => ?_) (fun v H3 e3 hv => ?_) fun us H3 e3 hus => ?_
  · subst hvs
    exact v_best_order hO ok H3 e3 Q (fun p o H4 e4 h1 h2 => q (.ref p) H4 e4 ⟨p, o, rfl, h1, h2⟩) _
  · obtain ⟨r, o, rfl, g1, g2⟩ := hv
    exact ⟨r, _, rfl, SqT.of g1, rfl, o, rfl, g2⟩
  · obtain ⟨o, rfl, g2⟩ := hus
    exact s_retL (el_catR (ys := nvs s.best.2) (el_lst (ea_cons (ev_nat 0 rfl) (ea_cons (ev_var rfl) ea_nil)) (by decide : 2 ≤ 100000)) (ev_var rfl) g2 (by rw [nvs_len]; show 2 + _ ≤ 100000; omega)) (RetL.mono e3 q)
theorem p_prove (T : Top K mg) (vs : List V) (H : Hp) (Q : VK) (E : XK) (h : sp_prove K vs H Q E) : t_prove K { nx := fun _ H' => Q .non H', rt := Q } (start ["office", "numbers", "row", "jobs"] vs) H := by
  obtain ⟨A, s, nl, rl, c, rfl, hr, rfl, hO, ok, hn, hrw, k⟩ := h
  have q := dret_ask hO k trivial
  rw [show asks s .prove = if TimStorm.SHORT < s.left.length then no (-4) else tells s.proof from rfl] at q
  have hpw := pow_left ok
  refine q_asgL (el_left T hO ok (ev_var rfl)) fun l H1 hl e1 h1 => ?_
  have hO1 := hO.mono e1
  refine q_when (b := decide (6 < s.left.length)) (et_test (ev_gt (ev_is (ev_lenL (ev_var rfl) (sq_of h1)) (by rw [nvs_len])) (ev_nat 6 rfl))) (fun hb H2 e2 => ?_) (fun hb H2 e2 => ?_)
  · rw [if_pos (show TimStorm.SHORT < _ from of_decide_eq_true hb)] at q
    exact s_no q (e1.trans e2)
  · rw [if_neg (show ¬ TimStorm.SHORT < _ from of_decide_eq_false hb), ans_tells, ints_nvs, ← losses_eq ok] at q
    have hll := losses_len s s.left
    exact s_retL (el_zero (el_call (ea_cons (ev_var rfl) (ea_cons (ev_hours_a_day T (hO1.mono e2) (ev_var rfl)) (ea_cons (ev_var rfl) ea_nil))) (v_losses (hO1.mono e2) ok (sq_of (e2 _ _ h1)))) (by rw [hll]; omega)) (RetL.mono (e1.trans e2) q)
theorem p_check (T : Top K mg) (vs : List V) (H : Hp) (Q : VK) (E : XK) (h : sp_check K vs H Q E) : t_check K { nx := fun _ H' => Q .non H', rt := Q } (start ["office", "numbers", "row", "jobs", "fault"] vs) H := by
  obtain ⟨A, s, nl, rl, c, ⟨r, rfl⟩, hr, rfl, hO, ok, hn, hrw, k⟩ := h
  have q := dret_ask hO k trivial
  have hrow : H rl = some (.lst (r.map V.int)) := hrw
  have hrl : 1 ≤ r.length ∧ r.length ≤ 64 := by
    have : (WrtistSpec.within 1 (2 ^ TimStorm.SHORT) r.length && r.all _) = true := hr
    rw [Bool.and_eq_true, within_iff] at this
    exact this.1
  have ha : asks s (.check r) = if TimStorm.SHORT < s.left.length ∨ r.length ≠ 2 ^ s.left.length then no (-4) else if 0 < r.getD (2 ^ s.left.length - 1) 0 then ⟨2, []⟩ else match s.fault s.left r with
    | some x => ⟨1, [(x.1 : Int), (x.2 : Int)]⟩
    | none => ⟨0, [r.getD 0 0]⟩ := rfl
  rw [ha] at q
  have hl10 := left_len ok
  refine q_asgL (el_left T hO ok (ev_var rfl)) fun l H1 hl e1 h1 => ?_
  have hO1 := hO.mono e1
  have hrow1 := e1 _ _ hrow
  refine q_when (b := decide (6 < s.left.length) || !decide (r.length = 2 ^ s.left.length)) (et_or (et_test (ev_gt (ev_is (ev_lenL (ev_var rfl) (sq_of h1)) (by rw [nvs_len])) (ev_nat 6 rfl))) fun _ => et_test (ev_neN (ev_is (ev_lenL (ev_var rfl) (sq_of hrow1)) (by rw [List.length_map])) (ev_call (ea_cons (ev_var rfl) ea_nil) (v_how_many_sets (sq_of h1) (by omega))))) (fun hb H2 e2 => ?_) (fun hb H2 e2 => ?_)
  · rw [if_pos ?_] at q
    · exact s_no q (e1.trans e2)
    · rw [Bool.or_eq_true, decide_eq_true_eq, Bool.not_eq_true', decide_eq_false_iff_not] at hb
      exact hb
  · rw [Bool.or_eq_false_iff, decide_eq_false_iff_not, Bool.not_eq_false', decide_eq_true_eq] at hb
    obtain ⟨hb1, hb2⟩ := hb
    rw [if_neg (fun z => z.elim hb1 fun z => z hb2)] at q
    have e12 := e1.trans e2
    have hrow2 := e2 _ _ hrow1
    have hlast : atI (r.map V.int) (-1) = some (.int (r.getD (2 ^ s.left.length - 1) 0)) := by
      have hix : ixN (r.map V.int).length (-1) = some (r.length - 1) := by
        unfold ixN
        rw [List.length_map, if_neg (by decide), if_pos (by omega)]
        congr 1
        omega
      unfold atI
      rw [hix, Option.bind_some, zs_at (by omega), hb2]
    refine q_when (b := decide (0 < r.getD (2 ^ s.left.length - 1) 0)) (et_test (ev_gtI (ev_op (ev_var rfl) (ev_neg ev_c) (rv_ixL (sq_of hrow2) hlast)) ev_c)) (fun hb H3 e3 => ?_) (fun hb H3 e3 => ?_)
    · rw [if_pos (of_decide_eq_true hb)] at q
      exact s_no q (e12.trans e3)
    · rw [if_neg (of_decide_eq_false hb)] at q
      have e13 := e12.trans e3
      have hO3 := hO.mono e13
      have h13 := (e2.trans e3) _ _ h1
      have hrow3 := e3 _ _ hrow2
      refine q_asgL (el_call (ea_cons (ev_var rfl) (ea_cons (ev_var rfl) (ea_cons (ev_var rfl) ea_nil))) (v_first_fault hO3 ok (sq_of h13) (sq_of hrow3) hb2)) fun f H4 hf e4 h4 => ?_
      have e14 := e13.trans e4
      cases hfa : s.fault s.left r with
      | none =>
        rw [hfa] at q h4
        refine q_when (b := false) (et_test (ev_is (ev_gt (ev_lenL (ev_var rfl) (sq_of h4)) (ev_nat 0 rfl)) rfl)) (fun hb => by cases hb) (fun _ H5 e5 => ?_)
        exact s_retL (el_lst (ea_cons (ev_nat 0 rfl) (ea_cons (ev_ix (j := 0) (ev_var rfl) (sq_of ((e4.trans e5) _ _ hrow3)) (ev_nat 0 rfl) (zs_at (by omega))) ea_nil)) (by decide : 2 ≤ 100000)) (RetL.mono (e14.trans e5) q)
      | some x =>
        rw [hfa] at q h4
        refine q_when (b := true) (et_test (ev_is (ev_gt (ev_lenL (ev_var rfl) (sq_of h4)) (ev_nat 0 rfl)) rfl)) (fun _ H5 e5 => ?_) (fun hb => by cases hb)
        exact s_retL (el_catR (ys := [nv x.1, nv x.2]) (el_lst (ea_cons (ev_nat 1 rfl) ea_nil) (by decide : 1 ≤ 100000)) (ev_var rfl) (e5 _ _ h4) (by decide : 1 + 2 ≤ 100000)) (RetL.mono (e14.trans e5) q)
theorem p_due (T : Top K mg) (vs : List V) (H : Hp) (Q : VK) (E : XK) (h : sp_due K vs H Q E) : t_due K { nx := fun _ H' => Q .non H', rt := Q } (start ["office", "numbers", "row", "place", "day"] vs) H := by
  obtain ⟨A, s, nl, rl, c, ⟨p, d, rfl⟩, hr, rfl, hO, ok, hn, hrw, k⟩ := h
  have q := dret_ask hO k trivial
  rw [show asks s (.due p d) = if s.n ≤ p then no (-3) else tells (pairs (s.due p d)) from rfl] at q
  refine q_unl (is := [3, 4]) (ws := [nv p, nv d]) (ev_var rfl) (sq_of hn) rfl fun H1 e1 => ?_
  refine q_when (b := !decide (p < s.n)) (et_not (et_val (ev_has (hO.mono e1) (ev_var rfl) (ev_var rfl)))) (fun hb H2 e2 => ?_) (fun hb H2 e2 => ?_)
  · rw [if_pos (by simpa using hb)] at q
    exact s_no q (e1.trans e2)
  · have hp : p < s.n := by simpa using hb
    rw [if_neg (by omega), ans_tells, ints_nvs] at q
    have e12 := e1.trans e2
    have hdl : (s.due p d).length ≤ 10 := by
      rw [due_eq, List.length_map]
      exact Nat.le_trans (List.length_filter_le _ _) (strikesL_len ok p)
    exact s_retL (el_zero (el_row (ets_call (ea_cons (ev_var rfl) (ea_cons (ev_var rfl) (ea_cons (ev_var rfl) ea_nil))) (v_due_for (hO.mono e12) ok hp)) (by omega)) (by rw [flatMap_len]; omega)) (RetL.mono e12 q)
theorem p_save (T : Top K mg) (vs : List V) (H : Hp) (Q : VK) (E : XK) (h : sp_save K vs H Q E) : t_save K { nx := fun _ H' => Q .non H', rt := Q } (start ["office", "numbers", "row", "place", "day", "order"] vs) H := by
  obtain ⟨A, s, nl, rl, c, ⟨p, d, rfl⟩, hr, rfl, hO, ok, hn, hrw, k⟩ := h
  have q := dret_ask hO k trivial
  rw [show asks s (.save p d) = if s.n ≤ p then no (-3) else match s.save p d with
    | none => no (-4)
    | some x => tells x from rfl] at q
  refine q_unl (is := [3, 4]) (ws := [nv p, nv d]) (ev_var rfl) (sq_of hn) rfl fun H1 e1 => ?_
  refine q_when (b := !decide (p < s.n)) (et_not (et_val (ev_has (hO.mono e1) (ev_var rfl) (ev_var rfl)))) (fun hb H2 e2 => ?_) (fun hb H2 e2 => ?_)
  · rw [if_pos (by simpa using hb)] at q
    exact s_no q (e1.trans e2)
  · have hp : p < s.n := by simpa using hb
    rw [if_neg (by omega)] at q
    have e12 := e1.trans e2
    have hsl : ∀ x, s.save p d = some x → x.length ≤ 10 := by
      intro x hx
      rw [save_eq ok] at hx
      unfold saveL at hx
      split at hx
      · obtain ⟨w, hw, rfl⟩ := Option.map_eq_some_iff.mp hx
        obtain ⟨⟨m', g1, _⟩, g2, _⟩ := goS_ok (fun m hm => wantS_ok s (s.due p d) m hm) (goodS_stp s (s.due p d)) w (Nat.two_pow_pos _) hw
        have := Go.free (goodS_stp s (s.due p d)) g1
        rw [free_zero] at this
        have := left_len ok
        rw [List.length_map]
        omega
      · cases hx
    refine q_asgG (P := isOrd (s.save p d)) (ep_callG (P := fun vs _ => vs = [.ref A.o, nv p, nv d]) (eap_of (ea_cons (ev_var rfl) (ea_cons (ev_var rfl) (ea_cons (ev_var rfl) ea_nil)))) fun vs H3 e3 hvs Q q => ?_) fun v H3 e3 hv => ?_
    · subst hvs
      exact v_saving_order (hO.mono e12) ok hp H3 e3 Q q _
    · have e13 := e12.trans e3
      revert q hv hsl
      generalize s.save p d = x
      intro q hsl hv
      cases x with
      | none =>
        obtain rfl : v = .non := hv
        exact q_when (b := true) (et_test (ev_is (ev_isN (ev_var rfl)) (congrArg V.bl (decide_eq_true rfl)))) (fun _ H4 e4 => s_no q (e13.trans e4)) (fun hb => by cases hb)
      | some x =>
        obtain ⟨r, rfl, h1⟩ := hv
        have hxl := hsl x rfl
        have q' : RetL (nvs (0 :: x)) H Q := by
          have q : RetL ((ansOf (tells x)).map V.int) H Q := q
          rw [ans_tells, ints_nvs] at q
          exact q
        refine q_when (b := false) (et_test (ev_is (ev_isN (ev_var rfl)) (congrArg V.bl (decide_eq_false (fun z => (nomatch z)))))) (fun hb => by cases hb) (fun _ H4 e4 => ?_)
        exact s_retL (el_catR (ys := nvs x) (el_lst (ea_cons (ev_nat 0 rfl) ea_nil) (by decide : 1 ≤ 100000)) (ev_var rfl) (e4 _ _ h1) (by rw [nvs_len]; show 1 + _ ≤ 100000; omega)) (RetL.mono (e13.trans e4) q')
theorem p_struck (T : Top K mg) (vs : List V) (H : Hp) (Q : VK) (E : XK) (h : sp_struck K vs H Q E) : t_struck K { nx := fun _ H' => Q .non H', rt := Q } (start ["office", "numbers", "row"] vs) H := by
  obtain ⟨A, s, nl, rl, c, ⟨d, rfl⟩, hr, rfl, hO, ok, hn, hrw, k⟩ := h
  have q := dret_ask hO k trivial
  rw [show asks s (.struck d) = tells (pairs (s.struck d)) from rfl, ans_tells, ints_nvs] at q
  have hsl : (s.struck d).length ≤ 16 := by
    rw [struck_eq, List.length_map]
    have := List.length_filter_le (fun p => decide (0 < (daysL s p d).length)) (List.range s.n)
    rw [List.length_range] at this
    have := ok.n16
    omega
  exact s_retL (el_zero (el_row (ets_call (ea_cons (ev_var rfl) (ea_cons (ev_ix (j := 0) (ev_var rfl) (sq_of hn) (ev_nat 0 rfl) (show _ = some (nv d) from rfl)) ea_nil)) (v_struck_up_to hO ok)) (by omega)) (by rw [flatMap_len]; omega)) q
theorem p_whatif (T : Top K mg) (vs : List V) (H : Hp) (Q : VK) (E : XK) (h : sp_whatif K vs H Q E) : t_whatif K { nx := fun _ H' => Q .non H', rt := Q } (start ["office", "numbers", "row"] vs) H := by
  obtain ⟨A, s, nl, rl, c, ⟨h', rfl⟩, hr, rfl, hO, ok, hn, hrw, k⟩ := h
  have q := dret_ask hO k trivial
  rw [show asks s (.whatif h') = tells [(wh s h').best.1] from rfl, ans_tells, ints_nvs] at q
  have hh : 1 ≤ h' ∧ h' ≤ 24 := within_iff.mp hr
  have okw := ok.wh hh.1 hh.2
  have hb := best_1 okw
  rw [left_wh] at hb
  have hll := losses_len (wh s h') s.left
  have hpos : 0 < 2 ^ s.left.length := Nat.two_pow_pos _
  refine s_retL (el_lst (ea_cons (ev_nat 0 rfl) (ea_cons (ev_opL1 (xs := nvs (losses (wh s h') s.left)) (y := nv 0) (z := nv (wh s h').best.1) (el_callG (P := fun vs H2 => ∃ l, vs = [.ref A.o, nv h', .ref l] ∧ H2 l = some (.lst (nvs s.left))) (eap_cons (ep_ev (ev_var rfl)) fun v1 H1 e1 hv1 => eap_cons (ep_ev (ev_ix (j := 0) (ev_var rfl) (sq_of (e1 _ _ hn)) (ev_nat 0 rfl) (show _ = some (nv h') from rfl))) fun v2 H2 e2 hv2 => eap_cons (ep_l (el_left T (hO.mono (e1.trans e2)) ok (ev_var rfl))) fun v3 H3 e3 hv3 => eap_nil fun H4 e4 => ?_) fun vs H1 e1 hvs => ?_) (fun H1 e1 => ev_nat 0 rfl) fun r H1 hr1 e1 => ?_) ea_nil)) (by decide : 2 ≤ 100000)) q
  · obtain ⟨l, rfl, h1⟩ := hv3
    subst hv1 hv2
    exact ⟨l, rfl, e4 _ _ h1⟩
  · obtain ⟨l, rfl, h1⟩ := hvs
    exact v_least_losses (hO.mono e1) ok hh.1 hh.2 (sq_of h1)
  · refine rv_ixL (sq_of hr1) (atI_nat (j := 0) ?_)
    rw [nvs_at (get_of_lt (by rw [hll]; exact hpos)), hb]
end
end Sc
end

section
set_option Elab.async false
set_option linter.all false
set_option maxRecDepth 100000
set_option maxHeartbeats 4000000
namespace Sc
open PySem PySem.Spec PyProof.Rows L2 Evl
open TimStorm (Office Way Wood Table Beetle)
open WrtistSpec (Call does asks right tells no)
theorem Keep.trans {A : OA} {H H1 H2 : Hp} (a : Keep A H H1) (b : Keep A H1 H2) : Keep A H H2 := fun x o h h1 h2 h3 h4 h5 h6 => b x o (a x o h h1 h2 h3 h4 h5 h6) h1 h2 h3 h4 h5 h6
theorem Keep.ex {A : OA} {H H1 H2 : Hp} (a : Keep A H H1) (b : Ex H1 H2) : Keep A H H2 := a.trans (Ex.keep b)
theorem putF_new {f : Str} {v : V} : ∀ {fs : List (Str × V)} {ns : List Str}, fs.map (·.1) = ns → ns.all (fun g => !(g == f)) = true → putF f v fs = fs ++ [(f, v)]
  | [], _, _, _ => rfl
  | (g, x) :: r, _, rfl, h => by
    rw [List.map_cons, List.all_cons, Bool.and_eq_true] at h
    show (if g = f then (g, v) :: r else (g, x) :: putF f v r) = _
    rw [if_neg, putF_new rfl h.2]
    · rfl
    · intro z
      rw [z] at h
      simp at h
section
variable {K : PySem.W.Frag} {mg : Str → Option Value} {σ : L2.St} {H H' : Hp} {A : OA} {s s' : Office} {c : Call} {ta tb tc te tl td ty tv : TE} {t u : TT} {g : TG} {vs : List Nat} {a p r : Addr} {xs ws : List V} {D : Ends} {tu tz : TS} {v x y : V} {old new : HO} {Q : VK}
/-! ### what a store elsewhere leaves -/
theorem WayAt.put {w : Way} (hr : H r = some old) (hn : ∀ C dx fs, old ≠ .ins C dx fs) (h : WayAt K H p w) : WayAt K (upd H r new) p w := by
  obtain ⟨dx, h⟩ := h
  exact ⟨dx, by rw [upd_ne (ne_of h hr (fun z => hn _ _ _ z.symm))]; exact h⟩
theorem WoodAt.put {w : Wood} (hr : H r = some old) (hn : ∀ C dx fs, old ≠ .ins C dx fs) (h : WoodAt K H p w) : WoodAt K (upd H r new) p w := by
  obtain ⟨dx, h⟩ := h
  exact ⟨dx, by rw [upd_ne (ne_of h hr (fun z => hn _ _ _ z.symm))]; exact h⟩
theorem tab_put {o : Option Table} {v : Option V} (hr : H r = some old) (hn : ∀ l, old ≠ .tup l) (h : TabAt H v o) : TabAt (upd H r new) v o := by
  cases o with
  | none => exact h
  | some t =>
    obtain ⟨p, q, h1, h2, h3⟩ := h
    exact ⟨p, q, h1, by rw [upd_ne (ne_of h2 hr (fun z => hn _ z.symm))]; exact h2, by rw [upd_ne (ne_of h3 hr (fun z => hn _ z.symm))]; exact h3⟩
theorem bee_put {o : Option Beetle} {v : Option V} (hr : H r = some old) (hn : ∀ l, old ≠ .tup l) (h : BeeAt H v o) : BeeAt (upd H r new) v o := by
  cases o with
  | none => exact h
  | some t =>
    obtain ⟨p, h1, h2⟩ := h
    exact ⟨p, h1, by rw [upd_ne (ne_of h2 hr (fun z => hn _ z.symm))]; exact h2⟩
theorem off_ways {ps : List Addr} {q : Addr} {w : Way} (d : OffD A) (hO : OffAt K H A s) (h1 : H A.ways = some (.lst (ps.map V.ref))) (h2 : Paired (WayAt K H) ps s.ways) (hw : WayAt K H q w) :
    OffAt K (upd H A.ways (.lst (ps.map V.ref ++ [.ref q]))) A { s with ways := s.ways ++ [w] } := by
  obtain ⟨⟨dx, o1⟩, _, ⟨qs, o2, o3⟩, ⟨k1, o4, o5, o6⟩, ⟨k2, o7, o8, o9⟩, o10⟩ := hO
  have ni : ∀ C dx fs, HO.lst (ps.map V.ref) ≠ .ins C dx fs := fun _ _ _ z => (nomatch z)
  have nt : ∀ l, HO.lst (ps.map V.ref) ≠ .tup l := fun _ z => (nomatch z)
  refine ⟨⟨dx, by rw [upd_ne (ne_of o1 h1 (fun z => (nomatch z)))]; exact o1⟩, ⟨ps ++ [q], by rw [upd_same, List.map_append]; rfl, Paired.snoc (paired_mono (fun _ _ z => z.put h1 ni) h2) (hw.put h1 ni)⟩, ⟨qs, by rw [upd_ne (Ne.symm d.wo)]; exact o2, paired_mono (fun _ _ z => z.put h1 ni) o3⟩,
    ⟨k1, by rw [upd_ne (ne_of o4 h1 (fun z => (nomatch z)))]; exact o4, o5, fun k => tab_put h1 nt (o6 k)⟩, ⟨k2, by rw [upd_ne (ne_of o7 h1 (fun z => (nomatch z)))]; exact o7, o8, fun k => bee_put h1 nt (o9 k)⟩, by rw [upd_ne (Ne.symm d.wd)]; exact o10⟩
theorem off_woods {ps : List Addr} {q : Addr} {w : Wood} (d : OffD A) (hO : OffAt K H A s) (h1 : H A.woods = some (.lst (ps.map V.ref))) (h2 : Paired (WoodAt K H) ps s.woods) (hw : WoodAt K H q w) :
    OffAt K (upd H A.woods (.lst (ps.map V.ref ++ [.ref q]))) A { s with woods := s.woods ++ [w] } := by
  obtain ⟨⟨dx, o1⟩, ⟨qs, o2, o3⟩, _, ⟨k1, o4, o5, o6⟩, ⟨k2, o7, o8, o9⟩, o10⟩ := hO
  have ni : ∀ C dx fs, HO.lst (ps.map V.ref) ≠ .ins C dx fs := fun _ _ _ z => (nomatch z)
  have nt : ∀ l, HO.lst (ps.map V.ref) ≠ .tup l := fun _ z => (nomatch z)
  refine ⟨⟨dx, by rw [upd_ne (ne_of o1 h1 (fun z => (nomatch z)))]; exact o1⟩, ⟨qs, by rw [upd_ne d.wo]; exact o2, paired_mono (fun _ _ z => z.put h1 ni) o3⟩, ⟨ps ++ [q], by rw [upd_same, List.map_append]; rfl, Paired.snoc (paired_mono (fun _ _ z => z.put h1 ni) h2) (hw.put h1 ni)⟩,
    ⟨k1, by rw [upd_ne (ne_of o4 h1 (fun z => (nomatch z)))]; exact o4, o5, fun k => tab_put h1 nt (o6 k)⟩, ⟨k2, by rw [upd_ne (ne_of o7 h1 (fun z => (nomatch z)))]; exact o7, o8, fun k => bee_put h1 nt (o9 k)⟩, by rw [upd_ne (Ne.symm d.od)]; exact o10⟩
theorem off_done {l : List Nat} (d : OffD A) (hO : OffAt K H A s) : OffAt K (upd H A.done (.lst (nvs l.reverse))) A { s with done := l } := by
  obtain ⟨⟨dx, o1⟩, ⟨ps, o2, o3⟩, ⟨qs, o2', o3'⟩, ⟨k1, o4, o5, o6⟩, ⟨k2, o7, o8, o9⟩, o10⟩ := hO
  have ni : ∀ C dx fs, HO.lst (nvs s.done.reverse) ≠ .ins C dx fs := fun _ _ _ z => (nomatch z)
  have nt : ∀ l, HO.lst (nvs s.done.reverse) ≠ .tup l := fun _ z => (nomatch z)
  refine ⟨⟨dx, by rw [upd_ne (ne_of o1 o10 (fun z => (nomatch z)))]; exact o1⟩, ⟨ps, by rw [upd_ne d.wd]; exact o2, paired_mono (fun _ _ z => z.put o10 ni) o3⟩, ⟨qs, by rw [upd_ne d.od]; exact o2', paired_mono (fun _ _ z => z.put o10 ni) o3'⟩,
    ⟨k1, by rw [upd_ne (ne_of o4 o10 (fun z => (nomatch z)))]; exact o4, o5, fun k => tab_put o10 nt (o6 k)⟩, ⟨k2, by rw [upd_ne (ne_of o7 o10 (fun z => (nomatch z)))]; exact o7, o8, fun k => bee_put o10 nt (o9 k)⟩, upd_same⟩
theorem keys_put {kvs : List (Key × V)} {k : Nat} (h : Keys16 kvs) (hk : k < 16) : Keys16 (putK kvs (.inl (k : Int)) v) := by
  unfold putK
  split
  · refine ⟨?_, fun z hz => ?_⟩
    · rw [List.map_map]
      have : ((fun x : Key × V => x.1) ∘ fun kv => if kv.1 = .inl (k : Int) then (kv.1, v) else kv) = fun x => x.1 := by
        funext z
        show (if z.1 = .inl (k : Int) then (z.1, v) else z).1 = z.1
        split <;> rfl
      rw [this]
      exact h.1
    · obtain ⟨y, hy, rfl⟩ := List.mem_map.mp hz
      have := h.2 y hy
      split <;> exact this
  · rename_i hn
    refine ⟨?_, fun z hz => ?_⟩
    · rw [List.map_append, List.nodup_append]
      refine ⟨h.1, by simp, fun x hx y hy => ?_⟩
      obtain ⟨z, hz, rfl⟩ := List.mem_map.mp hx
      have : y = .inl (k : Int) := by simpa using hy
      rw [this]
      intro e
      exact hn (List.any_eq_true.mpr ⟨z, hz, decide_eq_true e⟩)
    · rcases List.mem_append.mp hz with hz | hz
      · exact h.2 z hz
      · rw [List.mem_singleton.mp hz]
        exact ⟨k, hk, rfl⟩
theorem keys_len {kvs : List (Key × V)} (h : Keys16 kvs) : kvs.length ≤ 16 := by
  have : (kvs.map (·.1)).length ≤ ((List.range 16).map fun k : Nat => (Sum.inl (k : Int) : Key)).length := sub_len _ _ h.1 fun x hx => by
    obtain ⟨y, hy, rfl⟩ := List.mem_map.mp hx
    obtain ⟨k, hk, e⟩ := h.2 y hy
    exact List.mem_map.mpr ⟨k, List.mem_range.mpr hk, e.symm⟩
  rw [List.length_map, List.length_map, List.length_range] at this
  exact this
theorem off_tables {kvs : List (Key × V)} {q o : Addr} {k t : Nat} {l : List Nat} (d : OffD A) (hO : OffAt K H A s) (hk : k < 16) (h1 : H A.tables = some (.dK kvs)) (h2 : Keys16 kvs) (h3 : ∀ k : Nat, TabAt H (valV kvs (.inl (k : Int))) (s.tableOf k)) (hq : H q = some (.tup [nv t, .ref o])) (ho : H o = some (.tup (nvs l))) :
    OffAt K (upd H A.tables (.dK (putK kvs (.inl (k : Int)) (.ref q)))) A { s with tables := ⟨k, t, l⟩ :: s.tables.filter fun (x : Table) => x.kind != k } := by
  obtain ⟨⟨dx, o1⟩, ⟨ps, o2, o3⟩, ⟨qs, o2', o3'⟩, _, ⟨k2, o7, o8, o9⟩, o10⟩ := hO
  have ni : ∀ C dx fs, HO.dK kvs ≠ .ins C dx fs := fun _ _ _ z => (nomatch z)
  have nt : ∀ l, HO.dK kvs ≠ .tup l := fun _ z => (nomatch z)
  refine ⟨⟨dx, by rw [upd_ne (ne_of o1 h1 (fun z => (nomatch z)))]; exact o1⟩, ⟨ps, by rw [upd_ne (ne_of o2 h1 (fun z => (nomatch z)))]; exact o2, paired_mono (fun _ _ z => z.put h1 ni) o3⟩, ⟨qs, by rw [upd_ne (ne_of o2' h1 (fun z => (nomatch z)))]; exact o2', paired_mono (fun _ _ z => z.put h1 ni) o3'⟩,
    ⟨_, upd_same, keys_put h2 hk, fun j => ?_⟩, ⟨k2, by rw [upd_ne (Ne.symm d.tb)]; exact o7, o8, fun k => bee_put h1 nt (o9 k)⟩, by rw [upd_ne (ne_of o10 h1 (fun z => (nomatch z)))]; exact o10⟩
  rw [valV_put, tableOf_put]
  by_cases c : j = k
  · subst c
    rw [if_pos rfl, if_pos rfl]
    exact ⟨q, o, rfl, by rw [upd_ne (ne_of hq h1 (fun z => (nomatch z)))]; exact hq, by rw [upd_ne (ne_of ho h1 (fun z => (nomatch z)))]; exact ho⟩
  · rw [if_neg (fun z => c (by have := Sum.inl.inj z; omega)), if_neg c]
    exact tab_put h1 nt (h3 j)
theorem off_beetles {kvs : List (Key × V)} {q : Addr} {k b g : Nat} (d : OffD A) (hO : OffAt K H A s) (hk : k < 16) (h1 : H A.beetles = some (.dK kvs)) (h2 : Keys16 kvs) (h3 : ∀ k : Nat, BeeAt H (valV kvs (.inl (k : Int))) (s.beetles.find? fun b => b.kind == k)) (hq : H q = some (.tup [nv b, nv g])) :
    OffAt K (upd H A.beetles (.dK (putK kvs (.inl (k : Int)) (.ref q)))) A { s with beetles := ⟨k, b, g⟩ :: s.beetles.filter fun (x : Beetle) => x.kind != k } := by
  obtain ⟨⟨dx, o1⟩, ⟨ps, o2, o3⟩, ⟨qs, o2', o3'⟩, ⟨k1, o4, o5, o6⟩, _, o10⟩ := hO
  have ni : ∀ C dx fs, HO.dK kvs ≠ .ins C dx fs := fun _ _ _ z => (nomatch z)
  have nt : ∀ l, HO.dK kvs ≠ .tup l := fun _ z => (nomatch z)
  refine ⟨⟨dx, by rw [upd_ne (ne_of o1 h1 (fun z => (nomatch z)))]; exact o1⟩, ⟨ps, by rw [upd_ne (ne_of o2 h1 (fun z => (nomatch z)))]; exact o2, paired_mono (fun _ _ z => z.put h1 ni) o3⟩, ⟨qs, by rw [upd_ne (ne_of o2' h1 (fun z => (nomatch z)))]; exact o2', paired_mono (fun _ _ z => z.put h1 ni) o3'⟩,
    ⟨k1, by rw [upd_ne d.tb]; exact o4, o5, fun k => tab_put h1 nt (o6 k)⟩, ⟨_, upd_same, keys_put h2 hk, fun j => ?_⟩, by rw [upd_ne (ne_of o10 h1 (fun z => (nomatch z)))]; exact o10⟩
  rw [valV_put]
  show BeeAt _ _ ((⟨k, b, g⟩ :: s.beetles.filter fun (x : Beetle) => x.kind != k).find? fun b => b.kind == j)
  rw [beetle_put]
  by_cases c : j = k
  · subst c
    rw [if_pos rfl, if_pos rfl]
    exact ⟨q, rfl, by rw [upd_ne (ne_of hq h1 (fun z => (nomatch z)))]; exact hq⟩
  · rw [if_neg (fun z => c (by have := Sum.inl.inj z; omega)), if_neg c]
    exact bee_put h1 nt (h3 j)
/-! ### ends of a call -/
theorem d_no {z : Int} (k : DRet K A s c H Q) (hO : OffAt K H A s) (e : does s c = (s, no z)) : RetL [.int z] H Q := fun p H2 hp ex h => k.2 p H2 hp (Ex.keep ex) (by rw [e]; exact hO.mono ex) (by rw [e]; exact h)
theorem d_fin {l : List Nat} (k : DRet K A s c H Q) (e : does s c = (s', tells l)) (hk : Keep A H H') (hf : ∀ p, H' p = none → H p = none) (hO : OffAt K H' A s') : RetL (nvs (0 :: l)) H' Q := fun p H2 hp ex h => k.2 p H2 (hf p hp) (hk.ex ex) (by rw [e]; exact hO.mono ex) (by rw [e, ans_tells, ints_nvs]; exact h)
theorem keep_put (e : Ex H H') (hr : r = A.ways ∨ r = A.woods ∨ r = A.done ∨ r = A.tables ∨ r = A.beetles) : Keep A H (upd H' r new) := fun b o h h1 h2 h3 h4 h5 h6 => by
  rw [upd_ne]
  · exact e b o h
  · rintro rfl
    rcases hr with z | z | z | z | z
    · exact h2 z
    · exact h3 z
    · exact h6 z
    · exact h4 z
    · exact h5 z
theorem fresh_put (e : Ex H H') : ∀ p, upd H' r new p = none → H p = none := fun p hp => by
  by_cases c : p = r
  · subst c
    rw [upd_same] at hp
    cases hp
  · rw [upd_ne c] at hp
    exact fresh_back e hp
/-! ### stores -/
theorem s_fld {C dx : Addr} {fs : List (Str × V)} {f : Str} (cl : Cls K C) (na : NoAttr K C f) (hv : Ev tv σ H v) (ha : Ev ta σ H (.ref a)) (ho : H a = some (.ins C dx fs)) (hl : fs.length < 1000) (k : ∀ H1, Ex H H1 → D.nx σ (upd H1 a (.ins C dx (putF f v fs)))) : sFld K ta tv f D σ H :=
  hv H (Ex.refl H) _ fun H1 e1 => ha H1 e1 _ fun H2 e2 => ⟨a, C, dx, fs, rfl, (e1.trans e2) _ _ ho, cl, na, hl, k H2 (e1.trans e2)⟩
theorem s_fldL {C dx : Addr} {fs : List (Str × V)} {f : Str} (cl : Cls K C) (na : NoAttr K C f) (hv : EvL tv σ H xs) (ha : Ev ta σ H (.ref a)) (ho : H a = some (.ins C dx fs)) (hl : fs.length < 1000) (k : ∀ p H1, H p = none → Ex H H1 → H1 p = some (.lst xs) → D.nx σ (upd H1 a (.ins C dx (putF f (.ref p) fs)))) : sFld K ta tv f D σ H :=
  hv H (Ex.refl H) _ fun p H1 hp e1 h1 => ha H1 e1 _ fun H2 e2 => ⟨a, C, dx, fs, rfl, (e1.trans e2) _ _ ho, cl, na, hl, k p H2 hp (e1.trans e2) (e2 _ _ h1)⟩
theorem s_fldD {C dx : Addr} {fs : List (Str × V)} {f : Str} (cl : Cls K C) (na : NoAttr K C f) (ha : Ev ta σ H (.ref a)) (ho : H a = some (.ins C dx fs)) (hl : fs.length < 1000) (k : ∀ p H1, H p = none → Ex H H1 → H1 p = some (.dK []) → D.nx σ (upd H1 a (.ins C dx (putF f (.ref p) fs)))) : sFld K ta tDNewK f D σ H :=
  fun p hp => ha _ (Ex.new hp) _ fun H2 e2 => ⟨a, C, dx, fs, rfl, e2 _ _ (Ex.new hp _ _ ho), cl, na, hl, k p H2 hp ((Ex.new hp).trans e2) (e2 _ _ upd_same)⟩
theorem q_fld {C dx : Addr} {fs : List (Str × V)} {f : Str} (cl : Cls K C) (na : NoAttr K C f) (hv : Ev tv σ H v) (ha : Ev ta σ H (.ref a)) (ho : H a = some (.ins C dx fs)) (hl : fs.length < 1000) (k : ∀ H1, Ex H H1 → tz D σ (upd H1 a (.ins C dx (putF f v fs)))) : tSeq (sFld K ta tv f) tz D σ H := s_fld (D := { D with nx := tz D }) cl na hv ha ho hl k
theorem q_fldL {C dx : Addr} {fs : List (Str × V)} {f : Str} (cl : Cls K C) (na : NoAttr K C f) (hv : EvL tv σ H xs) (ha : Ev ta σ H (.ref a)) (ho : H a = some (.ins C dx fs)) (hl : fs.length < 1000) (k : ∀ p H1, H p = none → Ex H H1 → H1 p = some (.lst xs) → tz D σ (upd H1 a (.ins C dx (putF f (.ref p) fs)))) : tSeq (sFld K ta tv f) tz D σ H := s_fldL (D := { D with nx := tz D }) cl na hv ha ho hl k
theorem q_fldD {C dx : Addr} {fs : List (Str × V)} {f : Str} (cl : Cls K C) (na : NoAttr K C f) (ha : Ev ta σ H (.ref a)) (ho : H a = some (.ins C dx fs)) (hl : fs.length < 1000) (k : ∀ p H1, H p = none → Ex H H1 → H1 p = some (.dK []) → tz D σ (upd H1 a (.ins C dx (putF f (.ref p) fs)))) : tSeq (sFld K ta tDNewK f) tz D σ H := s_fldD (D := { D with nx := tz D }) cl na ha ho hl k
theorem eu_tuple (ha : Ev ta σ H (.ref p)) (hp : SqL K H p xs) : EvU (tCB (rTupleS K) (tCons ta tNil)) σ H xs := fun H1 e Q q => ha H1 e _ fun H2 e2 => ⟨p, xs, rfl, .inl ⟨ex_l (e.trans e2) hp, fun l hl => q l _ (fresh_back e2 hl) (e2.trans (Ex.new hl)) upd_same⟩⟩
theorem q_dput {P : HP} {kvs : List (Key × V)} {k : Nat} (hv : EvP tv σ H P) (hd : Ev td σ H (.ref a)) (hk : Ev ty σ H (nv k)) (ha : H a = some (.dK kvs)) (hl : kvs.length ≤ 16) (cont : ∀ v H1 H2, Ex H H1 → Ex H1 H2 → P v H1 → tz D σ (upd H2 a (.dK (putK kvs (.inl (k : Int)) v)))) : tSeq (sDPut td ty tv) tz D σ H :=
  hv H (Ex.refl H) _ fun v H1 e1 hv => hd H1 e1 _ fun H2 e2 => hk H2 (e1.trans e2) _ fun H3 e3 => ⟨a, _, rfl, DPut.k (k := .inl (k : Int)) (((e1.trans e2).trans e3) _ _ ha) (Nat.lt_of_le_of_lt hl (by decide)), cont v H1 H3 e1 (e2.trans e3) hv⟩
theorem q_fldM {C : Addr} {sp : Sp} {dvs : List V} {E : XK} {tr : TA} {f : Str} (h : tMake C sp dvs E tr σ H (fun y H1 => ta σ H1 fun x H2 => ∃ a C dx fs, x = .ref a ∧ H2 a = some (.ins C dx fs) ∧ Cls K C ∧ NoAttr K C f ∧ fs.length < 1000 ∧ tz D σ (upd H2 a (.ins C dx (putF f y fs))))) : tSeq (sFld K ta (tMake C sp dvs E tr) f) tz D σ H := h
theorem mk_intro {C : Addr} {sp : Sp} {dvs us : List V} {E : XK} {tr : TA} (ha : EvA tr σ H us) (k : ∀ H1, Ex H H1 → ∀ x dx, H1 x = none → H1 dx = none → dx ≠ x → sp (.ref x :: (us ++ dvs)) (upd (upd H1 dx (.own x)) x (.ins C dx [])) (fun v H2 => v = .non ∧ Q (.ref x) H2) E) : tMake C sp dvs E tr σ H Q := ha H (Ex.refl H) _ k
theorem s_retPop {l : Addr} {y : V} (ha : Ev ta σ H (.ref l)) (hl : H l = some (.lst (xs ++ [y]))) (k : ∀ H1, Ex H H1 → ∀ p, upd H1 l (.lst xs) p = none → D.rt (.ref p) (upd (upd H1 l (.lst xs)) p (.lst [.int 0, y]))) : tRet (tLst (tCons (tC (.int 0)) (tCons (tBM0 K "list" rPop ta) tNil))) D σ H :=
  ha H (Ex.refl H) _ fun H1 e1 => ⟨Or.inl ⟨rfl, _, sq_of (e1 _ _ hl)⟩, l, _, y, rfl, rfl, e1 _ _ hl, by rw [List.length_append]; simp, by
    rw [List.dropLast_concat]
    exact ⟨(by show 2 ≤ sizeLine; decide), fun p hp => k H1 e1 p hp⟩⟩
/-! ### row != sorted(row) -/
theorem shaped_nums (l : List Nat) : SeqAt.shaped (.list (l.map numD)) = true := by
  have h1 : ∀ l : List Nat, PyData.canLay0 (.list (l.map numD)) = true := by
    intro l
    induction l with
    | nil => rfl
    | cons a l ih =>
      simp only [List.map_cons, PyData.canLay0, PyData.canLayAll0] at ih ⊢
      simp_all [numD, PyData.canLay0]
  have h2 := depth_trip 0 0 l
  unfold SeqAt.shaped
  rw [h1, Bool.true_and, decide_eq_true_eq]
  unfold tripD at h2
  simp only [PyData.depth, PyData.depthAll] at h2 ⊢
  omega
theorem ev_neSorted {l : List Nat} (ha : Ev ta σ H (.ref p)) (hp : H p = some (.lst (nvs l))) (hz : l.length < 64) : Ev (tOp (rNeD K) ta (tCB (rSorted K) (tCons ta tNil))) σ H (.bl (!WrtistSpec.rising l)) := fun H1 e Q q =>
  ha H1 e _ fun H2 e2 => ha H2 (e.trans e2) _ fun H3 e3 => by
    have e13 := (e.trans e2).trans e3
    have hp3 := e13 _ _ hp
    refine ⟨p, intsN l, rfl, sq_of (by rw [ints_nvs]; exact hp3), by unfold intsN; rw [List.length_map]; exact hz, fun ns r hperm hpw hr => ?_⟩
    have hex : ∃ m : List Nat, ns = intsN m := by
      refine ⟨ns.map Int.toNat, ?_⟩
      unfold intsN
      rw [List.map_map]
      refine (List.map_id ns).symm.trans (List.map_congr_left fun z hz => ?_)
      have hz := hperm.mem_iff.mp hz
      unfold intsN at hz
      obtain ⟨n, _, rfl⟩ := List.mem_map.mp hz
      rfl
    obtain ⟨m, rfl⟩ := hex
    rw [ints_nvs]
    have er : Ex H3 (upd H3 r (.lst (nvs m))) := Ex.new hr
    refine ⟨.list (l.map numD), .list (m.map numD), .lst (sq_of (er _ _ hp3)) (dpAll_nums l), .lst (sq_of upd_same) (dpAll_nums m), shaped_nums l, shaped_nums m, ?_⟩
    rw [eqv_list]
    have : decide (l = m) = WrtistSpec.rising l := by
      rw [Bool.eq_iff_iff, decide_eq_true_eq, rising_iff]
      constructor
      · rintro rfl
        exact intsN_pairwise.mp hpw
      · intro h
        exact (intsN_inj (perm_sorted hperm hpw (intsN_pairwise.mpr h))).symm
    rw [this]
    exact q _ ((e2.trans e3).trans er)
end
end Sc
end

section
set_option Elab.async false
set_option linter.all false
set_option maxRecDepth 100000
set_option maxHeartbeats 4000000
namespace Sc
open PySem PySem.Spec PyProof.Rows L2 Evl
open TimStorm (Office Way Wood Table Beetle)
open WrtistSpec (Call does asks right tells no)
/-- all but x stays -/
def But (x : Addr) (H H' : Hp) : Prop := ∀ b o, b ≠ x → H b = some o → H' b = some o
theorem But.ex {x : Addr} {H H1 H2 : Hp} (a : But x H H1) (e : Ex H1 H2) : But x H H2 := fun b o hb h => e b o (a b o hb h)
theorem But.put {x : Addr} {o : HO} {H H1 : Hp} (a : But x H H1) : But x H (upd H1 x o) := fun b u hb h => by rw [upd_ne hb]; exact a b u hb h
theorem But.of {x : Addr} {H H1 : Hp} (e : Ex H H1) : But x H H1 := fun b o _ h => e b o h
theorem But.fresh {x p : Addr} {H H1 : Hp} (a : But x H H1) (hx : p ≠ x) (h : H1 p = none) : H p = none := by
  cases e : H p with
  | none => rfl
  | some o => rw [a p o hx e] at h; cases h
def sp_Way__init__ (K : PySem.W.Frag) : Sp := fun vs H Q _ => ∃ (x dx : Addr) (w : Way), vs = [.ref x, nv w.a, nv w.b, nv w.minutes, nv w.work] ∧ H x = some (.ins (CW K) dx []) ∧ ∀ H2, H2 x = some (.ins (CW K) dx (wayF w)) → But x H H2 → Q .non H2
def sp_Wood__init__ (K : PySem.W.Frag) : Sp := fun vs H Q _ => ∃ (x dx : Addr) (w : Wood), vs = [.ref x, nv w.place, nv w.kind, nv w.cents, nv w.work, nv w.day] ∧ H x = some (.ins (CD K) dx []) ∧ ∀ H2, H2 x = some (.ins (CD K) dx (woodF w)) → But x H H2 → Q .non H2
def newO (n h d : Nat) : Office := ⟨n, h, d, [], [], [], [], []⟩
/-- an office is new -/
structure NewA (A : OA) (H : Hp) : Prop where
  w : H A.ways = none
  o : H A.woods = none
  t : H A.tables = none
  b : H A.beetles = none
  j : H A.done = none
def sp_Office__init__ (K : PySem.W.Frag) : Sp := fun vs H Q _ => ∃ (x dx : Addr) (n h d : Nat), vs = [.ref x, nv n, nv h, nv d] ∧ H x = some (.ins (CO K) dx []) ∧ ∀ A H2, A.o = x → NewA A H → OffD A → OffAt K H2 A (newO n h d) → But x H H2 → Q .non H2
def sp_Line__init__ (K : PySem.W.Frag) : Sp := fun vs H Q _ => ∃ (x dx : Addr), vs = [.ref x] ∧ H x = some (.ins (CL K) dx []) ∧ ∀ H2, H2 x = some (.ins (CL K) dx [("office", .non)]) → But x H H2 → Q .non H2
def sp_net (K : PySem.W.Frag) : Sp := fun vs H Q _ => ∃ (L nl dx : Addr) (v : V) (n h d : Nat), vs = [.ref L, .ref nl] ∧ H L = some (.ins (CL K) dx [("office", v)]) ∧ H nl = some (.lst (nvs [n, h, d])) ∧
  ∀ p A H2, H p = none → H A.o = none → NewA A H → OffD A → OffAt K H2 A (newO n h d) → H2 L = some (.ins (CL K) dx [("office", .ref A.o)]) → But L H H2 → H2 p = some (.lst [nv 0]) → Q (.ref p) H2
def sp_way (K : PySem.W.Frag) : Sp := sp_deed K fun c => ∃ a b m w, c = .way a b m w
def sp_wood (K : PySem.W.Frag) : Sp := sp_deed K fun c => ∃ p k z w d, c = .wood p k z w d
def sp_table (K : PySem.W.Frag) : Sp := sp_deed K fun c => ∃ k t r, c = .table k t r
def sp_beetle (K : PySem.W.Frag) : Sp := sp_deed K fun c => ∃ k d g, c = .beetle k d g
def sp_done (K : PySem.W.Frag) : Sp := sp_deed K fun c => ∃ j, c = .done j
def sp_undo (K : PySem.W.Frag) : Sp := sp_deed K fun c => c = .undo
theorem sc_Way__init__ : FnScope ["self", "a", "b", "minutes", "work"] ["self", "a", "b", "minutes", "work"] (defScope s_Way__init__) := C8.fnScope_by (by decide +kernel)
def t_Way__init__ (K : PySem.W.Frag) : TS :=
  (tSeq (sFld K (tVar 0) (tVar 1) "a")
    (tSeq (sFld K (tVar 0) (tVar 2) "b")
    (tSeq (sFld K (tVar 0) (tVar 3) "minutes")
    (sFld K (tVar 0) (tVar 4) "work"))))
theorem sc_Wood__init__ : FnScope ["self", "place", "kind", "cents", "work", "day"] ["self", "place", "kind", "cents", "work", "day"] (defScope s_Wood__init__) := C8.fnScope_by (by decide +kernel)
def t_Wood__init__ (K : PySem.W.Frag) : TS :=
  (tSeq (sFld K (tVar 0) (tVar 1) "place")
    (tSeq (sFld K (tVar 0) (tVar 2) "kind")
    (tSeq (sFld K (tVar 0) (tVar 3) "cents")
    (tSeq (sFld K (tVar 0) (tVar 4) "work")
    (sFld K (tVar 0) (tVar 5) "day")))))
theorem sc_Office__init__ : FnScope ["self", "places", "hours_a_day", "first_day"] ["self", "places", "hours_a_day", "first_day"] (defScope s_Office__init__) := C8.fnScope_by (by decide +kernel)
def t_Office__init__ (K : PySem.W.Frag) : TS :=
  (tSeq (sFld K (tVar 0) (tVar 1) "places")
    (tSeq (sFld K (tVar 0) (tVar 2) "hours_a_day")
    (tSeq (sFld K (tVar 0) (tVar 3) "first_day")
    (tSeq (sFld K (tVar 0) (tLst tNil) "ways")
    (tSeq (sFld K (tVar 0) (tLst tNil) "woods")
    (tSeq (sFld K (tVar 0) tDNewK "tables")
    (tSeq (sFld K (tVar 0) tDNewK "beetles")
    (sFld K (tVar 0) (tLst tNil) "jobs_done"))))))))
theorem sc_Line__init__ : FnScope ["self"] ["self"] (defScope s_Line__init__) := C8.fnScope_by (by decide +kernel)
def t_Line__init__ (K : PySem.W.Frag) : TS :=
  (sFld K (tVar 0) (tC .non) "office")
theorem sc_net : FnScope ["line", "numbers", "places", "hours_a_day", "first_day"] ["line", "numbers"] (defScope s_net) := C8.fnScope_by (by decide +kernel)
def t_net (K : PySem.W.Frag) : TS :=
  (tSeq (tAsg (tVar 1) (gUnl K 3 (gCons (gName 2) (gCons (gName 3) (gCons (gName 4) gNil)))))
    (tSeq (sFld K (tVar 0) (tMake (He.ga K "Office") (sp_Office__init__ K) [] C8.E0 (tCons (tVar 2) (tCons (tVar 3) (tCons (tVar 4) tNil)))) "office")
    (tRet (tLst (tCons (tC (.int 0)) tNil)))))
theorem sc_way : FnScope ["office", "numbers", "row", "a", "b", "minutes", "work"] ["office", "numbers", "row"] (defScope s_way) := C8.fnScope_by (by decide +kernel)
def t_way (K : PySem.W.Frag) : TS :=
  (tSeq (tAsg (tVar 1) (gUnl K 4 (gCons (gName 3) (gCons (gName 4) (gCons (gName 5) (gCons (gName 6) gNil))))))
    (tSeq (tIfS (tOr (tNot (tB (tMeth (He.ga K "Office") "has_place" (sp_Officehas_place K) [] C8.E0 (tVar 0) (tCons (tVar 3) tNil)))) (tNot (tB (tMeth (He.ga K "Office") "has_place" (sp_Officehas_place K) [] C8.E0 (tVar 0) (tCons (tVar 4) tNil))))) (tRet (tLst (tCons (tC (.int (-3))) tNil))) tNext)
    (tSeq (tIfS (tTest (tOp rEq (tVar 3) (tVar 4))) (tRet (tLst (tCons (tC (.int (-4))) tNil))) tNext)
    (tSeq (tIfS (tOr (tTest (tOp rEq (tCB (rLenS K) (tCons (tFld K (tVar 0) "ways") tNil)) (tC (.int (32))))) (tAnd (tTest (tOp rGtI (tVar 6) (tC (.int 0)))) (tTest (tOp rEq (tCB (rLenS K) (tCons (tCall (sp_all_jobs K) [] C8.E0 (tCons (tVar 0) tNil)) tNil)) (tC (.int (10))))))) (tRet (tLst (tCons (tC (.int (-9))) tNil))) tNext)
    (tSeq (tDrop (tBM K "list" rAppend (tFld K (tVar 0) "ways") (tCons (tMake (He.ga K "Way") (sp_Way__init__ K) [] C8.E0 (tCons (tVar 3) (tCons (tVar 4) (tCons (tVar 5) (tCons (tVar 6) tNil))))) tNil)))
    (tRet (tLst (tCons (tC (.int 0)) (tCons (tOp rSubI (tCB (rLenS K) (tCons (tFld K (tVar 0) "ways") tNil)) (tC (.int 1))) tNil)))))))))
theorem sc_wood : FnScope ["office", "numbers", "row", "place", "kind", "cents", "work", "day"] ["office", "numbers", "row"] (defScope s_wood) := C8.fnScope_by (by decide +kernel)
def t_wood (K : PySem.W.Frag) : TS :=
  (tSeq (tAsg (tVar 1) (gUnl K 5 (gCons (gName 3) (gCons (gName 4) (gCons (gName 5) (gCons (gName 6) (gCons (gName 7) gNil)))))))
    (tSeq (tIfS (tNot (tB (tMeth (He.ga K "Office") "has_place" (sp_Officehas_place K) [] C8.E0 (tVar 0) (tCons (tVar 3) tNil)))) (tRet (tLst (tCons (tC (.int (-3))) tNil))) tNext)
    (tSeq (tIfS (tTest (tOp rGtI (tVar 7) (tCall (sp_day_now K) [] C8.E0 (tCons (tVar 0) tNil)))) (tRet (tLst (tCons (tC (.int (-4))) tNil))) tNext)
    (tSeq (tIfS (tTest (tOp rEq (tCB (rLenS K) (tCons (tCall (sp_all_jobs K) [] C8.E0 (tCons (tVar 0) tNil)) tNil)) (tC (.int (10))))) (tRet (tLst (tCons (tC (.int (-9))) tNil))) tNext)
    (tSeq (tDrop (tBM K "list" rAppend (tFld K (tVar 0) "woods") (tCons (tMake (He.ga K "Wood") (sp_Wood__init__ K) [] C8.E0 (tCons (tVar 3) (tCons (tVar 4) (tCons (tVar 5) (tCons (tVar 6) (tCons (tVar 7) tNil)))))) tNil)))
    (tRet (tLst (tCons (tC (.int 0)) (tCons (tOp rSubI (tOp rAddI (tC (.int (32))) (tCB (rLenS K) (tCons (tFld K (tVar 0) "woods") tNil))) (tC (.int 1))) tNil)))))))))
theorem sc_table : FnScope ["office", "numbers", "row", "kind", "step"] ["office", "numbers", "row"] (defScope s_table) := C8.fnScope_by (by decide +kernel)
def t_table (K : PySem.W.Frag) : TS :=
  (tSeq (tAsg (tVar 1) (gUnl K 2 (gCons (gName 3) (gCons (gName 4) gNil))))
    (tSeq (tIfS (tTest (tOp (rNeD K) (tVar 2) (tCB (rSorted K) (tCons (tVar 2) tNil)))) (tRet (tLst (tCons (tC (.int (-4))) tNil))) tNext)
    (tSeq (sDPut (tFld K (tVar 0) "tables") (tVar 3) (tTup (tCons (tVar 4) (tCons (tCB (rTupleS K) (tCons (tVar 2) tNil)) tNil))))
    (tRet (tLst (tCons (tC (.int 0)) tNil))))))
theorem sc_beetle : FnScope ["office", "numbers", "row", "kind", "days", "days_over"] ["office", "numbers", "row"] (defScope s_beetle) := C8.fnScope_by (by decide +kernel)
def t_beetle (K : PySem.W.Frag) : TS :=
  (tSeq (tAsg (tVar 1) (gUnl K 3 (gCons (gName 3) (gCons (gName 4) (gCons (gName 5) gNil)))))
    (tSeq (sDPut (tFld K (tVar 0) "beetles") (tVar 3) (tTup (tCons (tVar 4) (tCons (tVar 5) tNil))))
    (tRet (tLst (tCons (tC (.int 0)) tNil)))))
theorem sc_done : FnScope ["office", "numbers", "row", "job", "refusal"] ["office", "numbers", "row"] (defScope s_done) := C8.fnScope_by (by decide +kernel)
def t_done (K : PySem.W.Frag) : TS :=
  (tSeq (tAsg (tOp (rIxL K) (tVar 1) (tC (.int 0))) (gName 3))
    (tSeq (tAsg (tCall (sp_hindrance K) [] C8.E0 (tCons (tVar 0) (tCons (tFld K (tVar 0) "jobs_done") (tCons (tVar 3) tNil)))) (gName 4))
    (tSeq (tIfS (tTest (tOp rLt (tVar 4) (tC (.int 0)))) (tRet (tLst (tCons (tVar 4) tNil))) tNext)
    (tSeq (tDrop (tBM K "list" rAppend (tFld K (tVar 0) "jobs_done") (tCons (tVar 3) tNil)))
    (tRet (tLst (tCons (tC (.int 0)) (tCons (tCall (sp_day_now K) [] C8.E0 (tCons (tVar 0) tNil)) (tCons (tCall (sp_loss_of K) [] C8.E0 (tCons (tVar 0) (tCons (tVar 3) (tCons (tCall (sp_day_now K) [] C8.E0 (tCons (tVar 0) tNil)) tNil)))) tNil)))))))))
theorem sc_undo : FnScope ["office", "numbers", "row"] ["office", "numbers", "row"] (defScope s_undo) := C8.fnScope_by (by decide +kernel)
def t_undo (K : PySem.W.Frag) : TS :=
  (tSeq (tIfS (tTest (tOp rEq (tCB (rLenS K) (tCons (tFld K (tVar 0) "jobs_done") tNil)) (tC (.int 0)))) (tRet (tLst (tCons (tC (.int (-4))) tNil))) tNext)
    (tRet (tLst (tCons (tC (.int 0)) (tCons (tBM0 K "list" rPop (tFld K (tVar 0) "jobs_done")) tNil)))))
section
variable {K : PySem.W.Frag} {mg : Str → Option Value}
theorem p_Way__init__ (T : Top K mg) (vs : List V) (H : Hp) (Q : VK) (E : XK) (h : sp_Way__init__ K vs H Q E) : t_Way__init__ K { nx := fun _ H' => Q .non H', rt := Q } (start ["self", "a", "b", "minutes", "work"] vs) H := by
  obtain ⟨x, dx, w, rfl, hx, k⟩ := h
  refine q_fld T.cl_Way T.na_Way_a (ev_var rfl) (ev_var rfl) hx (by decide) fun H1 e1 => ?_
  refine q_fld T.cl_Way T.na_Way_b (ev_var rfl) (ev_var rfl) upd_same (by simp [putF]) fun H2 e2 => ?_
  rw [putF_new (f := "b") (ns := ["a"]) rfl (by decide +kernel)]
  refine q_fld T.cl_Way T.na_Way_minutes (ev_var rfl) (ev_var rfl) upd_same (by simp [putF]) fun H3 e3 => ?_
  rw [putF_new (f := "minutes") (ns := ["a", "b"]) rfl (by decide +kernel)]
  refine s_fld T.cl_Way T.na_Way_work (ev_var rfl) (ev_var rfl) upd_same (by simp [putF]) fun H4 e4 => ?_
  rw [putF_new (f := "work") (ns := ["a", "b", "minutes"]) rfl (by decide +kernel)]
  exact k _ upd_same ((((((((But.of e1).put).ex e2).put).ex e3).put).ex e4).put)
/-- a way is made -/
theorem ep_way {σ : L2.St} {H : Hp} {ta : TA} {E : XK} {w : Way} (h : EvA ta σ H [nv w.a, nv w.b, nv w.minutes, nv w.work]) : EvP (tMake (He.ga K "Way") (sp_Way__init__ K) [] E ta) σ H fun v H2 => ∃ x, v = .ref x ∧ WayAt K H2 x w := fun H1 e Q q =>
  h H1 e _ fun H2 e2 x dx hx hd hne => ⟨x, dx, w, rfl, upd_same, fun H3 h3 b3 => ⟨rfl, q (.ref x) H3 (fun b o hb => by
    have hb2 := e2 b o hb
    have hbx : b ≠ x := by rintro rfl; rw [hx] at hb2; cases hb2
    have hbd : b ≠ dx := by rintro rfl; rw [hd] at hb2; cases hb2
    exact b3 b o hbx (by rw [upd_ne hbx, upd_ne hbd]; exact hb2)) ⟨x, rfl, dx, h3⟩⟩⟩
theorem p_Wood__init__ (T : Top K mg) (vs : List V) (H : Hp) (Q : VK) (E : XK) (h : sp_Wood__init__ K vs H Q E) : t_Wood__init__ K { nx := fun _ H' => Q .non H', rt := Q } (start ["self", "place", "kind", "cents", "work", "day"] vs) H := by
  obtain ⟨x, dx, w, rfl, hx, k⟩ := h
  refine q_fld T.cl_Wood T.na_Wood_place (ev_var rfl) (ev_var rfl) hx (by decide) fun H1 e1 => ?_
  refine q_fld T.cl_Wood T.na_Wood_kind (ev_var rfl) (ev_var rfl) upd_same (by simp [putF]) fun H2 e2 => ?_
  rw [putF_new (f := "kind") (ns := ["place"]) rfl (by decide +kernel)]
  refine q_fld T.cl_Wood T.na_Wood_cents (ev_var rfl) (ev_var rfl) upd_same (by simp [putF]) fun H3 e3 => ?_
  rw [putF_new (f := "cents") (ns := ["place", "kind"]) rfl (by decide +kernel)]
  refine q_fld T.cl_Wood T.na_Wood_work (ev_var rfl) (ev_var rfl) upd_same (by simp [putF]) fun H4 e4 => ?_
  rw [putF_new (f := "work") (ns := ["place", "kind", "cents"]) rfl (by decide +kernel)]
  refine s_fld T.cl_Wood T.na_Wood_day (ev_var rfl) (ev_var rfl) upd_same (by simp [putF]) fun H5 e5 => ?_
  rw [putF_new (f := "day") (ns := ["place", "kind", "cents", "work"]) rfl (by decide +kernel)]
  exact k _ upd_same ((((((((((But.of e1).put).ex e2).put).ex e3).put).ex e4).put).ex e5).put)
theorem ep_wood {σ : L2.St} {H : Hp} {ta : TA} {E : XK} {w : Wood} (h : EvA ta σ H [nv w.place, nv w.kind, nv w.cents, nv w.work, nv w.day]) : EvP (tMake (He.ga K "Wood") (sp_Wood__init__ K) [] E ta) σ H fun v H2 => ∃ x, v = .ref x ∧ WoodAt K H2 x w := fun H1 e Q q =>
  h H1 e _ fun H2 e2 x dx hx hd hne => ⟨x, dx, w, rfl, upd_same, fun H3 h3 b3 => ⟨rfl, q (.ref x) H3 (fun b o hb => by
    have hb2 := e2 b o hb
    have hbx : b ≠ x := by rintro rfl; rw [hx] at hb2; cases hb2
    have hbd : b ≠ dx := by rintro rfl; rw [hd] at hb2; cases hb2
    exact b3 b o hbx (by rw [upd_ne hbx, upd_ne hbd]; exact hb2)) ⟨x, rfl, dx, h3⟩⟩⟩
theorem p_Line__init__ (T : Top K mg) (vs : List V) (H : Hp) (Q : VK) (E : XK) (h : sp_Line__init__ K vs H Q E) : t_Line__init__ K { nx := fun _ H' => Q .non H', rt := Q } (start ["self"] vs) H := by
  obtain ⟨x, dx, rfl, hx, k⟩ := h
  refine s_fld T.cl_Line T.na_Line_office ev_c (ev_var rfl) hx (by decide) fun H1 e1 => ?_
  exact k _ upd_same ((But.of e1).put)
theorem p_Office__init__ (T : Top K mg) (vs : List V) (H : Hp) (Q : VK) (E : XK) (h : sp_Office__init__ K vs H Q E) : t_Office__init__ K { nx := fun _ H' => Q .non H', rt := Q } (start ["self", "places", "hours_a_day", "first_day"] vs) H := by
  obtain ⟨x, dx, n, h, d, rfl, hx, k⟩ := h
  refine q_fld T.cl_Office T.na_Office_places (ev_var rfl) (ev_var rfl) hx (by decide) fun H1 e1 => ?_
  have b1 := (But.of (x := x) e1).put (o := .ins (CO K) dx (putF "places" (nv n) []))
  refine q_fld T.cl_Office T.na_Office_hours_a_day (ev_var rfl) (ev_var rfl) upd_same (by simp [putF]) fun H2 e2 => ?_
  rw [putF_new (f := "hours_a_day") (ns := ["places"]) rfl (by decide +kernel)]
  have b2 := (b1.ex e2).put (o := .ins (CO K) dx (putF "places" (nv n) [] ++ [(("hours_a_day" : Str), nv h)]))
  refine q_fld T.cl_Office T.na_Office_first_day (ev_var rfl) (ev_var rfl) upd_same (by simp [putF]) fun H3 e3 => ?_
  rw [putF_new (f := "first_day") (ns := ["places", "hours_a_day"]) rfl (by decide +kernel)]
  have b3 := (b2.ex e3).put (o := .ins (CO K) dx (putF "places" (nv n) [] ++ [(("hours_a_day" : Str), nv h)] ++ [(("first_day" : Str), nv d)]))
  have n3 : ∀ p, upd H3 x (.ins (CO K) dx (putF "places" (nv n) [] ++ [(("hours_a_day" : Str), nv h)] ++ [(("first_day" : Str), nv d)])) p = none → p ≠ x ∧ H p = none := fun p hp => by
    have hpx : p ≠ x := by rintro rfl; rw [upd_same] at hp; cases hp
    exact ⟨hpx, b3.fresh hpx hp⟩
  have h3 : upd H3 x (.ins (CO K) dx (putF "places" (nv n) [] ++ [(("hours_a_day" : Str), nv h)] ++ [(("first_day" : Str), nv d)])) x = some (.ins (CO K) dx (putF "places" (nv n) [] ++ [(("hours_a_day" : Str), nv h)] ++ [(("first_day" : Str), nv d)])) := upd_same
  revert b3 n3 h3
  generalize upd H3 x (.ins (CO K) dx (putF "places" (nv n) [] ++ [(("hours_a_day" : Str), nv h)] ++ [(("first_day" : Str), nv d)])) = H3'
  intro b3 n3 h3
  -- ways
  refine q_fldL T.cl_Office T.na_Office_ways (el_lst ea_nil (by decide : 0 ≤ 100000)) (ev_var rfl) h3 (by simp [putF]) fun p1 H4 f1 e4 g1 => ?_
  rw [putF_new (f := "ways") (ns := ["places", "hours_a_day", "first_day"]) rfl (by decide +kernel)]
  obtain ⟨p1x, p1h⟩ := n3 p1 f1
  have b4 := (b3.ex e4).put (o := .ins (CO K) dx (putF "places" (nv n) [] ++ [(("hours_a_day" : Str), nv h)] ++ [(("first_day" : Str), nv d)] ++ [(("ways" : Str), .ref p1)]))
  have g1' : upd H4 x (.ins (CO K) dx (putF "places" (nv n) [] ++ [(("hours_a_day" : Str), nv h)] ++ [(("first_day" : Str), nv d)] ++ [(("ways" : Str), .ref p1)])) p1 = some (.lst []) := by rw [upd_ne p1x]; exact g1
  have h4 : upd H4 x (.ins (CO K) dx (putF "places" (nv n) [] ++ [(("hours_a_day" : Str), nv h)] ++ [(("first_day" : Str), nv d)] ++ [(("ways" : Str), .ref p1)])) x = some (.ins (CO K) dx (putF "places" (nv n) [] ++ [(("hours_a_day" : Str), nv h)] ++ [(("first_day" : Str), nv d)] ++ [(("ways" : Str), .ref p1)])) := upd_same
  revert b4 g1' h4
  generalize upd H4 x (.ins (CO K) dx (putF "places" (nv n) [] ++ [(("hours_a_day" : Str), nv h)] ++ [(("first_day" : Str), nv d)] ++ [(("ways" : Str), .ref p1)])) = H4'
  intro b4 g1' h4
  -- woods
  refine q_fldL T.cl_Office T.na_Office_woods (el_lst ea_nil (by decide : 0 ≤ 100000)) (ev_var rfl) h4 (by simp [putF]) fun p2 H5 f2 e5 g2 => ?_
  rw [putF_new (f := "woods") (ns := ["places", "hours_a_day", "first_day", "ways"]) rfl (by decide +kernel)]
  have p2x : p2 ≠ x := by rintro rfl; rw [h4] at f2; cases f2
  have p21 : p2 ≠ p1 := by rintro rfl; rw [g1'] at f2; cases f2
  have p2h := b4.fresh p2x f2
  have b5 := (b4.ex e5).put (o := .ins (CO K) dx (putF "places" (nv n) [] ++ [(("hours_a_day" : Str), nv h)] ++ [(("first_day" : Str), nv d)] ++ [(("ways" : Str), .ref p1)] ++ [(("woods" : Str), .ref p2)]))
  have g1'' : upd H5 x (.ins (CO K) dx (putF "places" (nv n) [] ++ [(("hours_a_day" : Str), nv h)] ++ [(("first_day" : Str), nv d)] ++ [(("ways" : Str), .ref p1)] ++ [(("woods" : Str), .ref p2)])) p1 = some (.lst []) := by rw [upd_ne p1x]; exact e5 _ _ g1'
  have g2' : upd H5 x (.ins (CO K) dx (putF "places" (nv n) [] ++ [(("hours_a_day" : Str), nv h)] ++ [(("first_day" : Str), nv d)] ++ [(("ways" : Str), .ref p1)] ++ [(("woods" : Str), .ref p2)])) p2 = some (.lst []) := by rw [upd_ne p2x]; exact g2
  have h5 : upd H5 x (.ins (CO K) dx (putF "places" (nv n) [] ++ [(("hours_a_day" : Str), nv h)] ++ [(("first_day" : Str), nv d)] ++ [(("ways" : Str), .ref p1)] ++ [(("woods" : Str), .ref p2)])) x = some (.ins (CO K) dx (putF "places" (nv n) [] ++ [(("hours_a_day" : Str), nv h)] ++ [(("first_day" : Str), nv d)] ++ [(("ways" : Str), .ref p1)] ++ [(("woods" : Str), .ref p2)])) := upd_same
  revert b5 g1'' g2' h5
  generalize upd H5 x (.ins (CO K) dx (putF "places" (nv n) [] ++ [(("hours_a_day" : Str), nv h)] ++ [(("first_day" : Str), nv d)] ++ [(("ways" : Str), .ref p1)] ++ [(("woods" : Str), .ref p2)])) = H5'
  intro b5 g1'' g2' h5
  -- tables
  refine q_fldD T.cl_Office T.na_Office_tables (ev_var rfl) h5 (by simp [putF]) fun p3 H6 f3 e6 g3 => ?_
  rw [putF_new (f := "tables") (ns := ["places", "hours_a_day", "first_day", "ways", "woods"]) rfl (by decide +kernel)]
  have p3x : p3 ≠ x := by rintro rfl; rw [h5] at f3; cases f3
  have p3h := b5.fresh p3x f3
  have b6 := (b5.ex e6).put (o := .ins (CO K) dx (putF "places" (nv n) [] ++ [(("hours_a_day" : Str), nv h)] ++ [(("first_day" : Str), nv d)] ++ [(("ways" : Str), .ref p1)] ++ [(("woods" : Str), .ref p2)] ++ [(("tables" : Str), .ref p3)]))
  have k1 : upd H6 x (.ins (CO K) dx (putF "places" (nv n) [] ++ [(("hours_a_day" : Str), nv h)] ++ [(("first_day" : Str), nv d)] ++ [(("ways" : Str), .ref p1)] ++ [(("woods" : Str), .ref p2)] ++ [(("tables" : Str), .ref p3)])) p1 = some (.lst []) := by rw [upd_ne p1x]; exact e6 _ _ g1''
  have k2 : upd H6 x (.ins (CO K) dx (putF "places" (nv n) [] ++ [(("hours_a_day" : Str), nv h)] ++ [(("first_day" : Str), nv d)] ++ [(("ways" : Str), .ref p1)] ++ [(("woods" : Str), .ref p2)] ++ [(("tables" : Str), .ref p3)])) p2 = some (.lst []) := by rw [upd_ne p2x]; exact e6 _ _ g2'
  have k3 : upd H6 x (.ins (CO K) dx (putF "places" (nv n) [] ++ [(("hours_a_day" : Str), nv h)] ++ [(("first_day" : Str), nv d)] ++ [(("ways" : Str), .ref p1)] ++ [(("woods" : Str), .ref p2)] ++ [(("tables" : Str), .ref p3)])) p3 = some (.dK []) := by rw [upd_ne p3x]; exact g3
  have h6 : upd H6 x (.ins (CO K) dx (putF "places" (nv n) [] ++ [(("hours_a_day" : Str), nv h)] ++ [(("first_day" : Str), nv d)] ++ [(("ways" : Str), .ref p1)] ++ [(("woods" : Str), .ref p2)] ++ [(("tables" : Str), .ref p3)])) x = some (.ins (CO K) dx (putF "places" (nv n) [] ++ [(("hours_a_day" : Str), nv h)] ++ [(("first_day" : Str), nv d)] ++ [(("ways" : Str), .ref p1)] ++ [(("woods" : Str), .ref p2)] ++ [(("tables" : Str), .ref p3)])) := upd_same
  revert b6 k1 k2 k3 h6
  generalize upd H6 x (.ins (CO K) dx (putF "places" (nv n) [] ++ [(("hours_a_day" : Str), nv h)] ++ [(("first_day" : Str), nv d)] ++ [(("ways" : Str), .ref p1)] ++ [(("woods" : Str), .ref p2)] ++ [(("tables" : Str), .ref p3)])) = H6'
  intro b6 k1 k2 k3 h6
  -- beetles
  refine q_fldD T.cl_Office T.na_Office_beetles (ev_var rfl) h6 (by simp [putF]) fun p4 H7 f4 e7 g4 => ?_
  rw [putF_new (f := "beetles") (ns := ["places", "hours_a_day", "first_day", "ways", "woods", "tables"]) rfl (by decide +kernel)]
  have p4x : p4 ≠ x := by rintro rfl; rw [h6] at f4; cases f4
  have p43 : p4 ≠ p3 := by rintro rfl; rw [k3] at f4; cases f4
  have p4h := b6.fresh p4x f4
  have b7 := (b6.ex e7).put (o := .ins (CO K) dx (putF "places" (nv n) [] ++ [(("hours_a_day" : Str), nv h)] ++ [(("first_day" : Str), nv d)] ++ [(("ways" : Str), .ref p1)] ++ [(("woods" : Str), .ref p2)] ++ [(("tables" : Str), .ref p3)] ++ [(("beetles" : Str), .ref p4)]))
  have l1 : upd H7 x (.ins (CO K) dx (putF "places" (nv n) [] ++ [(("hours_a_day" : Str), nv h)] ++ [(("first_day" : Str), nv d)] ++ [(("ways" : Str), .ref p1)] ++ [(("woods" : Str), .ref p2)] ++ [(("tables" : Str), .ref p3)] ++ [(("beetles" : Str), .ref p4)])) p1 = some (.lst []) := by rw [upd_ne p1x]; exact e7 _ _ k1
  have l2 : upd H7 x (.ins (CO K) dx (putF "places" (nv n) [] ++ [(("hours_a_day" : Str), nv h)] ++ [(("first_day" : Str), nv d)] ++ [(("ways" : Str), .ref p1)] ++ [(("woods" : Str), .ref p2)] ++ [(("tables" : Str), .ref p3)] ++ [(("beetles" : Str), .ref p4)])) p2 = some (.lst []) := by rw [upd_ne p2x]; exact e7 _ _ k2
  have l3 : upd H7 x (.ins (CO K) dx (putF "places" (nv n) [] ++ [(("hours_a_day" : Str), nv h)] ++ [(("first_day" : Str), nv d)] ++ [(("ways" : Str), .ref p1)] ++ [(("woods" : Str), .ref p2)] ++ [(("tables" : Str), .ref p3)] ++ [(("beetles" : Str), .ref p4)])) p3 = some (.dK []) := by rw [upd_ne p3x]; exact e7 _ _ k3
  have l4 : upd H7 x (.ins (CO K) dx (putF "places" (nv n) [] ++ [(("hours_a_day" : Str), nv h)] ++ [(("first_day" : Str), nv d)] ++ [(("ways" : Str), .ref p1)] ++ [(("woods" : Str), .ref p2)] ++ [(("tables" : Str), .ref p3)] ++ [(("beetles" : Str), .ref p4)])) p4 = some (.dK []) := by rw [upd_ne p4x]; exact g4
  have h7 : upd H7 x (.ins (CO K) dx (putF "places" (nv n) [] ++ [(("hours_a_day" : Str), nv h)] ++ [(("first_day" : Str), nv d)] ++ [(("ways" : Str), .ref p1)] ++ [(("woods" : Str), .ref p2)] ++ [(("tables" : Str), .ref p3)] ++ [(("beetles" : Str), .ref p4)])) x = some (.ins (CO K) dx (putF "places" (nv n) [] ++ [(("hours_a_day" : Str), nv h)] ++ [(("first_day" : Str), nv d)] ++ [(("ways" : Str), .ref p1)] ++ [(("woods" : Str), .ref p2)] ++ [(("tables" : Str), .ref p3)] ++ [(("beetles" : Str), .ref p4)])) := upd_same
  revert b7 l1 l2 l3 l4 h7
  generalize upd H7 x (.ins (CO K) dx (putF "places" (nv n) [] ++ [(("hours_a_day" : Str), nv h)] ++ [(("first_day" : Str), nv d)] ++ [(("ways" : Str), .ref p1)] ++ [(("woods" : Str), .ref p2)] ++ [(("tables" : Str), .ref p3)] ++ [(("beetles" : Str), .ref p4)])) = H7'
  intro b7 l1 l2 l3 l4 h7
  -- jobs done
  refine s_fldL T.cl_Office T.na_Office_jobs_done (el_lst ea_nil (by decide : 0 ≤ 100000)) (ev_var rfl) h7 (by simp [putF]) fun p5 H8 f5 e8 g5 => ?_
  rw [putF_new (f := "jobs_done") (ns := ["places", "hours_a_day", "first_day", "ways", "woods", "tables", "beetles"]) rfl (by decide +kernel)]
  have p5x : p5 ≠ x := by rintro rfl; rw [h7] at f5; cases f5
  have p51 : p5 ≠ p1 := by rintro rfl; rw [l1] at f5; cases f5
  have p52 : p5 ≠ p2 := by rintro rfl; rw [l2] at f5; cases f5
  have p5h := b7.fresh p5x f5
  refine k ⟨x, p1, p2, p3, p4, p5⟩ _ rfl ⟨p1h, p2h, p3h, p4h, p5h⟩ ⟨Ne.symm p21, Ne.symm p51, Ne.symm p52, Ne.symm p43⟩ ?_ ((b7.ex e8).put)
  refine ⟨⟨dx, upd_same⟩, ⟨[], by rw [upd_ne p1x]; exact e8 _ _ l1, .nil⟩, ⟨[], by rw [upd_ne p2x]; exact e8 _ _ l2, .nil⟩, ⟨[], by rw [upd_ne p3x]; exact e8 _ _ l3, ⟨List.nodup_nil, fun z hz => (nomatch hz)⟩, fun j => rfl⟩, ⟨[], by rw [upd_ne p4x]; exact e8 _ _ l4, ⟨List.nodup_nil, fun z hz => (nomatch hz)⟩, fun j => rfl⟩, by rw [upd_ne p5x]; exact g5⟩
theorem p_net (T : Top K mg) (vs : List V) (H : Hp) (Q : VK) (E : XK) (h : sp_net K vs H Q E) : t_net K { nx := fun _ H' => Q .non H', rt := Q } (start ["line", "numbers", "places", "hours_a_day", "first_day"] vs) H := by
  obtain ⟨L, nl, dx, v, n, h, d, rfl, hL, hn, k⟩ := h
  refine q_unl (is := [2, 3, 4]) (ws := [nv n, nv h, nv d]) (ev_var rfl) (sq_of hn) rfl fun H1 e1 => ?_
  -- line.office = Office(..)
  refine q_fldM (mk_intro (us := [nv n, nv h, nv d]) (ea_cons (ev_var rfl) (ea_cons (ev_var rfl) (ea_cons (ev_var rfl) ea_nil))) fun H2 e2 x dx2 hx hd hne => ?_)
  refine ⟨x, dx2, n, h, d, rfl, upd_same, fun A H3 hAx hNew hD hO hb => ⟨rfl, ?_⟩⟩
  have e12 := e1.trans e2
  have hL2 := e12 _ _ hL
  have hLx : L ≠ x := by rintro rfl; rw [hx] at hL2; cases hL2
  have hLd : L ≠ dx2 := by rintro rfl; rw [hd] at hL2; cases hL2
  have hL3 : H3 L = some (.ins (CL K) dx [("office", v)]) := hb _ _ hLx (by rw [upd_ne hLx, upd_ne hLd]; exact hL2)
  have e3 : Ex H H3 := fun b o hbo => by
    have hb2 := e12 b o hbo
    have hbx : b ≠ x := by rintro rfl; rw [hx] at hb2; cases hb2
    have hbd : b ≠ dx2 := by rintro rfl; rw [hd] at hb2; cases hb2
    exact hb b o hbx (by rw [upd_ne hbx, upd_ne hbd]; exact hb2)
  have fr : ∀ p, upd (upd H2 dx2 (.own x)) x (.ins (CO K) dx2 []) p = none → H p = none := fun p hp => by
    have h1 : p ≠ x := by rintro rfl; rw [upd_same] at hp; cases hp
    rw [upd_ne h1] at hp
    have h2 : p ≠ dx2 := by rintro rfl; rw [upd_same] at hp; cases hp
    rw [upd_ne h2] at hp
    exact fresh_back e12 hp
  have hNewH : NewA A H := ⟨fr _ hNew.w, fr _ hNew.o, fr _ hNew.t, fr _ hNew.b, fr _ hNew.j⟩
  refine ⟨_, rfl, L, CL K, dx, _, rfl, hL3, T.cl_Line, T.na_Line_office, (by show 1 < 1000; decide), ?_⟩
  have hput : putF "office" (.ref x) [(("office" : Str), v)] = [(("office" : Str), V.ref A.o)] := by
    rw [hAx]
    show (if ("office" : Str) = "office" then _ else _) = _
    rw [if_pos rfl]
  rw [hput]
  -- the office lies still
  have hO4 : OffAt K (upd H3 L (.ins (CL K) dx [("office", .ref A.o)])) A (newO n h d) := by
    have ne : ∀ b o, H3 b = some o → (∀ C dx fs, o ≠ .ins C dx fs) → upd H3 L (.ins (CL K) dx [("office", .ref A.o)]) b = some o := fun b o hb hn => by
      rw [upd_ne (ne_of hb hL3 (hn _ _ _))]
      exact hb
    obtain ⟨⟨d1, o1⟩, ⟨ps, o2, o3⟩, ⟨qs, o2', o3'⟩, ⟨k1, o4, o5, o6⟩, ⟨k2, o7, o8, o9⟩, o10⟩ := hO
    refine ⟨⟨d1, by rw [upd_ne (by rw [hAx]; exact Ne.symm hLx)]; exact o1⟩, ⟨ps, ne _ _ o2 (fun _ _ _ z => (nomatch z)), ?_⟩, ⟨qs, ne _ _ o2' (fun _ _ _ z => (nomatch z)), ?_⟩, ⟨k1, ne _ _ o4 (fun _ _ _ z => (nomatch z)), o5, fun j => tab_put hL3 (fun _ z => (nomatch z)) (o6 j)⟩, ⟨k2, ne _ _ o7 (fun _ _ _ z => (nomatch z)), o8, fun j => bee_put hL3 (fun _ z => (nomatch z)) (o9 j)⟩, ne _ _ o10 (fun _ _ _ z => (nomatch z))⟩
    · cases o3
      exact .nil
    · cases o3'
      exact .nil
  refine s_retL (el_lst (ea_cons (ev_nat 0 rfl) ea_nil) (by decide : 1 ≤ 100000)) fun p H5 hp e5 h5 => ?_
  have hp3 : H p = none := by
    have h1 : p ≠ L := by rintro rfl; rw [upd_same] at hp; cases hp
    rw [upd_ne h1] at hp
    exact fresh_back e3 hp
  exact k p A H5 hp3 (by rw [hAx]; exact fresh_back e12 hx) hNewH hD (hO4.mono e5) (e5 _ _ upd_same) (fun b o hb h => e5 _ _ (by rw [upd_ne hb]; exact e3 _ _ h)) h5
theorem p_way (T : Top K mg) (vs : List V) (H : Hp) (Q : VK) (E : XK) (h : sp_way K vs H Q E) : t_way K { nx := fun _ H' => Q .non H', rt := Q } (start ["office", "numbers", "row", "a", "b", "minutes", "work"] vs) H := by
  obtain ⟨A, s, nl, rl, c, ⟨a, b, m, w, rfl⟩, hr, rfl, hO, ok, hn, hrw, k⟩ := h
  have hdo : does s (.way a b m w) = if s.n ≤ a ∨ s.n ≤ b then (s, no (-3)) else if a = b then (s, no (-4)) else if TimStorm.WAYS ≤ s.ways.length ∨ (0 < w ∧ TimStorm.JOBS ≤ s.jobs.length) then (s, no (-9)) else ({ s with ways := s.ways ++ [⟨a, b, m, w⟩] }, tells [s.ways.length]) := rfl
  have hwl := ok.wl
  have hjl := ok.jl
  refine q_unl (is := [3, 4, 5, 6]) (ws := [nv a, nv b, nv m, nv w]) (ev_var rfl) (sq_of hn) rfl fun H1 e1 => ?_
  have hO1 := hO.mono e1
  refine q_when (b := !decide (a < s.n) || !decide (b < s.n)) (et_or (et_not (et_val (ev_has hO1 (ev_var rfl) (ev_var rfl)))) fun _ => et_not (et_val (ev_has hO1 (ev_var rfl) (ev_var rfl)))) (fun hb H2 e2 => ?_) (fun hb H2 e2 => ?_)
  · rw [if_pos (by simpa using hb)] at hdo
    exact s_no (d_no k hO hdo) (e1.trans e2)
  · have hab : ¬ (s.n ≤ a ∨ s.n ≤ b) := by
      rw [Bool.or_eq_false_iff, Bool.not_eq_false', Bool.not_eq_false', decide_eq_true_eq, decide_eq_true_eq] at hb
      omega
    rw [if_neg hab] at hdo
    have e12 := e1.trans e2
    refine q_when (b := decide (a = b)) (et_test (ev_eqN (ev_var rfl) (ev_var rfl))) (fun hb H3 e3 => ?_) (fun hb H3 e3 => ?_)
    · rw [if_pos (of_decide_eq_true hb)] at hdo
      exact s_no (d_no k hO hdo) (e12.trans e3)
    · rw [if_neg (of_decide_eq_false hb)] at hdo
      have e13 := e12.trans e3
      have hO3 := hO.mono e13
      refine q_when (b := decide (s.ways.length = 32) || (decide (0 < w) && decide (s.jobs.length = 10))) (et_or (et_test (ev_eqN (ev_nways T hO3 (ev_var rfl)) (ev_nat 32 rfl))) fun _ => et_and (et_test (ev_gt (ev_var rfl) (ev_nat 0 rfl))) fun _ => et_test (ev_eqN (ev_is (ev_lenN (el_call (ea_cons (ev_var rfl) ea_nil) (v_all_jobs hO3 ok))) (by rw [nvs_len])) (ev_nat 10 rfl))) (fun hb H4 e4 => ?_) (fun hb H4 e4 => ?_)
      · rw [if_pos ?_] at hdo
        · exact s_no (d_no k hO hdo) (e13.trans e4)
        · rw [Bool.or_eq_true, Bool.and_eq_true, decide_eq_true_eq, decide_eq_true_eq, decide_eq_true_eq] at hb
          unfold TimStorm.WAYS TimStorm.JOBS
          omega
      · rw [if_neg ?_] at hdo
        · have e14 := e13.trans e4
          have hO4 := hO.mono e14
          obtain ⟨ps, h1, h2⟩ := hO4.ways
          have hpl := paired_len h2
          refine q_appG h1 (ev_ways T hO4 (ev_var rfl)) (ep_way (w := ⟨a, b, m, w⟩) (ea_cons (ev_var rfl) (ea_cons (ev_var rfl) (ea_cons (ev_var rfl) (ea_cons (ev_var rfl) ea_nil))))) (by rw [List.length_map]; omega) fun v H5 e5 hv => ?_
          obtain ⟨x, rfl, hx⟩ := hv
          have e15 := e14.trans e5
          have hO5 := off_ways k.1 (hO.mono e15) (e5 _ _ h1) (paired_mono (fun _ _ z => z.mono e5) h2) hx
          refine s_retL (el_lst (ea_cons (ev_nat 0 rfl) (ea_cons (ev_is (ev_sub (by show 1 ≤ _; rw [List.length_append]; simp) (ev_nways T hO5 (ev_var rfl)) (ev_nat 1 rfl)) ?_) ea_nil)) (by decide : 2 ≤ 100000)) (d_fin k hdo (keep_put e15 (.inl rfl)) (fresh_put e15) hO5)
          show nv ((s.ways ++ [_]).length - 1) = nv s.ways.length
          rw [List.length_append]
          rfl
        · rw [Bool.or_eq_false_iff, Bool.and_eq_false_iff, decide_eq_false_iff_not, decide_eq_false_iff_not, decide_eq_false_iff_not] at hb
          unfold TimStorm.WAYS TimStorm.JOBS
          omega
theorem p_wood (T : Top K mg) (vs : List V) (H : Hp) (Q : VK) (E : XK) (h : sp_wood K vs H Q E) : t_wood K { nx := fun _ H' => Q .non H', rt := Q } (start ["office", "numbers", "row", "place", "kind", "cents", "work", "day"] vs) H := by
  obtain ⟨A, s, nl, rl, c, ⟨p, kd, z, w, d, rfl⟩, hr, rfl, hO, ok, hn, hrw, k⟩ := h
  have hdo : does s (.wood p kd z w d) = if s.n ≤ p then (s, no (-3)) else if s.now < d then (s, no (-4)) else if TimStorm.JOBS ≤ s.jobs.length then (s, no (-9)) else ({ s with woods := s.woods ++ [⟨p, kd, z, w, d⟩] }, tells [TimStorm.WAYS + s.woods.length]) := rfl
  have hjl := ok.jl
  have hol := ok.ol
  refine q_unl (is := [3, 4, 5, 6, 7]) (ws := [nv p, nv kd, nv z, nv w, nv d]) (ev_var rfl) (sq_of hn) rfl fun H1 e1 => ?_
  refine q_when (b := !decide (p < s.n)) (et_not (et_val (ev_has (hO.mono e1) (ev_var rfl) (ev_var rfl)))) (fun hb H2 e2 => ?_) (fun hb H2 e2 => ?_)
  · rw [if_pos (by simpa using hb)] at hdo
    exact s_no (d_no k hO hdo) (e1.trans e2)
  · rw [if_neg (by simpa using hb)] at hdo
    have e12 := e1.trans e2
    have hO2 := hO.mono e12
    refine q_when (b := decide (s.now < d)) (et_test (ev_gt (ev_var rfl) (ev_call (ea_cons (ev_var rfl) ea_nil) (v_day_now hO2 ok)))) (fun hb H3 e3 => ?_) (fun hb H3 e3 => ?_)
    · rw [if_pos (of_decide_eq_true hb)] at hdo
      exact s_no (d_no k hO hdo) (e12.trans e3)
    · rw [if_neg (of_decide_eq_false hb)] at hdo
      have e13 := e12.trans e3
      have hO3 := hO.mono e13
      refine q_when (b := decide (s.jobs.length = 10)) (et_test (ev_eqN (ev_is (ev_lenN (el_call (ea_cons (ev_var rfl) ea_nil) (v_all_jobs hO3 ok))) (by rw [nvs_len])) (ev_nat 10 rfl))) (fun hb H4 e4 => ?_) (fun hb H4 e4 => ?_)
      · rw [if_pos (by have := of_decide_eq_true hb; unfold TimStorm.JOBS; omega)] at hdo
        exact s_no (d_no k hO hdo) (e13.trans e4)
      · rw [if_neg (by have := of_decide_eq_false hb; unfold TimStorm.JOBS; omega)] at hdo
        have e14 := e13.trans e4
        have hO4 := hO.mono e14
        obtain ⟨ps, h1, h2⟩ := hO4.woods
        have hpl := paired_len h2
        refine q_appG h1 (ev_woods T hO4 (ev_var rfl)) (ep_wood (w := ⟨p, kd, z, w, d⟩) (ea_cons (ev_var rfl) (ea_cons (ev_var rfl) (ea_cons (ev_var rfl) (ea_cons (ev_var rfl) (ea_cons (ev_var rfl) ea_nil)))))) (by rw [List.length_map]; omega) fun v H5 e5 hv => ?_
        obtain ⟨x, rfl, hx⟩ := hv
        have e15 := e14.trans e5
        have hO5 := off_woods k.1 (hO.mono e15) (e5 _ _ h1) (paired_mono (fun _ _ z => z.mono e5) h2) hx
        refine s_retL (el_lst (ea_cons (ev_nat 0 rfl) (ea_cons (ev_is (ev_sub (by omega) (ev_add (ev_nat 32 rfl) (ev_nwoods T hO5 (ev_var rfl))) (ev_nat 1 rfl)) ?_) ea_nil)) (by decide : 2 ≤ 100000)) (d_fin k hdo (keep_put e15 (.inr (.inl rfl))) (fresh_put e15) hO5)
        show nv (32 + (s.woods ++ [_]).length - 1) = nv (32 + s.woods.length)
        rw [List.length_append]
        rfl
theorem p_table (T : Top K mg) (vs : List V) (H : Hp) (Q : VK) (E : XK) (h : sp_table K vs H Q E) : t_table K { nx := fun _ H' => Q .non H', rt := Q } (start ["office", "numbers", "row", "kind", "step"] vs) H := by
  obtain ⟨A, s, nl, rl, c, ⟨kd, t, r, rfl⟩, hr, rfl, hO, ok, hn, hrw, k⟩ := h
  have hdo : does s (.table kd t r) = if WrtistSpec.rising r = false then (s, no (-4)) else ({ s with tables := ⟨kd, t, r⟩ :: s.tables.filter fun (x : Table) => x.kind != kd }, tells []) := rfl
  have hrow : H rl = some (.lst (nvs r)) := by rw [hrw, show rowOf (.table kd t r) = intsN r from rfl, ints_nvs]
  have r' : (decide (kd < 16) && (WrtistSpec.within 1 100 t && (decide (r.length ≤ 24) && r.all fun (x : Nat) => decide (x ≤ 1000)))) = true := hr
  simp only [Bool.and_eq_true, decide_eq_true_eq] at r'
  refine q_unl (is := [3, 4]) (ws := [nv kd, nv t]) (ev_var rfl) (sq_of hn) rfl fun H1 e1 => ?_
  refine q_when (b := !WrtistSpec.rising r) (et_test (ev_neSorted (ev_var rfl) (e1 _ _ hrow) (by omega))) (fun hb H2 e2 => ?_) (fun hb H2 e2 => ?_)
  · rw [if_pos (by simpa using hb)] at hdo
    exact s_no (d_no k hO hdo) (e1.trans e2)
  · rw [if_neg (by simpa using hb)] at hdo
    have e12 := e1.trans e2
    have hO2 := hO.mono e12
    obtain ⟨kvs, h1, h2, h3⟩ := hO2.tables
    refine q_dput (P := fun v H3 => ∃ q o, v = .ref q ∧ H3 q = some (.tup [nv t, .ref o]) ∧ H3 o = some (.tup (nvs r))) (ep_tup (P := fun vs H3 => ∃ o, vs = [nv t, .ref o] ∧ H3 o = some (.tup (nvs r))) (eap_cons (ep_ev (ev_var rfl)) fun v1 H3 e3 hv1 => eap_cons (P := fun v H4 => ∃ o, v = .ref o ∧ H4 o = some (.tup (nvs r))) (fun H4 e4 Q q => eu_tuple (ev_var rfl) (sq_of (e12 _ _ hrow)) H4 (e3.trans e4) _ fun o H5 _ e5 h5 => q (.ref o) H5 e5 ⟨o, rfl, h5⟩) fun v2 H4 e4 hv2 => eap_nil fun H5 e5 => ?_) ?_ ?_) (ev_tables T hO2 (ev_var rfl)) (ev_var rfl) h1 (keys_len h2) fun v H3 H4 e3 e4 hv => ?_
    · obtain ⟨o, rfl, ho⟩ := hv2
      subst hv1
      exact ⟨o, rfl, e5 _ _ ho⟩
    · rintro vs H3 ⟨o, rfl, _⟩
      exact (by decide : 2 ≤ 100000)
    · rintro vs H3 q _ ⟨o, rfl, ho⟩ hq
      exact ⟨q, o, rfl, upd_same, Ex.new hq _ _ ho⟩
    · obtain ⟨q, o, rfl, hq, ho⟩ := hv
      have e34 := e3.trans e4
      have e14 := e12.trans e34
      have hO5 := off_tables k.1 (hO.mono e14) r'.1 (e34 _ _ h1) h2 (fun j => (h3 j).mono e34) (e4 _ _ hq) (e4 _ _ ho)
      exact s_retL (el_lst (ea_cons (ev_nat 0 rfl) ea_nil) (by decide : 1 ≤ 100000)) (d_fin k hdo (keep_put e14 (.inr (.inr (.inr (.inl rfl))))) (fresh_put e14) hO5)
theorem p_beetle (T : Top K mg) (vs : List V) (H : Hp) (Q : VK) (E : XK) (h : sp_beetle K vs H Q E) : t_beetle K { nx := fun _ H' => Q .non H', rt := Q } (start ["office", "numbers", "row", "kind", "days", "days_over"] vs) H := by
  obtain ⟨A, s, nl, rl, c, ⟨kd, d, g, rfl⟩, hr, rfl, hO, ok, hn, hrw, k⟩ := h
  have hdo : does s (.beetle kd d g) = ({ s with beetles := ⟨kd, d, g⟩ :: s.beetles.filter fun (x : Beetle) => x.kind != kd }, tells []) := rfl
  have r' : (decide (kd < 16) && (decide (d ≤ 400) && WrtistSpec.within 1 100 g)) = true := hr
  simp only [Bool.and_eq_true, decide_eq_true_eq] at r'
  refine q_unl (is := [3, 4, 5]) (ws := [nv kd, nv d, nv g]) (ev_var rfl) (sq_of hn) rfl fun H1 e1 => ?_
  have hO1 := hO.mono e1
  obtain ⟨kvs, h1, h2, h3⟩ := hO1.beetles
  refine q_dput (P := fun v H3 => ∃ q, v = .ref q ∧ H3 q = some (.tup [nv d, nv g])) (fun H4 e4 Q q => eu_tup (ea_cons (ev_var rfl) (ea_cons (ev_var rfl) ea_nil)) (by decide : 2 ≤ 100000) H4 e4 _ fun o H5 _ e5 h5 => q (.ref o) H5 e5 ⟨o, rfl, h5⟩) (ev_beetles T hO1 (ev_var rfl)) (ev_var rfl) h1 (keys_len h2) fun v H3 H4 e3 e4 hv => ?_
  obtain ⟨q, rfl, hq⟩ := hv
  have e34 := e3.trans e4
  have e14 := e1.trans e34
  have hO5 := off_beetles k.1 (hO.mono e14) r'.1 (e34 _ _ h1) h2 (fun j => (h3 j).mono e34) (e4 _ _ hq)
  exact s_retL (el_lst (ea_cons (ev_nat 0 rfl) ea_nil) (by decide : 1 ≤ 100000)) (d_fin k hdo (keep_put e14 (.inr (.inr (.inr (.inr rfl))))) (fresh_put e14) hO5)
theorem p_done (T : Top K mg) (vs : List V) (H : Hp) (Q : VK) (E : XK) (h : sp_done K vs H Q E) : t_done K { nx := fun _ H' => Q .non H', rt := Q } (start ["office", "numbers", "row", "job", "refusal"] vs) H := by
  obtain ⟨A, s, nl, rl, c, ⟨j, rfl⟩, hr, rfl, hO, ok, hn, hrw, k⟩ := h
  have hdo : does s (.done j) = if hind s s.done j = 0 then ({ s with done := j :: s.done }, tells [s.dayOf (s.spent s.done + s.work j), s.loses j (s.spent s.done + s.work j)]) else (s, no (-(hind s s.done j : Nat))) := by
    show (if s.isJob j = false then (s, no (-3)) else if s.done.contains j = true then (s, no (-8)) else if s.can s.done j = false then (s, no (-4)) else ({ s with done := j :: s.done }, tells [s.dayOf (s.spent s.done + s.work j), s.loses j (s.spent s.done + s.work j)])) = _
    unfold hind Office.can
    cases s.isJob j <;> cases s.done.contains j <;> cases s.at_ (s.reach s.done) j <;> simp
  have hrev : hind s s.done.reverse j = hind s s.done j := hind_congr ok (fun k => List.mem_reverse) j
  have hdl := done_len ok
  refine q_asg (ev_ix (j := 0) (ev_var rfl) (sq_of hn) (ev_nat 0 rfl) (show _ = some (nv j) from rfl)) fun H1 e1 => ?_
  have hO1 := hO.mono e1
  refine q_asg (ev_call (ea_cons (ev_var rfl) (ea_cons (ev_jobs_done T hO1 (ev_var rfl)) (ea_cons (ev_var rfl) ea_nil))) (v_hindrance hO1 ok (sq_of hO1.done))) fun H2 e2 => ?_
  rw [hrev]
  have e12 := e1.trans e2
  refine q_when (et_test (ev_ltI (ev_var rfl) ev_c)) (fun hb H3 e3 => ?_) (fun hb H3 e3 => ?_)
  · have hne : ¬ hind s s.done j = 0 := by have := of_decide_eq_true hb; omega
    rw [if_neg hne] at hdo
    have q := d_no k hO hdo
    exact s_retL (el_lst (ea_cons (ev_var rfl) ea_nil) (by decide : 1 ≤ 100000)) (RetL.mono (e12.trans e3) q)
  · have h0 : hind s s.done j = 0 := by have := of_decide_eq_false hb; omega
    rw [if_pos h0] at hdo
    have hcan := (hind_can _ _).mp h0
    have hjob : s.isJob j = true ∧ j ∉ s.done := by
      unfold Office.can at hcan
      rw [Bool.and_eq_true, Bool.and_eq_true, Bool.not_eq_true', ← Bool.not_eq_true, List.contains_iff_mem] at hcan
      exact ⟨hcan.1, hcan.2.1⟩
    have ok' := ok_done ok hjob.1 hjob.2
    have e13 := e12.trans e3
    have hO3 := hO.mono e13
    refine q_app hO3.done (ev_jobs_done T hO3 (ev_var rfl)) (ev_var rfl) (by rw [nvs_len, List.length_reverse]; omega) fun H4 e4 => ?_
    have e14 := e13.trans e4
    have hsn : nvs s.done.reverse ++ [nv j] = nvs (j :: s.done).reverse := by
      rw [List.reverse_cons, nvs_app]
      rfl
    rw [hsn]
    have hO5 := off_done (l := j :: s.done) k.1 (hO.mono e14)
    have hnow : ({ s with done := j :: s.done } : Office).now = s.dayOf (s.spent s.done + s.work j) := by
      show s.dayOf (s.work j + s.spent s.done) = _
      rw [Nat.add_comm]
    refine s_retL (el_lst (ea_cons (ev_nat 0 rfl) (ea_cons (ev_is (ev_call (ea_cons (ev_var rfl) ea_nil) (v_day_now hO5 ok')) (by rw [hnow])) (ea_cons (ev_is (ev_call (ea_cons (ev_var rfl) (ea_cons (ev_var rfl) (ea_cons (ev_call (ea_cons (ev_var rfl) ea_nil) (v_day_now hO5 ok')) ea_nil))) (v_loss_of hO5 ok' (j := j) hjob.1)) ?_) ea_nil))) (by decide : 3 ≤ 100000)) (d_fin k hdo (keep_put e14 (.inr (.inr (.inl rfl)))) (fresh_put e14) hO5)
    rw [hnow, loses_eq]
    rfl
theorem p_undo (T : Top K mg) (vs : List V) (H : Hp) (Q : VK) (E : XK) (h : sp_undo K vs H Q E) : t_undo K { nx := fun _ H' => Q .non H', rt := Q } (start ["office", "numbers", "row"] vs) H := by
  obtain ⟨A, s, nl, rl, c, rfl, hr, rfl, hO, ok, hn, hrw, k⟩ := h
  have hdl := done_len ok
  have hdo : does s .undo = match s.done with
    | [] => (s, no (-4))
    | j :: l => ({ s with done := l }, tells [j]) := rfl
  refine q_when (b := decide (s.done.length = 0)) (et_test (ev_eqN (ev_ndone T hO (ev_var rfl)) (ev_nat 0 rfl))) (fun hb H1 e1 => ?_) (fun hb H1 e1 => ?_)
  · rw [List.length_eq_zero_iff.mp (of_decide_eq_true hb)] at hdo
    exact s_no (d_no k hO hdo) e1
  · cases hd : s.done with
    | nil => rw [hd] at hb; exact absurd rfl (of_decide_eq_false hb)
    | cons j l =>
      rw [hd] at hdo
      have hO1 := hO.mono e1
      have hlst : H1 A.done = some (.lst (nvs l.reverse ++ [nv j])) := by
        have := hO1.done
        rw [hd, List.reverse_cons, nvs_app] at this
        exact this
      refine s_retPop (ev_jobs_done T hO1 (ev_var rfl)) hlst fun H2 e2 p hp => ?_
      have e12 := e1.trans e2
      have hO5 := off_done (l := l) k.1 (hO.mono e12)
      exact d_fin k hdo (keep_put e12 (.inr (.inr (.inl rfl)))) (fresh_put e12) hO5 p _ hp (Ex.new hp) upd_same
end
end Sc
end

section
set_option Elab.async false
set_option linter.all false
set_option maxRecDepth 100000
set_option maxHeartbeats 4000000
namespace Sc
open PySem PySem.Spec PyProof.Rows L2 Evl
open TimStorm (Office Way Wood Table Beetle)
open WrtistSpec (Call does asks right tells no State step)
/-! ### the ranges as the program looks at them -/
def rngOf (c : Nat) : List (List Int) := rangesI.getD (c - 1) []
def rowQ (c : Nat) : Option (List Int) := (rowsI.find? fun r => decide (r.1 = (c : Int))).map (·.2)
def rowB (q zs : List Int) : Bool := (decide (q.getD 0 0 ≤ (zs.length : Int)) && decide ((zs.length : Int) ≤ q.getD 1 0)) && zs.all fun z => decide (q.getD 2 0 ≤ z) && decide (z ≤ q.getD 3 0)
def okN (x : Int × List Int) : Bool := decide (x.2.getD 0 0 ≤ x.1) && decide (x.1 ≤ x.2.getD 1 0)
def fitsI (c : Nat) (ns zs : List Int) : Bool := ((ns.zip (rngOf c)).all okN) && (!(rowQ c).isSome || rowB ((rowQ c).getD []) zs)
theorem num_bounds (c : Call) : 1 ≤ numOf c ∧ numOf c ≤ 21 := by cases c <;> simp [numOf]
theorem rng_len (c : Call) : (rngOf (numOf c)).length = (numsOf c).length := by cases c <;> rfl
theorem rng_two : ∀ qs ∈ rangesI, ∀ q ∈ qs, q.length = 2 := by decide
theorem row_has (c : Call) : (rowQ (numOf c)).isSome = hasRow c := by cases c <;> rfl
theorem row_four (c : Call) (h : hasRow c = true) : ∃ a b d e, rowQ (numOf c) = some [a, b, d, e] := by
  cases c <;> first | (cases h; done) | exact ⟨_, _, _, _, rfl⟩
theorem le_nat {a n : Nat} : ((a : Int) ≤ (n : Int)) ↔ a ≤ n := Int.ofNat_le
theorem all_intsN (l : List Nat) (p : Int → Bool) : (intsN l).all p = l.all fun n => p (n : Int) := by
  unfold intsN
  rw [List.all_map]
  rfl
theorem intsN_len (l : List Nat) : (intsN l).length = l.length := by unfold intsN; rw [List.length_map]
theorem fits_right (c : Call) : fitsI (numOf c) (intsN (numsOf c)) (rowOf c) = right c := by
  have nn : ∀ n : Nat, decide ((0 : Int) ≤ (n : Int)) = true := fun n => decide_eq_true (by omega)
  have dl : ∀ a b : Nat, decide ((a : Int) ≤ (b : Int)) = decide (a ≤ b) := fun a b => decide_eq_decide.mpr Int.ofNat_le
  cases c with
  | net n h d =>
    show ((((decide ((2 : Int) ≤ n) && decide ((n : Int) ≤ 16)) && ((decide ((1 : Int) ≤ h) && decide ((h : Int) ≤ 24)) && ((decide ((0 : Int) ≤ d) && decide ((d : Int) ≤ 99999)) && true)))) && true) = (WrtistSpec.within 2 16 n && (WrtistSpec.within 1 24 h && decide (d ≤ 99999)))
    rw [Bool.eq_iff_iff]
    simp only [Bool.and_eq_true, decide_eq_true_eq, within_iff, and_true]
    omega
  | way a b m w =>
    show ((((decide ((0 : Int) ≤ a) && decide ((a : Int) ≤ 15)) && ((decide ((0 : Int) ≤ b) && decide ((b : Int) ≤ 15)) && ((decide ((1 : Int) ≤ m) && decide ((m : Int) ≤ 600)) && ((decide ((0 : Int) ≤ w) && decide ((w : Int) ≤ 1000)) && true))))) && true) = (decide (a < 16) && (decide (b < 16) && (WrtistSpec.within 1 600 m && decide (w ≤ 1000))))
    rw [Bool.eq_iff_iff]
    simp only [Bool.and_eq_true, decide_eq_true_eq, within_iff, and_true]
    omega
  | wood p k c w d =>
    show ((((decide ((0 : Int) ≤ p) && decide ((p : Int) ≤ 15)) && ((decide ((0 : Int) ≤ k) && decide ((k : Int) ≤ 15)) && ((decide ((0 : Int) ≤ c) && decide ((c : Int) ≤ 1000000000)) && ((decide ((0 : Int) ≤ w) && decide ((w : Int) ≤ 1000)) && ((decide ((0 : Int) ≤ d) && decide ((d : Int) ≤ 99999)) && true)))))) && true) = (decide (p < 16) && (decide (k < 16) && (decide (c ≤ 1000000000) && (decide (w ≤ 1000) && decide (d ≤ 99999)))))
    rw [Bool.eq_iff_iff]
    simp only [Bool.and_eq_true, decide_eq_true_eq, and_true]
    omega
  | table k t r =>
    show ((((decide ((0 : Int) ≤ k) && decide ((k : Int) ≤ 15)) && ((decide ((1 : Int) ≤ t) && decide ((t : Int) ≤ 100)) && true))) && (false || ((decide ((0 : Int) ≤ ((intsN r).length : Int)) && decide (((intsN r).length : Int) ≤ 24)) && (intsN r).all fun z => decide ((0 : Int) ≤ z) && decide (z ≤ 1000)))) = (decide (k < 16) && (WrtistSpec.within 1 100 t && (decide (r.length ≤ 24) && r.all fun (x : Nat) => decide (x ≤ 1000))))
    rw [all_intsN, intsN_len]
    have : (fun n : Nat => decide ((0 : Int) ≤ (n : Int)) && decide ((n : Int) ≤ 1000)) = fun n => decide (n ≤ 1000) := by
      funext n
      rw [nn, Bool.true_and]
      exact dl n 1000
    rw [this]
    generalize List.all r _ = B
    rw [Bool.eq_iff_iff]
    simp only [Bool.and_eq_true, decide_eq_true_eq, within_iff, Bool.false_or, true_and]
    cases B <;> simp <;> omega
  | beetle k d g =>
    show ((((decide ((0 : Int) ≤ k) && decide ((k : Int) ≤ 15)) && ((decide ((0 : Int) ≤ d) && decide ((d : Int) ≤ 400)) && ((decide ((1 : Int) ≤ g) && decide ((g : Int) ≤ 100)) && true)))) && true) = (decide (k < 16) && (decide (d ≤ 400) && WrtistSpec.within 1 100 g))
    rw [Bool.eq_iff_iff]
    simp only [Bool.and_eq_true, decide_eq_true_eq, within_iff, and_true]
    omega
  | done j =>
    show ((((decide ((0 : Int) ≤ j) && decide ((j : Int) ≤ 41)) && true)) && true) = decide (j < 42)
    rw [Bool.eq_iff_iff]
    simp only [Bool.and_eq_true, decide_eq_true_eq, and_true]
    omega
  | undo => rfl
  | state => rfl
  | left => rfl
  | reached => rfl
  | near p =>
    show ((((decide ((0 : Int) ≤ p) && decide ((p : Int) ≤ 15)) && true)) && true) = decide (p < 16)
    rw [Bool.eq_iff_iff]
    simp only [Bool.and_eq_true, decide_eq_true_eq, and_true]
    omega
  | must p =>
    show ((((decide ((0 : Int) ≤ p) && decide ((p : Int) ≤ 15)) && true)) && true) = decide (p < 16)
    rw [Bool.eq_iff_iff]
    simp only [Bool.and_eq_true, decide_eq_true_eq, and_true]
    omega
  | least r =>
    show (true && (false || ((decide ((1 : Int) ≤ ((intsN r).length : Int)) && decide (((intsN r).length : Int) ≤ 16)) && (intsN r).all fun z => decide ((0 : Int) ≤ z) && decide (z ≤ 15)))) = (WrtistSpec.within 1 16 r.length && r.all fun p => decide (p < 16))
    rw [all_intsN, intsN_len]
    have : (fun n : Nat => decide ((0 : Int) ≤ (n : Int)) && decide ((n : Int) ≤ 15)) = fun n => decide (n < 16) := by
      funext n
      rw [nn, Bool.true_and]
      exact decide_eq_decide.mpr (by omega)
    rw [this]
    generalize List.all r _ = B
    rw [Bool.eq_iff_iff]
    simp only [Bool.and_eq_true, decide_eq_true_eq, within_iff, Bool.false_or, true_and]
    cases B <;> simp <;> omega
  | try_ r =>
    show (true && (false || ((decide ((0 : Int) ≤ ((intsN r).length : Int)) && decide (((intsN r).length : Int) ≤ 20)) && (intsN r).all fun z => decide ((0 : Int) ≤ z) && decide (z ≤ 41)))) = (decide (r.length ≤ 20) && r.all fun j => decide (j < 42))
    rw [all_intsN, intsN_len]
    have : (fun n : Nat => decide ((0 : Int) ≤ (n : Int)) && decide ((n : Int) ≤ 41)) = fun n => decide (n < 42) := by
      funext n
      rw [nn, Bool.true_and]
      exact decide_eq_decide.mpr (by omega)
    rw [this]
    generalize List.all r _ = B
    rw [Bool.eq_iff_iff]
    simp only [Bool.and_eq_true, decide_eq_true_eq, Bool.false_or, true_and]
    cases B <;> simp <;> omega
  | best => rfl
  | prove => rfl
  | check r =>
    show (true && (false || ((decide ((1 : Int) ≤ (r.length : Int)) && decide ((r.length : Int) ≤ 64)) && r.all fun z => decide ((-1000000000000000 : Int) ≤ z) && decide (z ≤ 1000000000000000)))) = (WrtistSpec.within 1 64 r.length && r.all fun (z : Int) => decide (-1000000000000000 ≤ z) && decide (z ≤ 1000000000000000))
    generalize List.all r _ = B
    rw [Bool.eq_iff_iff]
    simp only [Bool.and_eq_true, decide_eq_true_eq, within_iff, Bool.false_or, true_and]
    cases B <;> simp <;> omega
  | due p d =>
    show ((((decide ((0 : Int) ≤ p) && decide ((p : Int) ≤ 15)) && ((decide ((0 : Int) ≤ d) && decide ((d : Int) ≤ 99999)) && true))) && true) = (decide (p < 16) && decide (d ≤ 99999))
    rw [Bool.eq_iff_iff]
    simp only [Bool.and_eq_true, decide_eq_true_eq, and_true]
    omega
  | save p d =>
    show ((((decide ((0 : Int) ≤ p) && decide ((p : Int) ≤ 15)) && ((decide ((0 : Int) ≤ d) && decide ((d : Int) ≤ 99999)) && true))) && true) = (decide (p < 16) && decide (d ≤ 99999))
    rw [Bool.eq_iff_iff]
    simp only [Bool.and_eq_true, decide_eq_true_eq, and_true]
    omega
  | struck d =>
    show ((((decide ((0 : Int) ≤ d) && decide ((d : Int) ≤ 99999)) && true)) && true) = decide (d ≤ 99999)
    rw [Bool.eq_iff_iff]
    simp only [Bool.and_eq_true, decide_eq_true_eq, and_true]
    omega
  | whatif h =>
    show ((((decide ((1 : Int) ≤ h) && decide ((h : Int) ≤ 24)) && true)) && true) = WrtistSpec.within 1 24 h
    rw [Bool.eq_iff_iff]
    simp only [Bool.and_eq_true, decide_eq_true_eq, within_iff, and_true]
    omega
/-! ### slices; zip(a list, a tuple) in a loop -/
theorem cut_nat {xs : List V} {i j : Nat} (hj : j ≤ xs.length) (hi : i ≤ j) : cutV xs (some (i : Int)) (some (j : Int)) = (xs.drop i).take (j - i) := by
  unfold cutV
  rw [HT.sIx_nat, HT.sIx_nat, Nat.min_eq_left hj, Nat.min_eq_left (Nat.le_trans hi hj)]
section
variable {K : PySem.W.Frag} {mg : Str → Option Value} {σ : L2.St} {H H' : Hp} {A : OA} {s s' : Office} {ta tb tc te tl td ty tv : TE} {t u : TT} {g : TG} {vs : List Nat} {a p r b : Addr} {xs ys ws : List V} {D : Ends} {tu tz : TS} {v x y : V}
theorem ev_chain {i j k : Int} (ha : Ev ta σ H (.int i)) (hb : Ev tb σ H (.int j)) (hc : Ev tc σ H (.int k)) : Ev (tChain rLe rLe ta tb tc) σ H (.bl (decide (i ≤ j) && decide (j ≤ k))) := fun H1 e Q q =>
  ha H1 e _ fun H2 e2 => hb H2 (e.trans e2) _ fun H3 e3 => ⟨i, j, rfl, rfl, decide (i ≤ j), rfl, by
    by_cases c : decide (i ≤ j) = true
    · rw [if_pos c]
      exact hc H3 ((e.trans e2).trans e3) _ fun H4 e4 => ⟨j, k, rfl, rfl, by
        have := q H4 ((e2.trans e3).trans e4)
        rwa [c, Bool.true_and] at this⟩
    · rw [if_neg c]
      have := q H3 (e2.trans e3)
      rw [show decide (i ≤ j) = false by simpa using c, Bool.false_and] at this
      exact this⟩
theorem walk_zipM : Walk (ItzM K a b) (min xs.length ys.length) (fun H => SqL K H a xs ∧ SqT K H b ys) (YPair (fun i => xs[i]?) (fun i => ys[i]?)) := by
  refine ⟨fun i _ hi q => ?_, fun _ q => ⟨xs, ys, q.1, q.2, rfl⟩, fun i H v H' _ q y => ?_⟩
  · have h1 : i < xs.length := by omega
    have h2 : i < ys.length := by omega
    exact ⟨xs, ys, xs[i], ys[i], q.1, q.2, by simp [h1], by simp [h2]⟩
  · obtain ⟨T, x, z, h1, h2, h3, h4, h5⟩ := y
    exact ⟨T, x, z, h1, h2, h3, h4 xs q.1, h5 ys q.2⟩
/-- for x, (y, z) in zip(a list, a tuple of pairs) -/
theorem q_forZ {ta : TA} {i j k : Nat} {ps : List Addr} {qs : List (List Int)} (h : EvA ta σ H [.ref a, .ref b]) (hx : SqL K H a xs) (hy : ∀ H : Hp, SqT K H b (ps.map V.ref)) (hq : Paired (fun (p : Addr) (q : List Int) => ∀ H : Hp, SqT K H p (q.map V.int)) ps qs) (h2 : ∀ q ∈ qs, q.length = 2)
    (Pv : Nat → L2.St → Hp → Prop) (h0 : ∀ H1, Ex H H1 → Pv 0 σ H1) (hG : ∀ n σ' H', Pv n σ' H' → SqL K H' a xs)
    (hs : ∀ n x q σ' H', xs[n]? = some x → qs[n]? = some q → Pv n σ' H' → ∀ H2, Ex H' H2 → tu { D with nx := Pv (n + 1), ct := Pv (n + 1), bk := tz D } (((σ'.set i (some x)).set j (some (.int (q.getD 0 0)))).set k (some (.int (q.getD 1 0)))) H2)
    (hd : ∀ σ' H', Pv (min xs.length qs.length) σ' H' → tz D σ' H') : tSeq (tFor (iZipM K ta) (gTup K 2 (gCons (gName i) (gCons (gTup K 2 (gCons (gName j) (gCons (gName k) gNil))) gNil))) tu) tz D σ H :=
  h H (Ex.refl H) _ fun H1 e => ⟨a, b, xs, ps.map V.ref, rfl, ex_l e hx, hy H1, for_it (D := { D with nx := tz D }) (walk_zipM (xs := xs) (ys := ps.map V.ref)) Pv (h0 H1 e) (fun n σ' H' _ P => ⟨hG n σ' H' P, hy H'⟩) (fun n x σ' H2 H3 hn P hyp => by
    obtain ⟨T, y1, y2, rfl, hT, rfl, g1, g2⟩ := hyp
    obtain ⟨q', hq', rfl⟩ := refs_get1 g2
    obtain ⟨q, hqn, hqt⟩ := paired_at1 hq hq'
    have hl := h2 q (List.mem_of_getElem? hqn)
    match q, hl, hqn, hqt with
    | [u, w], _, hqn, hqt =>
      exact ⟨T, [y1, .ref q'], rfl, SqT.of upd_same, rfl, y1, [.ref q'], rfl, .ref q', [], rfl, ⟨q', [.int u, .int w], rfl, hqt _, rfl, .int u, [.int w], rfl, .int w, [], rfl, rfl, rfl, hs n y1 [u, w] σ' H2 g1 hqn P _ (Ex.new hT)⟩⟩) (fun σ' H' P => by
    rw [List.length_map, paired_len hq] at P
    exact hd σ' H' P)⟩
end
end Sc
end

section
set_option Elab.async false
set_option linter.all false
set_option maxRecDepth 100000
set_option maxHeartbeats 4000000
namespace Sc
open PySem PySem.Spec PyProof.Rows L2 Evl
open TimStorm (Office Way Wood Table Beetle)
open WrtistSpec (Call does asks right tells no State step)
/-- the line of calls: its office -/
def LnAt (K : PySem.W.Frag) (H : Hp) (L g : Addr) : State → Prop
  | none => ∃ dx, H L = some (.ins (CL K) dx [("office", .non)])
  | some s => ∃ A dx, H L = some (.ins (CL K) dx [("office", .ref A.o)]) ∧ OffAt K H A s ∧ Ok s ∧ OffD A ∧ g ≠ A.ways ∧ g ≠ A.woods ∧ g ≠ A.done
/-- what is known to the object stays -/
def Fz (H H' : Hp) : Prop := ∀ b o u, H b = some (.frz o u) → H' b = some (.frz o u)
theorem Ex.fz {H H' : Hp} (e : Ex H H') : Fz H H' := fun b o u h => e b _ h
theorem Fz.trans {H H1 H2 : Hp} (a : Fz H H1) (b : Fz H1 H2) : Fz H H2 := fun x o u h => b x o u (a x o u h)
theorem Fz.put {H H' : Hp} {r : Addr} {ys zs : List V} (a : Fz H H') (hr : H' r = some (.lst ys)) : Fz H (upd H' r (.lst zs)) := fun b o u h => by
  rw [upd_ne (ne_of (a b o u h) hr (fun z => (nomatch z)))]
  exact a b o u h
theorem LnAt.mono {K : PySem.W.Frag} {H H' : Hp} {L g : Addr} {st : State} (e : Ex H H') (h : LnAt K H L g st) : LnAt K H' L g st := by
  cases st with
  | none =>
    obtain ⟨dx, h⟩ := h
    exact ⟨dx, e _ _ h⟩
  | some s =>
    obtain ⟨A, dx, h1, h2, h3⟩ := h
    exact ⟨A, dx, e _ _ h1, h2.mono e, h3⟩
theorem off_gput {K : PySem.W.Frag} {H : Hp} {A : OA} {s : Office} {g : Addr} {ys zs : List V} (hO : OffAt K H A s) (hg : H g = some (.lst ys)) (g1 : g ≠ A.ways) (g2 : g ≠ A.woods) (g3 : g ≠ A.done) : OffAt K (upd H g (.lst zs)) A s := by
  obtain ⟨⟨dx, o1⟩, ⟨ps, o2, o3⟩, ⟨qs, o2', o3'⟩, ⟨k1, o4, o5, o6⟩, ⟨k2, o7, o8, o9⟩, o10⟩ := hO
  have ni : ∀ C dx fs, HO.lst ys ≠ .ins C dx fs := fun _ _ _ z => (nomatch z)
  have nt : ∀ l, HO.lst ys ≠ .tup l := fun _ z => (nomatch z)
  exact ⟨⟨dx, by rw [upd_ne (ne_of o1 hg (fun z => (nomatch z)))]; exact o1⟩, ⟨ps, by rw [upd_ne (Ne.symm g1)]; exact o2, paired_mono (fun _ _ z => z.put hg ni) o3⟩, ⟨qs, by rw [upd_ne (Ne.symm g2)]; exact o2', paired_mono (fun _ _ z => z.put hg ni) o3'⟩,
    ⟨k1, by rw [upd_ne (ne_of o4 hg (fun z => (nomatch z)))]; exact o4, o5, fun k => tab_put hg nt (o6 k)⟩, ⟨k2, by rw [upd_ne (ne_of o7 hg (fun z => (nomatch z)))]; exact o7, o8, fun k => bee_put hg nt (o9 k)⟩, by rw [upd_ne (Ne.symm g3)]; exact o10⟩
theorem LnAt.put {K : PySem.W.Frag} {H : Hp} {L g : Addr} {st : State} {ys zs : List V} (h : LnAt K H L g st) (hg : H g = some (.lst ys)) : LnAt K (upd H g (.lst zs)) L g st := by
  cases st with
  | none =>
    obtain ⟨dx, h⟩ := h
    exact ⟨dx, by rw [upd_ne (ne_of h hg (fun z => (nomatch z)))]; exact h⟩
  | some s =>
    obtain ⟨A, dx, h1, h2, h3, h4, h5, h6, h7⟩ := h
    exact ⟨A, dx, by rw [upd_ne (ne_of h1 hg (fun z => (nomatch z)))]; exact h1, off_gput h2 hg h5 h6 h7, h3, h4, h5, h6, h7⟩
/-- the list of calls as it was handed in -/
def CalAt (K : PySem.W.Frag) (H : Hp) (r : Addr) (xs : List V) : Prop := (∃ o, H r = some (.frz o (.lst xs))) ∨ ∀ H', SqL K H' r xs
theorem CalAt.sq {K : PySem.W.Frag} {H : Hp} {r : Addr} {xs : List V} (h : CalAt K H r xs) : SqL K H r xs := by
  rcases h with ⟨o, h⟩ | h
  · exact .inl (.inr ⟨o, h⟩)
  · exact h H
theorem CalAt.fz {K : PySem.W.Frag} {H H' : Hp} {r : Addr} {xs : List V} (f : Fz H H') (h : CalAt K H r xs) : CalAt K H' r xs := by
  rcases h with ⟨o, h⟩ | h
  · exact .inl ⟨o, f _ _ _ h⟩
  · exact .inr h
def sp_how_many_numbers (K : PySem.W.Frag) : Sp := fun vs H Q _ => ∃ c : Call, vs = [nv (numOf c)] ∧ RetV (nv (numsOf c).length) H Q
def sp_has_row (K : PySem.W.Frag) : Sp := fun vs H Q _ => ∃ c : Call, vs = [nv (numOf c)] ∧ RetV (.bl (hasRow c)) H Q
def sp_row_fits (K : PySem.W.Frag) : Sp := fun vs H Q _ => ∃ (c : Call) (rl : Addr) (q zs : List Int), vs = [nv (numOf c), .ref rl] ∧ rowQ (numOf c) = some q ∧ q.length = 4 ∧ SqL K H rl (zs.map V.int) ∧ zs.length ≤ 80 ∧ RetV (.bl (rowB q zs)) H Q
def sp_fits (K : PySem.W.Frag) : Sp := fun vs H Q _ => ∃ (c : Call) (nl rl : Addr), vs = [nv (numOf c), .ref nl, .ref rl] ∧ SqL K H nl (nvs (numsOf c)) ∧ SqL K H rl ((rowOf c).map V.int) ∧ (rowOf c).length ≤ 80 ∧ RetV (.bl (right c)) H Q
def sp_row_from (K : PySem.W.Frag) : Sp := fun vs H Q _ => ∃ (r : Addr) (c : Call) (pre post : List Int), vs = [.ref r, nv (numOf c), nv (pre.length + 1 + (numsOf c).length)] ∧ SqL K H r ((pre ++ (encFlat c ++ post)).map V.int) ∧
  RetP (fun v H2 => ∃ q o, v = .ref q ∧ H2 q = some (.tup [.ref o, nv (pre.length + (encFlat c).length)]) ∧ H2 o = some (.lst ((rowOf c).map V.int))) H Q
def sp_answer_of (K : PySem.W.Frag) : Sp := fun vs H Q _ => ∃ (L g nl rl : Addr) (st : State) (c : Call) (gs : List V), vs = [.ref L, nv (numOf c), .ref nl, .ref rl] ∧ LnAt K H L g st ∧ H g = some (.lst gs) ∧ H nl = some (.lst (nvs (numsOf c))) ∧ H rl = some (.lst ((rowOf c).map V.int)) ∧ (rowOf c).length ≤ 80 ∧
  ∀ p H2, H p = none → LnAt K H2 L g (step st c).1 → H2 g = some (.lst gs) → Fz H H2 → H2 p = some (.lst ((ansOf (step st c).2).map V.int)) → Q (.ref p) H2
def sp_answers (K : PySem.W.Frag) : Sp := fun vs H Q _ => ∃ (r : Addr) (ks : List Call), vs = [.ref r] ∧ CalAt K H r ((ks.flatMap encFlat).map V.int) ∧ (∀ k ∈ ks, (rowOf k).length ≤ 80) ∧ (play none ks).length ≤ 10000000 ∧ ∀ p H2, H2 p = some (.lst ((play none ks).map V.int)) → Q (.ref p) H2
theorem sc_how_many_numbers : FnScope ["call"] ["call"] (defScope s_how_many_numbers) := C8.fnScope_by (by decide +kernel)
def t_how_many_numbers (K : PySem.W.Frag) : TS :=
  (tRet (tCB (rLenS K) (tCons (tOp (rIxT K) (tC (.ref (He.ga K "RANGES"))) (tOp rSubI (tVar 0) (tC (.int 1)))) tNil)))
theorem sc_has_row : FnScope ["call"] ["call"] (defScope s_has_row) := C8.fnScope_by (by decide +kernel)
def t_has_row (K : PySem.W.Frag) : TS :=
  (tRet (tOp (rInRows K) (tVar 0) (tC (.ref (He.ga K "ROWS")))))
theorem sc_row_fits : FnScope ["call", "row", "shortest", "longest", "low", "high", "number"] ["call", "row"] (defScope s_row_fits) := C8.fnScope_by (by decide +kernel)
def t_row_fits (K : PySem.W.Frag) : TS :=
  (tSeq (tAsg (tRows K (tVar 0)) (gTup K 4 (gCons (gName 2) (gCons (gName 3) (gCons (gName 4) (gCons (gName 5) gNil))))))
    (tRet (tAndV (tChain rLe rLe (tVar 2) (tCB (rLenS K) (tCons (tVar 1) tNil)) (tVar 3)) (tCB (rAll K) (tCons (tLc (iList K (tVar 1)) (gName 6) tYes (tChain rLe rLe (tVar 4) (tVar 6) (tVar 5)) [6]) tNil)))))
theorem sc_fits : FnScope ["call", "numbers", "row", "number", "low", "high"] ["call", "numbers", "row"] (defScope s_fits) := C8.fnScope_by (by decide +kernel)
def t_fits (K : PySem.W.Frag) : TS :=
  (tSeq (tFor (iZipM K (tCons (tVar 1) (tCons (tOp (rIxT K) (tC (.ref (He.ga K "RANGES"))) (tOp rSubI (tVar 0) (tC (.int 1)))) tNil))) (gTup K 2 (gCons (gName 3) (gCons (gTup K 2 (gCons (gName 4) (gCons (gName 5) gNil))) gNil))) (tIfS (tNot (tTest (tChain rLe rLe (tVar 4) (tVar 3) (tVar 5)))) (tRet (tC (.bl false))) tNext))
    (tRet (tOrV (tNotV (tCall (sp_has_row K) [] C8.E0 (tCons (tVar 0) tNil))) (tCall (sp_row_fits K) [] C8.E0 (tCons (tVar 0) (tCons (tVar 2) tNil))))))
theorem sc_row_from : FnScope ["calls", "call", "at", "behind"] ["calls", "call", "at"] (defScope s_row_from) := C8.fnScope_by (by decide +kernel)
def t_row_from (K : PySem.W.Frag) : TS :=
  (tSeq (tIfS (tNot (tB (tCall (sp_has_row K) [] C8.E0 (tCons (tVar 1) tNil)))) (tRet (tTup (tCons (tLst tNil) (tCons (tVar 2) tNil)))) tNext)
    (tSeq (tAsg (tOp rAddI (tOp rAddI (tVar 2) (tC (.int 1))) (tOp (rIxL K) (tVar 0) (tVar 2))) (gName 3))
    (tRet (tTup (tCons (tSl (rSlL K) (tVar 0) (tPart (tOp rAddI (tVar 2) (tC (.int 1)))) (tPart (tVar 3))) (tCons (tVar 3) tNil))))))
theorem sc_answer_of : FnScope ["line", "call", "numbers", "row", "deed"] ["line", "call", "numbers", "row"] (defScope s_answer_of) := C8.fnScope_by (by decide +kernel)
def t_answer_of (K : PySem.W.Frag) (S : Addr → Option Sp) : TS :=
  (tSeq (tIfS (tNot (tB (tCall (sp_fits K) [] C8.E0 (tCons (tVar 1) (tCons (tVar 2) (tCons (tVar 3) tNil)))))) (tRet (tLst (tCons (tC (.int (-1))) tNil))) tNext)
    (tSeq (tIfS (tTest (tOp rEq (tVar 1) (tC (.int (1))))) (tRet (tCall (sp_net K) [] C8.E0 (tCons (tVar 0) (tCons (tVar 2) tNil)))) tNext)
    (tSeq (tIfS (tTest (tOp rIsN (tFld K (tVar 0) "office") (tC .non))) (tRet (tLst (tCons (tC (.int (-3))) tNil))) tNext)
    (tSeq (tAsg (tOp (rIxT K) (tC (.ref (He.ga K "DEEDS"))) (tOp rSubI (tVar 1) (tC (.int 2)))) (gName 4))
    (tRet (tCallA 4 S (tCons (tFld K (tVar 0) "office") (tCons (tVar 2) (tCons (tVar 3) tNil)))))))))
theorem sc_answers : FnScope ["calls", "line", "given", "at", "call", "behind_numbers", "row", "behind", "answer"] ["calls"] (defScope s_answers) := C8.fnScope_by (by decide +kernel)
def t_answers (K : PySem.W.Frag) : TS :=
  (tSeq (tAsg (tMake (He.ga K "Line") (sp_Line__init__ K) [] C8.E0 tNil) (gName 1))
    (tSeq (tAsg (tLst tNil) (gName 2))
    (tSeq (tAsg (tC (.int 0)) (gName 3))
    (tSeq (tWhile (tTest (tOp rLt (tVar 3) (tCB (rLenS K) (tCons (tVar 0) tNil)))) (tSeq (tAsg (tOp (rIxL K) (tVar 0) (tVar 3)) (gName 4))
    (tSeq (tAsg (tOp rAddI (tOp rAddI (tVar 3) (tC (.int 1))) (tCall (sp_how_many_numbers K) [] C8.E0 (tCons (tVar 4) tNil))) (gName 5))
    (tSeq (tAsg (tCall (sp_row_from K) [] C8.E0 (tCons (tVar 0) (tCons (tVar 4) (tCons (tVar 5) tNil)))) (gTup K 2 (gCons (gName 6) (gCons (gName 7) gNil))))
    (tSeq (tAsg (tCall (sp_answer_of K) [] C8.E0 (tCons (tVar 1) (tCons (tVar 4) (tCons (tSl (rSlL K) (tVar 0) (tPart (tOp rAddI (tVar 3) (tC (.int 1)))) (tPart (tVar 5))) (tCons (tVar 6) tNil))))) (gName 8))
    (tSeq (tDrop (tBM K "list" rAppend (tVar 2) (tCons (tCB (rLenS K) (tCons (tVar 8) tNil)) tNil)))
    (tSeq (tDrop (tBM K "list" rExtend (tVar 2) (tCons (tVar 8) tNil)))
    (tAsg (tVar 7) (gName 3)))))))))
    (tRet (tVar 2))))))
/-! ### the deeds by their names -/
def deedNames : List Str := ["way", "wood", "table", "beetle", "done", "undo", "state", "left", "reached", "near", "must", "least", "try_jobs", "best", "prove", "check", "due", "save", "struck", "whatif"]
def deedSp (K : PySem.W.Frag) : Nat → Sp
  | 0 => sp_way K | 1 => sp_wood K | 2 => sp_table K | 3 => sp_beetle K | 4 => sp_done K | 5 => sp_undo K | 6 => sp_state K | 7 => sp_left K | 8 => sp_reached K | 9 => sp_near K
  | 10 => sp_must K | 11 => sp_least K | 12 => sp_try_jobs K | 13 => sp_best K | 14 => sp_prove K | 15 => sp_check K | 16 => sp_due K | 17 => sp_save K | 18 => sp_struck K | _ => sp_whatif K
def nameAt (K : PySem.W.Frag) (f : Addr) : Option Str := match K.lookup f with
  | some ⟨_, _, .func fd, _⟩ => some fd.name
  | _ => none
def deedS (K : PySem.W.Frag) (f : Addr) : Option Sp := (nameAt K f).bind fun nm => if f = He.ga K nm then (deedNames.idxOf? nm).map (deedSp K) else none
theorem deedS_of {K : PySem.W.Frag} {nm q : Str} {a : Arguments} {b : List Stmt} {sc : Scope} {i : Nat} (h : ∃ fd, FunD K nm q a b sc [] [] (He.ga K nm) fd) (hi : deedNames.idxOf? nm = some i) : deedS K (He.ga K nm) = some (deedSp K i) := by
  obtain ⟨fd, ⟨oc, od, dV, kV, doc, pm, an, cdv, ct, osl, hfd, hlk, _⟩, _⟩ := h
  have hn : nameAt K (He.ga K nm) = some nm := by
    unfold nameAt
    rw [hlk, hfd]
  unfold deedS
  rw [hn, Option.bind_some, if_pos rfl, hi]
  rfl
section
variable {K : PySem.W.Frag} {mg : Str → Option Value}
theorem deed_of (T : Top K mg) (c : Call) (h : numOf c ≠ 1) : ∃ nm mk, deeds[numOf c - 2]? = some (.glo nm) ∧ deedS K (He.ga K nm) = some (sp_deed K mk) ∧ mk c := by
  cases c with
  | net n h' d => exact absurd rfl h
  | way a b m w => exact ⟨_, _, rfl, deedS_of (i := 0) T.d_way (by decide +kernel), a, b, m, w, rfl⟩
  | wood p k z w d => exact ⟨_, _, rfl, deedS_of (i := 1) T.d_wood (by decide +kernel), p, k, z, w, d, rfl⟩
  | table k t r => exact ⟨_, _, rfl, deedS_of (i := 2) T.d_table (by decide +kernel), k, t, r, rfl⟩
  | beetle k d g => exact ⟨_, _, rfl, deedS_of (i := 3) T.d_beetle (by decide +kernel), k, d, g, rfl⟩
  | done j => exact ⟨_, _, rfl, deedS_of (i := 4) T.d_done (by decide +kernel), j, rfl⟩
  | undo => exact ⟨_, _, rfl, deedS_of (i := 5) T.d_undo (by decide +kernel), rfl⟩
  | state => exact ⟨_, _, rfl, deedS_of (i := 6) T.d_state (by decide +kernel), rfl⟩
  | left => exact ⟨_, _, rfl, deedS_of (i := 7) T.d_left (by decide +kernel), rfl⟩
  | reached => exact ⟨_, _, rfl, deedS_of (i := 8) T.d_reached (by decide +kernel), rfl⟩
  | near p => exact ⟨_, _, rfl, deedS_of (i := 9) T.d_near (by decide +kernel), p, rfl⟩
  | must p => exact ⟨_, _, rfl, deedS_of (i := 10) T.d_must (by decide +kernel), p, rfl⟩
  | least l => exact ⟨_, _, rfl, deedS_of (i := 11) T.d_least (by decide +kernel), l, rfl⟩
  | try_ l => exact ⟨_, _, rfl, deedS_of (i := 12) T.d_try_jobs (by decide +kernel), l, rfl⟩
  | best => exact ⟨_, _, rfl, deedS_of (i := 13) T.d_best (by decide +kernel), rfl⟩
  | prove => exact ⟨_, _, rfl, deedS_of (i := 14) T.d_prove (by decide +kernel), rfl⟩
  | check r => exact ⟨_, _, rfl, deedS_of (i := 15) T.d_check (by decide +kernel), r, rfl⟩
  | due p d => exact ⟨_, _, rfl, deedS_of (i := 16) T.d_due (by decide +kernel), p, d, rfl⟩
  | save p d => exact ⟨_, _, rfl, deedS_of (i := 17) T.d_save (by decide +kernel), p, d, rfl⟩
  | struck d => exact ⟨_, _, rfl, deedS_of (i := 18) T.d_struck (by decide +kernel), d, rfl⟩
  | whatif h' => exact ⟨_, _, rfl, deedS_of (i := 19) T.d_whatif (by decide +kernel), h', rfl⟩
theorem rng_at (c : Call) : rangesI[numOf c - 1]? = some (rngOf (numOf c)) := by cases c <;> rfl
section
variable {σ : L2.St} {H : Hp} {ta tb te : TE} {D : Ends} {tz : TS}
theorem s_retCall {sp : Sp} {dvs : List V} {E : XK} {tr : TA} {ws : List V} (h : EvA tr σ H ws) (hs : ∀ H1, Ex H H1 → sp (ws ++ dvs) H1 D.rt E) : tRet (tCall sp dvs E tr) D σ H := h H (Ex.refl H) _ hs
theorem s_retA {S : Addr → Option Sp} {sp : Sp} {i : Nat} {f : Addr} {tr : TA} {ws : List V} (hσ : σ[i]? = some (some (.ref f))) (hS : S f = some sp) (h : EvA tr σ H ws) (hs : ∀ H1, Ex H H1 → sp ws H1 D.rt fun _ _ _ => False) : tRet (tCallA i S tr) D σ H :=
  ⟨f, sp, hσ, hS, h H (Ex.refl H) _ hs⟩
theorem q_asgCall {sp : Sp} {dvs : List V} {E : XK} {tr : TA} {i : Nat} {P : List V → Hp → Prop} (h : EvAP tr σ H P) (hs : ∀ vs H1, Ex H H1 → P vs H1 → sp (vs ++ dvs) H1 (fun v H2 => tz D (σ.set i (some v)) H2) E) : tSeq (tAsg (tCall sp dvs E tr) (gName i)) tz D σ H := h H (Ex.refl H) _ hs
theorem q_asgM {C : Addr} {sp : Sp} {dvs : List V} {E : XK} {tr : TA} {i : Nat} (h : tMake C sp dvs E tr σ H (fun v H2 => tz D (σ.set i (some v)) H2)) : tSeq (tAsg (tMake C sp dvs E tr) (gName i)) tz D σ H := h
theorem q_appB {l : Addr} {xs : List V} {v : V} (hl : H l = some (.lst xs)) (ha : Ev ta σ H (.ref l)) (h : Ev te σ H v) (hz : xs.length < sizeLine) (k : ∀ H1, Ex H H1 → tz D σ (upd H1 l (.lst (xs ++ [v])))) :
    tSeq (tDrop (tBM K "list" rAppend ta (tCons te tNil))) tz D σ H := ha H (Ex.refl H) _ fun H1 e1 =>
  ⟨Or.inl ⟨rfl, xs, sq_of (e1 l _ hl)⟩, h H1 e1 _ fun H2 e2 => ⟨l, xs, v, rfl, rfl, e2 l _ (e1 l _ hl), hz, k H2 (e1.trans e2)⟩⟩
theorem q_ext {l b : Addr} {xs ys : List V} (hl : H l = some (.lst xs)) (hb : H b = some (.lst ys)) (ha : Ev ta σ H (.ref l)) (h : Ev tb σ H (.ref b)) (hz : xs.length + ys.length ≤ sizeLine) (k : ∀ H1, Ex H H1 → tz D σ (upd H1 l (.lst (xs ++ ys)))) :
    tSeq (tDrop (tBM K "list" rExtend ta (tCons tb tNil))) tz D σ H := ha H (Ex.refl H) _ fun H1 e1 =>
  ⟨Or.inl ⟨rfl, xs, sq_of (e1 l _ hl)⟩, h H1 e1 _ fun H2 e2 => ⟨l, b, xs, ys, rfl, rfl, e2 l _ (e1 l _ hl), e2 b _ (e1 b _ hb), hz, k H2 (e1.trans e2)⟩⟩
end
theorem p_how_many_numbers (T : Top K mg) (vs : List V) (H : Hp) (Q : VK) (E : XK) (h : sp_how_many_numbers K vs H Q E) : t_how_many_numbers K { nx := fun _ H' => Q .non H', rt := Q } (start ["call"] vs) H := by
  obtain ⟨c, rfl, q⟩ := h
  obtain ⟨h1, _⟩ := num_bounds c
  obtain ⟨ps, hp, hq⟩ := T.ranges
  obtain ⟨p, hpi, qs, hqs, hqq⟩ := paired_at hq (rng_at c)
  refine s_ret (ev_is (ev_lenT (ev_ixT ev_c (hp H) (ev_sub h1 (ev_var rfl) (ev_nat 1 rfl)) (refs_get hpi)) (hqs H)) ?_) q
  rw [List.length_map, paired_len hqq, rng_len]
theorem v_how_many {H : Hp} (c : Call) : SpV (sp_how_many_numbers K) [nv (numOf c)] H (nv (numsOf c).length) := fun H1 e Q q E => ⟨c, rfl, q⟩
theorem p_has_row (T : Top K mg) (vs : List V) (H : Hp) (Q : VK) (E : XK) (h : sp_has_row K vs H Q E) : t_has_row K { nx := fun _ H' => Q .non H', rt := Q } (start ["call"] vs) H := by
  obtain ⟨c, rfl, q⟩ := h
  refine s_ret (ev_op (y := .ref (He.ga K "ROWS")) (ev_var rfl) ev_c fun H1 e Q k => ⟨_, rfl, rfl, ?_⟩) q
  have : (rowsI.any fun r => decide (r.1 = (numOf c : Int))) = hasRow c := by cases c <;> rfl
  rw [this]
  exact k H1 (Ex.refl _)
theorem v_has_row {H : Hp} (c : Call) : SpV (sp_has_row K) [nv (numOf c)] H (.bl (hasRow c)) := fun H1 e Q q E => ⟨c, rfl, q⟩
theorem p_row_fits (T : Top K mg) (vs : List V) (H : Hp) (Q : VK) (E : XK) (h : sp_row_fits K vs H Q E) : t_row_fits K { nx := fun _ H' => Q .non H', rt := Q } (start ["call", "row", "shortest", "longest", "low", "high", "number"] vs) H := by
  obtain ⟨c, rl, q, zs, rfl, hq, hq4, hr, hz, k⟩ := h
  match q, hq4 with
  | [a, b, d, e], _ =>
    have hev : Ev (tRows K (tVar 0)) (start ["call", "row", "shortest", "longest", "low", "high", "number"] [nv (numOf c), .ref rl]) H .non ∨ True := .inr trivial
    refine q_asgPTx (is := [2, 3, 4, 5]) (P := fun v H1 => ∃ r, v = .ref r ∧ SqT K H1 r ([a, b, d, e].map V.int)) (R := fun us _ => us = [.int a, .int b, .int d, .int e]) (fun H1 e1 Q q => ?_) (fun v H1 e1 hv => ?_) fun us H1 e1 hus => ?_
    · refine ev_var (i := 0) rfl H1 e1 _ fun H2 e2 => ⟨_, [a, b, d, e], rfl, hq, fun r hr => q (.ref r) H2 e2 ⟨r, rfl, hr⟩⟩
    · obtain ⟨r, rfl, hr⟩ := hv
      exact ⟨r, _, rfl, hr, rfl, rfl⟩
    · subst hus
      have hr1 := ex_l e1 hr
      refine s_ret (ev_andV (a := decide (a ≤ (zs.length : Int)) && decide ((zs.length : Int) ≤ b)) (b := zs.all fun z => decide (d ≤ z) && decide (z ≤ e)) (ev_chain (ev_var rfl) (ev_is (ev_lenL (ev_var rfl) hr1) (by rw [List.length_map])) (ev_var rfl)) fun _ => ev_is (ev_all (bs := zs.map fun z => decide (d ≤ z) && decide (z ≤ e)) (by
        rw [List.map_map]
        exact el_lcA zs (fun z => .bl (decide (d ≤ z) && decide (z ≤ e))) V.int (ev_var rfl) hr1 (by omega) (fun _ => rfl) fun z _ H2 _ => ev_chain (ev_var rfl) (ev_var rfl) (ev_var rfl))) (by rw [List.all_map]; rfl)) fun H2 e2 => k H2 (e1.trans e2)
theorem v_row_fits {H : Hp} {c : Call} {rl : Addr} {q zs : List Int} (hq : rowQ (numOf c) = some q) (hq4 : q.length = 4) (hr : SqL K H rl (zs.map V.int)) (hz : zs.length ≤ 80) : SpV (sp_row_fits K) [nv (numOf c), .ref rl] H (.bl (rowB q zs)) := fun H1 e Q k E => ⟨c, rl, q, zs, rfl, hq, hq4, ex_l e hr, hz, k⟩
theorem p_fits (T : Top K mg) (vs : List V) (H : Hp) (Q : VK) (E : XK) (h : sp_fits K vs H Q E) : t_fits K { nx := fun _ H' => Q .non H', rt := Q } (start ["call", "numbers", "row", "number", "low", "high"] vs) H := by
  obtain ⟨c, nl, rl, rfl, hn, hr, hz, q⟩ := h
  rw [← fits_right] at q
  obtain ⟨h1, _⟩ := num_bounds c
  obtain ⟨ps, hp, hq⟩ := T.ranges
  obtain ⟨p, hpi, qs, hqs, hqq⟩ := paired_at hq (rng_at c)
  have h2 : ∀ q ∈ rngOf (numOf c), q.length = 2 := rng_two _ (List.mem_of_getElem? (rng_at c))
  have hlen := rng_len c
  refine q_forZ (i := 3) (j := 4) (k := 5) (xs := nvs (numsOf c)) (ea_cons (ev_var rfl) (ea_cons (ev_ixT ev_c (hp H) (ev_sub h1 (ev_var rfl) (ev_nat 1 rfl)) (refs_get hpi)) ea_nil)) hn hqs hqq h2
    (fun n σ' H' => Ex H H' ∧ ((((intsN (numsOf c)).zip (rngOf (numOf c))).take n).all okN = true) ∧ ∃ v w x, σ' = [some (nv (numOf c)), some (.ref nl), some (.ref rl), v, w, x])
    (fun H1 e1 => ⟨e1, rfl, none, none, none, rfl⟩) (fun n σ' H' P => ex_l P.1 hn) ?_ ?_
  · rintro n x y σ' H' hx hy ⟨p1, p2, v, w, z, rfl⟩ H2 e2
    obtain ⟨a, ha, rfl⟩ := nvs_of hx
    have hzip : ((intsN (numsOf c)).zip (rngOf (numOf c)))[n]? = some ((a : Int), y) := by
      rw [List.getElem?_zip_eq_some]
      refine ⟨?_, hy⟩
      unfold intsN
      rw [List.getElem?_map, ha]
      rfl
    refine s_when (b := !okN ((a : Int), y)) (et_not (et_test (ev_chain (ev_var rfl) (ev_var rfl) (ev_var rfl)))) (fun hb H3 e3 => ?_) (fun hb H3 e3 => ?_)
    · have hf : fitsI (numOf c) (intsN (numsOf c)) (rowOf c) = false := by
        have : ((intsN (numsOf c)).zip (rngOf (numOf c))).all okN = false := by
          rw [← Bool.not_eq_true, List.all_eq_true]
          intro hall
          rw [hall _ (List.mem_of_getElem? hzip)] at hb
          cases hb
        unfold fitsI
        rw [this, Bool.false_and]
      rw [hf] at q
      exact s_ret ev_c fun H4 e4 => q H4 (((p1.trans e2).trans e3).trans e4)
    · refine ⟨(p1.trans e2).trans e3, ?_, _, _, _, rfl⟩
      rw [take_snoc hzip, List.all_append, p2]
      simpa using hb
  · rintro σ' H' ⟨p1, p2, v, w, z, rfl⟩
    have hall : ((intsN (numsOf c)).zip (rngOf (numOf c))).all okN = true := by
      rw [nvs_len, hlen, Nat.min_self, List.take_of_length_le (by rw [List.length_zip, intsN_len, hlen]; omega)] at p2
      exact p2
    unfold fitsI at q
    rw [hall, Bool.true_and, row_has] at q
    refine s_ret (ev_orV (b := rowB ((rowQ (numOf c)).getD []) (rowOf c)) (ev_notV (ev_call (ea_cons (ev_var rfl) ea_nil) (v_has_row c))) fun hb => ?_) fun H1 e1 => q H1 (p1.trans e1)
    have hh : hasRow c = true := by simpa using hb
    obtain ⟨a, b, d, e, h4⟩ := row_four c hh
    rw [h4]
    exact ev_call (ea_cons (ev_var rfl) (ea_cons (ev_var rfl) ea_nil)) (v_row_fits h4 rfl (ex_l p1 hr) hz)
theorem v_fits {H : Hp} {c : Call} {nl rl : Addr} (hn : SqL K H nl (nvs (numsOf c))) (hr : SqL K H rl ((rowOf c).map V.int)) (hz : (rowOf c).length ≤ 80) : SpV (sp_fits K) [nv (numOf c), .ref nl, .ref rl] H (.bl (right c)) := fun H1 e Q q E => ⟨c, nl, rl, rfl, ex_l e hn, ex_l e hr, hz, q⟩
theorem p_row_from (T : Top K mg) (vs : List V) (H : Hp) (Q : VK) (E : XK) (h : sp_row_from K vs H Q E) : t_row_from K { nx := fun _ H' => Q .non H', rt := Q } (start ["calls", "call", "at", "behind"] vs) H := by
  obtain ⟨r, c, pre, post, rfl, hr, q⟩ := h
  have hnl := intsN_len (numsOf c)
  refine q_when (b := !hasRow c) (et_not (et_val (ev_call (ea_cons (ev_var rfl) ea_nil) (v_has_row c)))) (fun hb H1 e1 => ?_) (fun hb H1 e1 => ?_)
  · have hh : hasRow c = false := by simpa using hb
    have hrow : rowOf c = [] := by cases c <;> first | rfl | (cases hh; done)
    have hlen : (encFlat c).length = 1 + (numsOf c).length := by
      unfold encFlat
      rw [hh, if_neg (by decide), List.append_nil, List.length_cons, hnl]
      omega
    refine s_retP (P := fun v H2 => ∃ q o, v = .ref q ∧ H2 q = some (.tup [.ref o, nv (pre.length + (encFlat c).length)]) ∧ H2 o = some (.lst ((rowOf c).map V.int))) (ep_tup (P := fun vs H2 => ∃ o, vs = [.ref o, nv (pre.length + (encFlat c).length)] ∧ H2 o = some (.lst ((rowOf c).map V.int))) (eap_cons (ep_l (el_lst ea_nil (by decide : 0 ≤ 100000))) fun v1 H2 e2 hv1 => eap_cons (ep_ev (ev_var rfl)) fun v2 H3 e3 hv2 => eap_nil fun H4 e4 => ?_) ?_ ?_) fun v H2 e2 hv => q v H2 (e1.trans e2) hv
    · obtain ⟨o, rfl, ho⟩ := hv1
      subst hv2
      refine ⟨o, ?_, by rw [hrow]; exact (e3.trans e4) _ _ ho⟩
      rw [hlen, Nat.add_assoc]
    · rintro vs H2 ⟨o, rfl, _⟩
      exact (by decide : 2 ≤ 100000)
    · rintro vs H2 p _ ⟨o, rfl, ho⟩ hp
      exact ⟨p, o, rfl, upd_same, Ex.new hp _ _ ho⟩
  · have hh : hasRow c = true := by simpa using hb
    have hzs : pre ++ (encFlat c ++ post) = (pre ++ ((numOf c : Int) :: intsN (numsOf c))) ++ ((rowOf c).length : Int) :: (rowOf c ++ post) := by
      unfold encFlat
      rw [hh, if_pos rfl]
      simp
    have hpl : (pre ++ ((numOf c : Int) :: intsN (numsOf c))).length = pre.length + 1 + (numsOf c).length := by
      rw [List.length_append, List.length_cons, hnl]
      omega
    have hlen : (encFlat c).length = 1 + (numsOf c).length + (1 + (rowOf c).length) := by
      unfold encFlat
      rw [hh, if_pos rfl, List.length_cons, List.length_append, List.length_cons, hnl]
      omega
    generalize hat : pre.length + 1 + (numsOf c).length = at_ at hpl
    have hix : ((pre ++ (encFlat c ++ post)).map V.int)[at_]? = some (nv (rowOf c).length) := by
      rw [hzs, List.getElem?_map, ← hpl, List.getElem?_append_right (Nat.le_refl _), Nat.sub_self]
      rfl
    have hzl : ((pre ++ (encFlat c ++ post)).map V.int).length = at_ + 1 + (rowOf c).length + post.length := by
      rw [List.length_map, hzs, List.length_append, hpl, List.length_cons, List.length_append]
      omega
    have hcut : cutV ((pre ++ (encFlat c ++ post)).map V.int) (some ((at_ + 1 : Nat) : Int)) (some ((at_ + 1 + (rowOf c).length : Nat) : Int)) = (rowOf c).map V.int := by
      rw [cut_nat (by omega) (by omega), hzs, ← List.map_drop, ← List.map_take]
      congr 1
      have h1 : ((pre ++ ((numOf c : Int) :: intsN (numsOf c))) ++ ((rowOf c).length : Int) :: (rowOf c ++ post)).drop (at_ + 1) = rowOf c ++ post := by
        rw [← hpl, List.drop_append]
        simp
      rw [h1]
      have h2 : at_ + 1 + (rowOf c).length - (at_ + 1) = (rowOf c).length := by omega
      rw [h2, List.take_left]
    have hr1 := ex_l e1 hr
    refine q_asg (ev_add (ev_add (ev_var rfl) (ev_nat 1 rfl)) (ev_ix (ev_var rfl) hr1 (ev_var rfl) hix)) fun H2 e2 => ?_
    have e12 := e1.trans e2
    have hbe : pre.length + (encFlat c).length = at_ + 1 + (rowOf c).length := by omega
    refine s_retP (P := fun v H2 => ∃ q o, v = .ref q ∧ H2 q = some (.tup [.ref o, nv (pre.length + (encFlat c).length)]) ∧ H2 o = some (.lst ((rowOf c).map V.int))) (ep_tup (P := fun vs H2 => ∃ o, vs = [.ref o, nv (pre.length + (encFlat c).length)] ∧ H2 o = some (.lst ((rowOf c).map V.int))) (eap_cons (ep_l (el_sl (lo := some ((at_ + 1 : Nat) : Int)) (hi := some ((at_ + 1 + (rowOf c).length : Nat) : Int)) (ev_var rfl) (eo_some (ev_add (ev_var rfl) (ev_nat 1 rfl))) (eo_some (ev_var rfl)) (ex_l e12 hr))) fun v1 H3 e3 hv1 => eap_cons (ep_ev (ev_var rfl)) fun v2 H4 e4 hv2 => eap_nil fun H5 e5 => ?_) ?_ ?_) fun v H3 e3 hv => q v H3 (e12.trans e3) hv
    · obtain ⟨o, rfl, ho⟩ := hv1
      subst hv2
      rw [hcut] at ho
      exact ⟨o, by rw [hbe], (e4.trans e5) _ _ ho⟩
    · rintro vs H3 ⟨o, rfl, _⟩
      exact (by decide : 2 ≤ 100000)
    · rintro vs H3 p _ ⟨o, rfl, ho⟩ hp
      exact ⟨p, o, rfl, upd_same, Ex.new hp _ _ ho⟩
theorem v_row_from {H : Hp} {r : Addr} {c : Call} {pre post : List Int} (hr : SqL K H r ((pre ++ (encFlat c ++ post)).map V.int)) : ∀ H1, Ex H H1 → ∀ Q : VK, RetP (fun v H2 => ∃ q o, v = .ref q ∧ H2 q = some (.tup [.ref o, nv (pre.length + (encFlat c).length)]) ∧ H2 o = some (.lst ((rowOf c).map V.int))) H1 Q → ∀ E : XK, sp_row_from K [.ref r, nv (numOf c), nv (pre.length + 1 + (numsOf c).length)] H1 Q E :=
  fun H1 e Q q E => ⟨r, c, pre, post, rfl, ex_l e hr, q⟩
/-- a keep of the office leaves the line, what's given and what's known -/
theorem keep_line {A : OA} {s : Office} {H H2 : Hp} {L g dx : Addr} {gs : List V} (hO : OffAt K H A s) (hk : Keep A H H2) (hL : H L = some (.ins (CL K) dx [("office", .ref A.o)])) (hg : H g = some (.lst gs)) (g1 : g ≠ A.ways) (g2 : g ≠ A.woods) (g3 : g ≠ A.done) :
    H2 L = some (.ins (CL K) dx [("office", .ref A.o)]) ∧ H2 g = some (.lst gs) ∧ Fz H H2 := by
  obtain ⟨⟨d1, o1⟩, ⟨ps, o2, o3⟩, ⟨qs, o2', o3'⟩, ⟨k1, o4, o5, o6⟩, ⟨k2, o7, o8, o9⟩, o10⟩ := hO
  refine ⟨hk _ _ hL (ne_of hL o1 fun z => ?_) (ne_of hL o2 (fun z => (nomatch z))) (ne_of hL o2' (fun z => (nomatch z))) (ne_of hL o4 (fun z => (nomatch z))) (ne_of hL o7 (fun z => (nomatch z))) (ne_of hL o10 (fun z => (nomatch z))),
    hk _ _ hg (ne_of hg o1 (fun z => (nomatch z))) g1 g2 (ne_of hg o4 (fun z => (nomatch z))) (ne_of hg o7 (fun z => (nomatch z))) g3,
    fun b o u h => hk _ _ h (ne_of h o1 (fun z => (nomatch z))) (ne_of h o2 (fun z => (nomatch z))) (ne_of h o2' (fun z => (nomatch z))) (ne_of h o4 (fun z => (nomatch z))) (ne_of h o7 (fun z => (nomatch z))) (ne_of h o10 (fun z => (nomatch z)))⟩
  have := (HO.ins.inj z).2.2
  cases this
theorem step_no {st : State} {c : Call} (h : right c = false) : step st c = (st, no (-1)) := by
  unfold WrtistSpec.step
  rw [if_pos h]
theorem step_net {st : State} {n h d : Nat} (hr : right (.net n h d) = true) : step st (.net n h d) = (some (newO n h d), tells []) := by
  unfold WrtistSpec.step
  rw [if_neg (by rw [hr]; decide)]
  rfl
theorem step_none {c : Call} (hr : right c = true) (h : numOf c ≠ 1) : step none c = (none, no (-3)) := by
  unfold WrtistSpec.step
  rw [if_neg (by rw [hr]; decide)]
  cases c <;> first | rfl | exact absurd rfl h
theorem step_some {s : Office} {c : Call} (hr : right c = true) (h : numOf c ≠ 1) : step (some s) c = (some (does s c).1, (does s c).2) := by
  unfold WrtistSpec.step
  rw [if_neg (by rw [hr]; decide)]
  cases c <;> first | rfl | exact absurd rfl h
theorem p_answer_of (T : Top K mg) (vs : List V) (H : Hp) (Q : VK) (E : XK) (h : sp_answer_of K vs H Q E) : t_answer_of K (deedS K) { nx := fun _ H' => Q .non H', rt := Q } (start ["line", "call", "numbers", "row", "deed"] vs) H := by
  obtain ⟨L, g, nl, rl, st, c, gs, rfl, hL, hg, hn, hr, hz, k⟩ := h
  -- a refusal that changes nothing
  have kno : ∀ z, step st c = (st, no z) → RetL [.int z] H Q := fun z e p H2 hp ex h => by
    rw [e] at k
    exact k p H2 hp (hL.mono ex) (ex _ _ hg) (Ex.fz ex) h
  refine q_when (b := !right c) (et_not (et_val (ev_call (ea_cons (ev_var rfl) (ea_cons (ev_var rfl) (ea_cons (ev_var rfl) ea_nil))) (v_fits (sq_of hn) (sq_of hr) hz)))) (fun hb H1 e1 => ?_) (fun hb H1 e1 => ?_)
  · exact s_no (kno _ (step_no (by simpa using hb))) e1
  have hrt : right c = true := by simpa using hb
  refine q_when (b := decide (numOf c = 1)) (et_test (ev_eqN (ev_var rfl) (ev_nat 1 rfl))) (fun hb H2 e2 => ?_) (fun hb H2 e2 => ?_)
  · have hnet := of_decide_eq_true hb
    have e12 := e1.trans e2
    cases c with
    | net n h' d =>
      rw [step_net hrt] at k
      refine s_retCall (ea_cons (ev_var rfl) (ea_cons (ev_var rfl) ea_nil)) fun H3 e3 => ?_
      have e13 := e12.trans e3
      have hLx : ∃ dx v, H L = some (.ins (CL K) dx [("office", v)]) := by
        cases st with
        | none =>
          obtain ⟨dx, h⟩ := hL
          exact ⟨dx, _, h⟩
        | some s =>
          obtain ⟨A, dx, h, _⟩ := hL
          exact ⟨dx, _, h⟩
      obtain ⟨dx, v, hLx⟩ := hLx
      refine ⟨L, nl, dx, v, n, h', d, rfl, e13 _ _ hLx, e13 _ _ hn, fun p A H4 hp hA hNew hD hO hL4 hB h4 => ?_⟩
      have fr : ∀ b, H3 b = none → H b = none := fun b hb => fresh_back e13 hb
      have hgn : ∀ b, H3 b = none → g ≠ b := fun b hb => by
        rintro rfl
        rw [e13 _ _ hg] at hb
        cases hb
      have hgL : g ≠ L := ne_of hg hLx (fun z => (nomatch z))
      refine k p H4 (fr p hp) ⟨A, dx, hL4, hO, ok_new hrt, hD, hgn _ hNew.w, hgn _ hNew.o, hgn _ hNew.j⟩ (hB _ _ hgL (e13 _ _ hg)) (fun b o u hb => hB _ _ (ne_of hb hLx (fun z => (nomatch z))) (e13 _ _ hb)) h4
    | _ => simp [numOf] at hnet
  · have hnn := of_decide_eq_false hb
    have e12 := e1.trans e2
    cases st with
    | none =>
      obtain ⟨dx, hLx⟩ := hL
      refine q_when (b := true) (et_test (ev_is (ev_isN (ev_fld T.cl_Line T.na_Line_office (ev_var rfl) (e12 _ _ hLx) lk_hd)) (congrArg V.bl (decide_eq_true rfl)))) (fun _ H3 e3 => ?_) (fun hb => by cases hb)
      exact s_no (kno _ (step_none hrt hnn)) (e12.trans e3)
    | some s =>
      obtain ⟨A, dx, hLx, hO, ok, hD, g1, g2, g3⟩ := hL
      refine q_when (b := false) (et_test (ev_is (ev_isN (ev_fld T.cl_Line T.na_Line_office (ev_var rfl) (e12 _ _ hLx) lk_hd)) (congrArg V.bl (decide_eq_false (fun z => (nomatch z)))))) (fun hb => by cases hb) (fun _ H3 e3 => ?_)
      obtain ⟨nm, mk, hd1, hd2, hd3⟩ := deed_of T c hnn
      obtain ⟨hn1, hn2⟩ := num_bounds c
      have hix : (deeds.map (He.Dv.v K))[numOf c - 2]? = some (.ref (He.ga K nm)) := by
        rw [List.getElem?_map, hd1]
        rfl
      refine q_asg (ev_ixT ev_c (T.deeds H3) (ev_sub (by omega) (ev_var rfl) (ev_nat 2 rfl)) hix) fun H4 e4 => ?_
      have e14 := (e12.trans e3).trans e4
      refine s_retA (f := He.ga K nm) rfl hd2 (ea_cons (ev_fld T.cl_Line T.na_Line_office (ev_var rfl) (e14 _ _ hLx) lk_hd) (ea_cons (ev_var rfl) (ea_cons (ev_var rfl) ea_nil))) fun H5 e5 => ?_
      have e15 := e14.trans e5
      have hO5 := hO.mono e15
      rw [step_some hrt hnn] at k
      refine ⟨A, s, nl, rl, c, hd3, hrt, rfl, hO5, ok, e15 _ _ hn, e15 _ _ hr, hD, fun p H6 hp hk hO6 h6 => ?_⟩
      obtain ⟨k1, k2, k3⟩ := keep_line hO5 hk (e15 _ _ hLx) (e15 _ _ hg) g1 g2 g3
      exact k p H6 (fresh_back e15 hp) ⟨A, dx, k1, hO6, ok_does ok hrt, hD, g1, g2, g3⟩ k2 ((Ex.fz e15).trans k3) h6
theorem p_answers (T : Top K mg) (vs : List V) (H : Hp) (Q : VK) (E : XK) (h : sp_answers K vs H Q E) : t_answers K { nx := fun _ H' => Q .non H', rt := Q } (start ["calls", "line", "given", "at", "call", "behind_numbers", "row", "behind", "answer"] vs) H := by
  obtain ⟨r, ks, rfl, hr, hrow, hz, k⟩ := h
  refine q_asgM (mk_intro (us := []) ea_nil fun H1 e1 L dx hL hd hne => ?_)
  refine ⟨L, dx, rfl, upd_same, fun H2 h2 b2 => ⟨rfl, ?_⟩⟩
  have e2 : Ex H H2 := fun b o hb => by
    have hb1 := e1 b o hb
    have hbL : b ≠ L := by rintro rfl; rw [hL] at hb1; cases hb1
    have hbd : b ≠ dx := by rintro rfl; rw [hd] at hb1; cases hb1
    exact b2 b o hbL (by rw [upd_ne hbL, upd_ne hbd]; exact hb1)
  refine q_asgL (xs := []) (el_lst ea_nil (by decide : 0 ≤ 100000)) fun g H3 hg e3 h3 => q_asg (ev_nat 0 rfl) fun H4 e4 => ?_
  have e24 := e3.trans e4
  refine q_while (fun m σ' H' => ∃ (st : State) (js : List Call) (pre gs : List Int), js.length = m ∧ ks.flatMap encFlat = pre ++ js.flatMap encFlat ∧ gs ++ play st js = play none ks ∧ LnAt K H' L g st ∧ H' g = some (.lst (gs.map V.int)) ∧ CalAt K H' r ((ks.flatMap encFlat).map V.int) ∧ (∀ c ∈ js, (rowOf c).length ≤ 80) ∧
      ∃ a b c d e, σ' = [some (.ref r), some (.ref L), some (.ref g), some (nv pre.length), a, b, c, d, e])
    ks.length ⟨none, ks, [], [], rfl, rfl, rfl, ⟨dx, e24 _ _ h2⟩, e4 _ _ h3, hr.fz (Ex.fz (e2.trans e24)), hrow, none, none, none, none, none, rfl⟩ ?_
  rintro m σ' H' ⟨st, js, pre, gs, hm, hzs, hpl, hLn, hg', hc, hrow', a, b, c0, d, e, rfl⟩
  refine ⟨decide (pre.length < (ks.flatMap encFlat).length), et_test (ev_lt (ev_var rfl) (ev_is (ev_lenL (ev_var rfl) hc.sq) (by rw [List.length_map]))), fun hb H5 e5 => ?_, fun hb H5 e5 => ?_⟩
  · have hlt := of_decide_eq_true hb
    cases js with
    | nil =>
      rw [hzs] at hlt
      simp at hlt
    | cons c js =>
      have hm' : js.length + 1 = m := hm
      rw [List.flatMap_cons] at hzs
      have hc5 := hc.fz (Ex.fz e5)
      have hsq : SqL K H5 r ((pre ++ (encFlat c ++ js.flatMap encFlat)).map V.int) := by rw [← hzs]; exact hc5.sq
      have hnl := intsN_len (numsOf c)
      have hix : ((pre ++ (encFlat c ++ js.flatMap encFlat)).map V.int)[pre.length]? = some (nv (numOf c)) := by
        rw [List.getElem?_map, List.getElem?_append_right (Nat.le_refl _), Nat.sub_self]
        rfl
      have hcut : cutV ((pre ++ (encFlat c ++ js.flatMap encFlat)).map V.int) (some ((pre.length + 1 : Nat) : Int)) (some ((pre.length + 1 + (numsOf c).length : Nat) : Int)) = nvs (numsOf c) := by
        have hel : (encFlat c).length ≥ 1 + (numsOf c).length := by
          unfold encFlat
          rw [List.length_cons, List.length_append, hnl]
          omega
        rw [cut_nat (by rw [List.length_map, List.length_append, List.length_append]; omega) (by omega), ← List.map_drop, ← List.map_take, ← ints_nvs]
        congr 1
        have h1 : (pre ++ (encFlat c ++ js.flatMap encFlat)).drop (pre.length + 1) = intsN (numsOf c) ++ ((if hasRow c = true then ((rowOf c).length : Int) :: rowOf c else []) ++ js.flatMap encFlat) := by
          rw [List.drop_append]
          unfold encFlat
          simp
        rw [h1]
        have h2 : pre.length + 1 + (numsOf c).length - (pre.length + 1) = (intsN (numsOf c)).length := by omega
        rw [h2, List.take_left]
      refine ⟨fun σ2 H2 => ∃ m', m' < m ∧ ∃ (st : State) (js : List Call) (pre gs : List Int), js.length = m' ∧ ks.flatMap encFlat = pre ++ js.flatMap encFlat ∧ gs ++ play st js = play none ks ∧ LnAt K H2 L g st ∧ H2 g = some (.lst (gs.map V.int)) ∧ CalAt K H2 r ((ks.flatMap encFlat).map V.int) ∧ (∀ c ∈ js, (rowOf c).length ≤ 80) ∧
        ∃ a b c d e, σ2 = [some (.ref r), some (.ref L), some (.ref g), some (nv pre.length), a, b, c, d, e], fun σ2 H2 h => h, ?_⟩
      refine q_asg (ev_ix (ev_var rfl) hsq (ev_var rfl) hix) fun H6 e6 => ?_
      refine q_asg (ev_add (ev_add (ev_var rfl) (ev_nat 1 rfl)) (ev_call (ea_cons (ev_var rfl) ea_nil) (v_how_many c))) fun H7 e7 => ?_
      have e57 := e6.trans e7
      refine q_asgPTx (is := [6, 7]) (P := fun v H2 => ∃ q o, v = .ref q ∧ H2 q = some (.tup [.ref o, nv (pre.length + (encFlat c).length)]) ∧ H2 o = some (.lst ((rowOf c).map V.int))) (R := fun us H8 => ∃ o, us = [.ref o, nv (pre.length + (encFlat c).length)] ∧ H8 o = some (.lst ((rowOf c).map V.int))) (ep_callG (P := fun vs _ => vs = [.ref r, nv (numOf c), nv (pre.length + 1 + (numsOf c).length)]) (eap_of (ea_cons (ev_var rfl) (ea_cons (ev_var rfl) (ea_cons (ev_var rfl) ea_nil)))) fun vs H8 e8 hvs Q q => ?_) (fun v H8 e8 hv => ?_) fun us H8 e8 hus => ?_
      · subst hvs
        exact v_row_from (ex_l e57 hsq) H8 e8 Q q _
      · obtain ⟨q, o, rfl, hq, ho⟩ := hv
        exact ⟨q, _, rfl, SqT.of hq, rfl, o, rfl, ho⟩
      · obtain ⟨o, rfl, ho⟩ := hus
        have e58 := e57.trans e8
        -- the answer
        refine q_asgCall (P := fun vs H9 => ∃ nl, vs = [.ref L, nv (numOf c), .ref nl, .ref o] ∧ H9 nl = some (.lst (nvs (numsOf c)))) (eap_cons (ep_ev (ev_var rfl)) fun v1 H9 e9 hv1 => eap_cons (ep_ev (ev_var rfl)) fun v2 H10 e10 hv2 => eap_cons (ep_l (el_sl (lo := some ((pre.length + 1 : Nat) : Int)) (hi := some ((pre.length + 1 + (numsOf c).length : Nat) : Int)) (ev_var rfl) (eo_some (ev_add (ev_var rfl) (ev_nat 1 rfl))) (eo_some (ev_var rfl)) (ex_l ((e58.trans e9).trans e10) hsq))) fun v3 H11 e11 hv3 => eap_cons (ep_ev (ev_var rfl)) fun v4 H12 e12 hv4 => eap_nil fun H13 e13 => ?_) fun vs H9 e9 hvs => ?_
        · obtain ⟨nl, rfl, hnl'⟩ := hv3
          rw [hcut] at hnl'
          subst hv1 hv2 hv4
          exact ⟨nl, rfl, (e12.trans e13) _ _ hnl'⟩
        · obtain ⟨nl, rfl, hnl'⟩ := hvs
          have e59 := e58.trans e9
          have hLn9 := hLn.mono (e5.trans e59)
          have hg9 := (e5.trans e59) _ _ hg'
          refine ⟨L, g, nl, o, st, c, _, rfl, hLn9, hg9, hnl', e9 _ _ ho, hrow' c List.mem_cons_self, fun p H10 hp hLn10 hg10 hF h10 => ?_⟩
          have hpg : p ≠ g := by
            rintro rfl
            rw [hg9] at hp
            cases hp
          have hplay : play st (c :: js) = ((ansOf (step st c).2).length : Int) :: (ansOf (step st c).2 ++ play (step st c).1 js) := rfl
          rw [hplay] at hpl
          have hlen : gs.length + 1 + (ansOf (step st c).2).length ≤ 10000000 := by
            have := congrArg List.length hpl
            rw [List.length_append, List.length_cons, List.length_append] at this
            omega
          have hsz : (10000000 : Nat) < sizeLine := by decide
          refine q_appB hg10 (ev_var rfl) (ev_is (ev_lenL (ev_var rfl) (sq_of h10)) (by rw [List.length_map])) (by rw [List.length_map]; omega) fun H11 e11 => ?_
          have h11 : upd H11 g (.lst (gs.map V.int ++ [nv (ansOf (step st c).2).length])) p = some (.lst ((ansOf (step st c).2).map V.int)) := by rw [upd_ne hpg]; exact e11 _ _ h10
          have l11 := (hLn10.mono e11).put (zs := gs.map V.int ++ [nv (ansOf (step st c).2).length]) (e11 _ _ hg10)
          have f11 := ((Ex.fz e59).trans hF).trans ((Ex.fz e11).put (zs := gs.map V.int ++ [nv (ansOf (step st c).2).length]) (e11 _ _ hg10))
          refine q_ext upd_same h11 (ev_var rfl) (ev_var rfl) (by rw [List.length_append, List.length_map, List.length_map]; simp; omega) fun H12 e12 => ?_
          have hg12 := e12 _ _ (upd_same (H := H11) (a := g) (o := .lst (gs.map V.int ++ [nv (ansOf (step st c).2).length])))
          refine s_asg (ev_var rfl) fun H13 e13 => ?_
          have l12 := ((l11.mono e12).put (zs := gs.map V.int ++ [nv (ansOf (step st c).2).length] ++ (ansOf (step st c).2).map V.int) hg12).mono e13
          have f12 := (f11.trans ((Ex.fz e12).put (zs := gs.map V.int ++ [nv (ansOf (step st c).2).length] ++ (ansOf (step st c).2).map V.int) hg12)).trans (Ex.fz e13)
          refine ⟨js.length, by omega, (step st c).1, js, pre ++ encFlat c, gs ++ ((ansOf (step st c).2).length : Int) :: ansOf (step st c).2, rfl, by rw [hzs, List.append_assoc], by rw [← hpl, List.append_assoc]; rfl, l12, ?_, hc5.fz f12, fun j hj => hrow' j (List.mem_cons_of_mem _ hj), some (nv (numOf c)), some (nv (pre.length + 1 + (numsOf c).length)), some (.ref o), some (nv (pre.length + (encFlat c).length)), some (.ref p), ?_⟩
          · rw [e13 _ _ upd_same, List.map_append, List.append_assoc]
            rfl
          · rw [List.length_append]
            rfl
  · have hge := of_decide_eq_false hb
    have : js = [] := by
      cases js with
      | nil => rfl
      | cons c js =>
        exfalso
        rw [hzs, List.length_append, List.flatMap_cons, List.length_append] at hge
        have : 0 < (encFlat c).length := by unfold encFlat; simp
        omega
    subst this
    have hp' : gs = play none ks := by
      rw [← hpl]
      show gs = gs ++ []
      rw [List.append_nil]
    rw [← hp'] at k
    exact s_ret (ev_var rfl) fun H6 e6 => k g H6 ((e5.trans e6) _ _ hg')
end
end Sc
end

section
set_option Elab.async false
set_option linter.all false
set_option maxRecDepth 100000
set_option maxHeartbeats 4000000
namespace Sc
open PySem PySem.Spec PyProof.Rows L2
section
variable {w : World} {K : PySem.W.Frag} {mg : Str → Option Value} {base : Heap} {cdv : Value} {A : Around} {outer : List Env} {s : Shared} {H : Hp} {E : XK} {f : Addr}
theorem pe_mk0 {X : Cx} {k j : Nat} {C : Addr} {x : Str} {sp : Sp} {dvs : List V} {p pos : Pos} (c : C8.Mak X.prog X.w X.K X.mg X.base k x C sp dvs) (hr : Room j X.A) (hk : k + 1 ≤ j) (hg : Gl X x) (hdb : (x == ("__debug__" : Str)) = false := by decide) :
    PE X (.Call (.Name x p) [] [] pos) (tMake C sp dvs C8.E0 tNil) := by
  obtain ⟨f, fd, ps, ds, M, F, hm, b, d⟩ := c.ex
  exact pe_make0 M F (hr.mono hk) hg hm b d C8.pass0 hdb
theorem fun_of {x q : Str} {st : Stmt} {f : Addr} {fd : FuncData} (F : FunD K x q (defArgs st) (defBody st) (defScope st) [] [] f fd) : Fun K x q st f fd := by
  obtain ⟨oc, od, dV, kV, doc, pm, an, cdv, ct, osl, h1, h2, h3, h4, _⟩ := F.ex
  rcases h4 with ⟨_, rfl⟩ | ⟨h, _⟩
  · exact ⟨⟨oc, od, kV, doc, pm, an, cdv, ct, osl, h1, h2, h3⟩, F.kp⟩
  · exact absurd rfl h
theorem held_of {nm : Str} {k : Nat} {sp : Sp} (g : mg nm = some (.ref (He.ga K nm))) (c : C8.Cal R.prog w K mg base k nm sp []) (h : k ≤ 7) : Held R.prog w K mg base 7 (He.ga K nm) sp := by
  obtain ⟨f, fd, ps, ds, F, hm, kp, b, d⟩ := c.ex
  rw [g] at hm
  obtain rfl : He.ga K nm = f := Value.ref.inj (Option.some.inj hm)
  cases d
  exact ⟨⟨fd, ps, F.mono h, kp, b⟩⟩

theorem d_Line__init__ (T : Top K mg) (hr : Room 0 (A.deeper (envOfC "Line.__init__" (defScope s_Line__init__) s.heap.objs.size f cdv))) :
    PSs (cxOf C8.CX0 R.prog w K mg base ["self"] "Line.__init__" (defScope s_Line__init__) f cdv A outer s H E).nox (defBody s_Line__init__) (t_Line__init__ K) := by
  have nd := sc_Line__init__.nd
  have hu := hu_of hr
  exact (pss_one (ps_fld (pv 0) pe_non rfl))
theorem ct_Line__init__ (T : Top K mg) : C8.Mak R.prog w K mg base 1 "Line" (He.ga K "Line") (sp_Line__init__ K) [] := by
  obtain ⟨fd, F⟩ := T.d_Line__init__
  have F := fun_of F
  exact ⟨⟨_, fd, ["self"], [], T.mk_Line, F.ok sc_Line__init__ (fun vs H Q E h => by
    unfold sp_Line__init__ at h
    skip
    repeat (first | (obtain ⟨hv, _⟩ := h; rw [hv]; done) | (obtain ⟨hv, _⟩ := h; rw [hv]; rfl) | (obtain ⟨_, h⟩ := h))) (fun cdv A outer s H vs Q E hr h => ⟨t_Line__init__ K, d_Line__init__ T  hr, p_Line__init__ T vs H Q E h⟩), T.g_Line, F.binds (ps := ["self"]) fun _ _ _ _ _ _ us hl => match us, hl with | [_], _ => rfl, .nil⟩⟩
theorem d_how_many_numbers (T : Top K mg) (hr : Room 0 (A.deeper (envOfC "how_many_numbers" (defScope s_how_many_numbers) s.heap.objs.size f cdv))) :
    PSs (cxOf C8.CX0 R.prog w K mg base ["call"] "how_many_numbers" (defScope s_how_many_numbers) f cdv A outer s H E).nox (defBody s_how_many_numbers) (t_how_many_numbers K) := by
  have nd := sc_how_many_numbers.nd
  have hu := hu_of hr
  exact (pss_one (ps_ret (pe_callB call_len_seq rfl T.f_len (by decide +kernel) (pa_cons (pe_ix ix_tup (C8.pe_gc rfl T.c_RANGES) (pe_op op_sub (pv 0) pe_int) (fun _ _ => rfl)) pa_nil))))
theorem ct_how_many_numbers (T : Top K mg) : C8.Cal R.prog w K mg base 1 "how_many_numbers" (sp_how_many_numbers K) [] := by
  obtain ⟨fd, F⟩ := T.d_how_many_numbers
  have F := fun_of F
  exact ⟨⟨_, fd, ["call"], [], F.ok sc_how_many_numbers (fun vs H Q E h => by
    unfold sp_how_many_numbers at h
    skip
    repeat (first | (obtain ⟨hv, _⟩ := h; rw [hv]; done) | (obtain ⟨hv, _⟩ := h; rw [hv]; rfl) | (obtain ⟨_, h⟩ := h))) (fun cdv A outer s H vs Q E hr h => ⟨t_how_many_numbers K, d_how_many_numbers T  hr, p_how_many_numbers T vs H Q E h⟩), T.g_how_many_numbers, F.kp, F.binds (ps := ["call"]) fun _ _ _ _ _ _ us hl => match us, hl with | [_], _ => rfl, .nil⟩⟩
theorem d_has_row (T : Top K mg) (hr : Room 0 (A.deeper (envOfC "has_row" (defScope s_has_row) s.heap.objs.size f cdv))) :
    PSs (cxOf C8.CX0 R.prog w K mg base ["call"] "has_row" (defScope s_has_row) f cdv A outer s H E).nox (defBody s_has_row) (t_has_row K) := by
  have nd := sc_has_row.nd
  have hu := hu_of hr
  exact (pss_one (ps_ret (pe_cmpR (op_inRows T) (pv 0) (C8.pe_gc rfl T.c_ROWS) rfl)))
theorem ct_has_row (T : Top K mg) : C8.Cal R.prog w K mg base 1 "has_row" (sp_has_row K) [] := by
  obtain ⟨fd, F⟩ := T.d_has_row
  have F := fun_of F
  exact ⟨⟨_, fd, ["call"], [], F.ok sc_has_row (fun vs H Q E h => by
    unfold sp_has_row at h
    skip
    repeat (first | (obtain ⟨hv, _⟩ := h; rw [hv]; done) | (obtain ⟨hv, _⟩ := h; rw [hv]; rfl) | (obtain ⟨_, h⟩ := h))) (fun cdv A outer s H vs Q E hr h => ⟨t_has_row K, d_has_row T  hr, p_has_row T vs H Q E h⟩), T.g_has_row, F.kp, F.binds (ps := ["call"]) fun _ _ _ _ _ _ us hl => match us, hl with | [_], _ => rfl, .nil⟩⟩
theorem d_row_from (T : Top K mg) (c_has_row : C8.Cal R.prog w K mg base 1 "has_row" (sp_has_row K) []) (hr : Room 1 (A.deeper (envOfC "row_from" (defScope s_row_from) s.heap.objs.size f cdv))) :
    PSs (cxOf C8.CX0 R.prog w K mg base ["calls", "call", "at", "behind"] "row_from" (defScope s_row_from) f cdv A outer s H E).nox (defBody s_row_from) (t_row_from K) := by
  have nd := sc_row_from.nd
  have hu := hu_of hr
  exact (pss_cons (ps_if (pt_not (pt_val (C8.pe_c c_has_row hr (by decide) rfl (pa_cons (pv 1) pa_nil)))) (pss_one (ps_ret (pe_tup (pa_cons (pe_lst pa_nil) (pa_cons (pv 2) pa_nil))))) pss_nil)
    (pss_cons (ps_set (i := 3) nd rfl (Or.inl rfl) (pe_op op_add (pe_op op_add (pv 2) pe_int) (pe_ix ix_list (pv 0) (pv 2) (fun _ _ => rfl))))
    (pss_one (ps_ret (pe_tup (pa_cons (pe_slice sl_list (pv 0) (po_some (pe_op op_add (pv 2) pe_int)) (po_some (pv 3))) (pa_cons (pv 3) pa_nil)))))))
theorem ct_row_from (T : Top K mg) : C8.Cal R.prog w K mg base 2 "row_from" (sp_row_from K) [] := by
  obtain ⟨fd, F⟩ := T.d_row_from
  have F := fun_of F
  exact ⟨⟨_, fd, ["calls", "call", "at"], [], F.ok sc_row_from (fun vs H Q E h => by
    unfold sp_row_from at h
    skip
    repeat (first | (obtain ⟨hv, _⟩ := h; rw [hv]; done) | (obtain ⟨hv, _⟩ := h; rw [hv]; rfl) | (obtain ⟨_, h⟩ := h))) (fun cdv A outer s H vs Q E hr h => ⟨t_row_from K, d_row_from T (ct_has_row T) hr, p_row_from T vs H Q E h⟩), T.g_row_from, F.kp, F.binds (ps := ["calls", "call", "at"]) fun _ _ _ _ _ _ us hl => match us, hl with | [_, _, _], _ => rfl, .nil⟩⟩
theorem d_row_fits (T : Top K mg) (hr : Room 0 (A.deeper (envOfC "row_fits" (defScope s_row_fits) s.heap.objs.size f cdv))) :
    PSs (cxOf C8.CX0 R.prog w K mg base ["call", "row", "shortest", "longest", "low", "high", "number"] "row_fits" (defScope s_row_fits) f cdv A outer s H E).nox (defBody s_row_fits) (t_row_fits K) := by
  have nd := sc_row_fits.nd
  have hu := hu_of hr
  exact (pss_cons (ps_asg (pe_ixRows T (pv 0)) (pg_tup rfl (pgs_cons (pg_name (i := 2) nd rfl (Or.inl rfl)) (pgs_cons (pg_name (i := 3) nd rfl (Or.inl rfl)) (pgs_cons (pg_name (i := 4) nd rfl (Or.inr rfl)) (pgs_cons (pg_name (i := 5) nd rfl (Or.inr rfl)) pgs_nil))))))
    (pss_one (ps_ret (pe_and (pe_chain op_le op_le (pv 2) (pe_callB call_len_seq rfl T.f_len (by decide +kernel) (pa_cons (pv 1) pa_nil)) (pv 3)) (pe_one (pe_callB (cr_all rfl) rfl T.f_all (by decide +kernel) (pa_cons (pe_lc (own := [("number", 6)]) (g := (gName 6)) (tt := tYes) rfl nd (pi_list (pv 1)) (blkOk_by (own := [("number", 6)]) (N := ["call", "row", "shortest", "longest", "low", "high", "number"]) (sc := defScope s_row_fits) (by decide +kernel)) (fun _ _ _ _ _ => (pg_name (i := 6) nd rfl (Or.inl rfl))) (fun _ _ _ _ _ => pts_nil) (fun _ _ _ _ _ => (pe_chain op_le op_le (pv 4) (pv 6) (pv 5)))) pa_nil)))))))
theorem ct_row_fits (T : Top K mg) : C8.Cal R.prog w K mg base 1 "row_fits" (sp_row_fits K) [] := by
  obtain ⟨fd, F⟩ := T.d_row_fits
  have F := fun_of F
  exact ⟨⟨_, fd, ["call", "row"], [], F.ok sc_row_fits (fun vs H Q E h => by
    unfold sp_row_fits at h
    skip
    repeat (first | (obtain ⟨hv, _⟩ := h; rw [hv]; done) | (obtain ⟨hv, _⟩ := h; rw [hv]; rfl) | (obtain ⟨_, h⟩ := h))) (fun cdv A outer s H vs Q E hr h => ⟨t_row_fits K, d_row_fits T  hr, p_row_fits T vs H Q E h⟩), T.g_row_fits, F.kp, F.binds (ps := ["call", "row"]) fun _ _ _ _ _ _ us hl => match us, hl with | [_, _], _ => rfl, .nil⟩⟩
theorem d_fits (T : Top K mg) (c_has_row : C8.Cal R.prog w K mg base 1 "has_row" (sp_has_row K) []) (c_row_fits : C8.Cal R.prog w K mg base 1 "row_fits" (sp_row_fits K) []) (hr : Room 1 (A.deeper (envOfC "fits" (defScope s_fits) s.heap.objs.size f cdv))) :
    PSs (cxOf C8.CX0 R.prog w K mg base ["call", "numbers", "row", "number", "low", "high"] "fits" (defScope s_fits) f cdv A outer s H E).nox (defBody s_fits) (t_fits K) := by
  have nd := sc_fits.nd
  have hu := hu_of hr
  exact (pss_cons (ps_for PassesOwn.never rfl (pi_zipM rfl T.f_zip (pa_cons (pv 1) (pa_cons (pe_ix ix_tup (C8.pe_gc rfl T.c_RANGES) (pe_op op_sub (pv 0) pe_int) (fun _ _ => rfl)) pa_nil))) (pg_tup rfl (pgs_cons (pg_name (i := 3) nd rfl (Or.inl rfl)) (pgs_cons (pg_tup rfl (pgs_cons (pg_name (i := 4) nd rfl (Or.inl rfl)) (pgs_cons (pg_name (i := 5) nd rfl (Or.inl rfl)) pgs_nil))) pgs_nil))) (pss_one (ps_if (pt_not (pt_chain op_le op_le (pv 4) (pv 3) (pv 5))) (pss_one (ps_ret pe_bl)) pss_nil)))
    (pss_one (ps_ret (pe_or (pe_not (C8.pe_c c_has_row hr (by decide) rfl (pa_cons (pv 0) pa_nil))) (pe_one (C8.pe_c c_row_fits hr (by decide) rfl (pa_cons (pv 0) (pa_cons (pv 2) pa_nil))))))))
theorem ct_fits (T : Top K mg) : C8.Cal R.prog w K mg base 2 "fits" (sp_fits K) [] := by
  obtain ⟨fd, F⟩ := T.d_fits
  have F := fun_of F
  exact ⟨⟨_, fd, ["call", "numbers", "row"], [], F.ok sc_fits (fun vs H Q E h => by
    unfold sp_fits at h
    skip
    repeat (first | (obtain ⟨hv, _⟩ := h; rw [hv]; done) | (obtain ⟨hv, _⟩ := h; rw [hv]; rfl) | (obtain ⟨_, h⟩ := h))) (fun cdv A outer s H vs Q E hr h => ⟨t_fits K, d_fits T (ct_has_row T) (ct_row_fits T) hr, p_fits T vs H Q E h⟩), T.g_fits, F.kp, F.binds (ps := ["call", "numbers", "row"]) fun _ _ _ _ _ _ us hl => match us, hl with | [_, _, _], _ => rfl, .nil⟩⟩
theorem d_Office__init__ (T : Top K mg) (hr : Room 0 (A.deeper (envOfC "Office.__init__" (defScope s_Office__init__) s.heap.objs.size f cdv))) :
    PSs (cxOf C8.CX0 R.prog w K mg base ["self", "places", "hours_a_day", "first_day"] "Office.__init__" (defScope s_Office__init__) f cdv A outer s H E).nox (defBody s_Office__init__) (t_Office__init__ K) := by
  have nd := sc_Office__init__.nd
  have hu := hu_of hr
  exact (pss_cons (ps_fld (pv 0) (pv 1) rfl)
    (pss_cons (ps_fld (pv 0) (pv 2) rfl)
    (pss_cons (ps_fld (pv 0) (pv 3) rfl)
    (pss_cons (ps_fld (pv 0) (pe_lst pa_nil) rfl)
    (pss_cons (ps_fld (pv 0) (pe_lst pa_nil) rfl)
    (pss_cons (ps_fld (pv 0) pe_dnewK rfl)
    (pss_cons (ps_fld (pv 0) pe_dnewK rfl)
    (pss_one (ps_fld (pv 0) (pe_lst pa_nil) rfl)))))))))
theorem ct_Office__init__ (T : Top K mg) : C8.Mak R.prog w K mg base 1 "Office" (He.ga K "Office") (sp_Office__init__ K) [] := by
  obtain ⟨fd, F⟩ := T.d_Office__init__
  have F := fun_of F
  exact ⟨⟨_, fd, ["self", "places", "hours_a_day", "first_day"], [], T.mk_Office, F.ok sc_Office__init__ (fun vs H Q E h => by
    unfold sp_Office__init__ at h
    skip
    repeat (first | (obtain ⟨hv, _⟩ := h; rw [hv]; done) | (obtain ⟨hv, _⟩ := h; rw [hv]; rfl) | (obtain ⟨_, h⟩ := h))) (fun cdv A outer s H vs Q E hr h => ⟨t_Office__init__ K, d_Office__init__ T  hr, p_Office__init__ T vs H Q E h⟩), T.g_Office, F.binds (ps := ["self", "places", "hours_a_day", "first_day"]) fun _ _ _ _ _ _ us hl => match us, hl with | [_, _, _, _], _ => rfl, .nil⟩⟩
theorem d_net (T : Top K mg) (c_Office__init__ : C8.Mak R.prog w K mg base 1 "Office" (He.ga K "Office") (sp_Office__init__ K) []) (hr : Room 2 (A.deeper (envOfC "net" (defScope s_net) s.heap.objs.size f cdv))) :
    PSs (cxOf C8.CX0 R.prog w K mg base ["line", "numbers", "places", "hours_a_day", "first_day"] "net" (defScope s_net) f cdv A outer s H E).nox (defBody s_net) (t_net K) := by
  have nd := sc_net.nd
  have hu := hu_of hr
  exact (pss_cons (ps_asg (pv 1) (pg_unl rfl (pgs_cons (pg_name (i := 2) nd rfl (Or.inl rfl)) (pgs_cons (pg_name (i := 3) nd rfl (Or.inl rfl)) (pgs_cons (pg_name (i := 4) nd rfl (Or.inl rfl)) pgs_nil)))))
    (pss_cons (ps_fld (pv 0) (C8.pe_mk c_Office__init__ hr (by decide) rfl (pa_cons (pv 2) (pa_cons (pv 3) (pa_cons (pv 4) pa_nil)))) rfl)
    (pss_one (ps_ret (pe_lst (pa_cons pe_int pa_nil))))))
theorem ct_net (T : Top K mg) : C8.Cal R.prog w K mg base 3 "net" (sp_net K) [] := by
  obtain ⟨fd, F⟩ := T.d_net
  have F := fun_of F
  exact ⟨⟨_, fd, ["line", "numbers"], [], F.ok sc_net (fun vs H Q E h => by
    unfold sp_net at h
    skip
    repeat (first | (obtain ⟨hv, _⟩ := h; rw [hv]; done) | (obtain ⟨hv, _⟩ := h; rw [hv]; rfl) | (obtain ⟨_, h⟩ := h))) (fun cdv A outer s H vs Q E hr h => ⟨t_net K, d_net T (ct_Office__init__ T) hr, p_net T vs H Q E h⟩), T.g_net, F.kp, F.binds (ps := ["line", "numbers"]) fun _ _ _ _ _ _ us hl => match us, hl with | [_, _], _ => rfl, .nil⟩⟩
theorem d_Officehas_place (T : Top K mg) (hr : Room 0 (A.deeper (envOfC "Office.has_place" (defScope s_Officehas_place) s.heap.objs.size f cdv))) :
    PSs (cxOf C8.CX0 R.prog w K mg base ["self", "place"] "Office.has_place" (defScope s_Officehas_place) f cdv A outer s H E).nox (defBody s_Officehas_place) (t_Officehas_place K) := by
  have nd := sc_Officehas_place.nd
  have hu := hu_of hr
  exact (pss_one (ps_ret (pe_cmpR op_lt (pv 1) (pe_fld (pv 0) rfl) (nomark _))))
theorem ct_Officehas_place (T : Top K mg) : C8.Met R.prog w K mg base 1 (He.ga K "Office") "has_place" (sp_Officehas_place K) [] := by
  obtain ⟨fd, F⟩ := T.d_Officehas_place
  have F := fun_of F
  exact ⟨⟨_, fd, ["self", "place"], [], T.cl_Office, T.me_Office_has_place, F.ok sc_Officehas_place (fun vs H Q E h => by
    unfold sp_Officehas_place at h
    skip
    repeat (first | (obtain ⟨hv, _⟩ := h; rw [hv]; done) | (obtain ⟨hv, _⟩ := h; rw [hv]; rfl) | (obtain ⟨_, h⟩ := h))) (fun cdv A outer s H vs Q E hr h => ⟨t_Officehas_place K, d_Officehas_place T  hr, p_Officehas_place T vs H Q E h⟩), F.binds (ps := ["self", "place"]) fun _ _ _ _ _ _ us hl => match us, hl with | [_, _], _ => rfl, .nil⟩⟩
theorem d_all_jobs (T : Top K mg) (hr : Room 0 (A.deeper (envOfC "all_jobs" (defScope s_all_jobs) s.heap.objs.size f cdv))) :
    PSs (cxOf C8.CX0 R.prog w K mg base ["office", "ways", "number", "way"] "all_jobs" (defScope s_all_jobs) f cdv A outer s H E).nox (defBody s_all_jobs) (t_all_jobs K) := by
  have nd := sc_all_jobs.nd
  have hu := hu_of hr
  exact (pss_cons (ps_setLc (i := 1) (own := [("number", 2), ("way", 3)]) (g := (gTup K 2 (gCons (gName 2) (gCons (gName 3) gNil)))) (tt := (tTest (tOp rGtI (tFld K (tVar 3) "work") (tC (.int 0))))) rfl nd rfl rfl (sw_true rfl rfl rfl (by decide +kernel)) (pi_enum rfl T.f_enumerate (pa_cons (pe_fld (pv 0) rfl) pa_nil)) (blkOk_by (own := [("number", 2), ("way", 3)]) (N := ["office", "ways", "number", "way"]) (sc := defScope s_all_jobs) (by decide +kernel)) (fun _ _ _ _ _ => (pg_tup rfl (pgs_cons (pg_name (i := 2) nd rfl (Or.inl rfl)) (pgs_cons (pg_name (i := 3) nd rfl (Or.inl rfl)) pgs_nil)))) (fun _ _ _ _ _ => (pts_one (pt_cmpR op_gt (pe_fld (pv 3) rfl) pe_int (nomark _)))) (fun _ _ _ _ _ => (pv 2)))
    (pss_one (ps_ret (pe_op op_cat (pv 1) (pe_lc (own := [("number", 2)]) (g := (gName 2)) (tt := tYes) rfl nd (pi_range1 rfl T.f_range (pa_cons (pe_callB call_len_seq rfl T.f_len (by decide +kernel) (pa_cons (pe_fld (pv 0) rfl) pa_nil)) pa_nil)) (blkOk_by (own := [("number", 2)]) (N := ["office", "ways", "number", "way"]) (sc := defScope s_all_jobs) (by decide +kernel)) (fun _ _ _ _ _ => (pg_name (i := 2) nd rfl (Or.inl rfl))) (fun _ _ _ _ _ => pts_nil) (fun _ _ _ _ _ => (pe_op op_add (C8.pe_gc rfl T.c_FIRST_WOOD) (pv 2))))))))
theorem ct_all_jobs (T : Top K mg) : C8.Cal R.prog w K mg base 1 "all_jobs" (sp_all_jobs K) [] := by
  obtain ⟨fd, F⟩ := T.d_all_jobs
  have F := fun_of F
  exact ⟨⟨_, fd, ["office"], [], F.ok sc_all_jobs (fun vs H Q E h => by
    unfold sp_all_jobs at h
    skip
    repeat (first | (obtain ⟨hv, _⟩ := h; rw [hv]; done) | (obtain ⟨hv, _⟩ := h; rw [hv]; rfl) | (obtain ⟨_, h⟩ := h))) (fun cdv A outer s H vs Q E hr h => ⟨t_all_jobs K, d_all_jobs T  hr, p_all_jobs T vs H Q E h⟩), T.g_all_jobs, F.kp, F.binds (ps := ["office"]) fun _ _ _ _ _ _ us hl => match us, hl with | [_], _ => rfl, .nil⟩⟩
theorem d_Way__init__ (T : Top K mg) (hr : Room 0 (A.deeper (envOfC "Way.__init__" (defScope s_Way__init__) s.heap.objs.size f cdv))) :
    PSs (cxOf C8.CX0 R.prog w K mg base ["self", "a", "b", "minutes", "work"] "Way.__init__" (defScope s_Way__init__) f cdv A outer s H E).nox (defBody s_Way__init__) (t_Way__init__ K) := by
  have nd := sc_Way__init__.nd
  have hu := hu_of hr
  exact (pss_cons (ps_fld (pv 0) (pv 1) rfl)
    (pss_cons (ps_fld (pv 0) (pv 2) rfl)
    (pss_cons (ps_fld (pv 0) (pv 3) rfl)
    (pss_one (ps_fld (pv 0) (pv 4) rfl)))))
theorem ct_Way__init__ (T : Top K mg) : C8.Mak R.prog w K mg base 1 "Way" (He.ga K "Way") (sp_Way__init__ K) [] := by
  obtain ⟨fd, F⟩ := T.d_Way__init__
  have F := fun_of F
  exact ⟨⟨_, fd, ["self", "a", "b", "minutes", "work"], [], T.mk_Way, F.ok sc_Way__init__ (fun vs H Q E h => by
    unfold sp_Way__init__ at h
    skip
    repeat (first | (obtain ⟨hv, _⟩ := h; rw [hv]; done) | (obtain ⟨hv, _⟩ := h; rw [hv]; rfl) | (obtain ⟨_, h⟩ := h))) (fun cdv A outer s H vs Q E hr h => ⟨t_Way__init__ K, d_Way__init__ T  hr, p_Way__init__ T vs H Q E h⟩), T.g_Way, F.binds (ps := ["self", "a", "b", "minutes", "work"]) fun _ _ _ _ _ _ us hl => match us, hl with | [_, _, _, _, _], _ => rfl, .nil⟩⟩
theorem d_way (T : Top K mg) (c_Officehas_place : C8.Met R.prog w K mg base 1 (He.ga K "Office") "has_place" (sp_Officehas_place K) []) (c_all_jobs : C8.Cal R.prog w K mg base 1 "all_jobs" (sp_all_jobs K) []) (c_Way__init__ : C8.Mak R.prog w K mg base 1 "Way" (He.ga K "Way") (sp_Way__init__ K) []) (hr : Room 2 (A.deeper (envOfC "way" (defScope s_way) s.heap.objs.size f cdv))) :
    PSs (cxOf C8.CX0 R.prog w K mg base ["office", "numbers", "row", "a", "b", "minutes", "work"] "way" (defScope s_way) f cdv A outer s H E).nox (defBody s_way) (t_way K) := by
  have nd := sc_way.nd
  have hu := hu_of hr
  exact (pss_cons (ps_asg (pv 1) (pg_unl rfl (pgs_cons (pg_name (i := 3) nd rfl (Or.inl rfl)) (pgs_cons (pg_name (i := 4) nd rfl (Or.inl rfl)) (pgs_cons (pg_name (i := 5) nd rfl (Or.inl rfl)) (pgs_cons (pg_name (i := 6) nd rfl (Or.inl rfl)) pgs_nil))))))
    (pss_cons (ps_if (PW.pt (pw_or (pt_not (pt_val (C8.pe_mt c_Officehas_place hr (by decide) (pv 0) (pa_cons (pv 3) pa_nil)))) (pw_or1 (pt_not (pt_val (C8.pe_mt c_Officehas_place hr (by decide) (pv 0) (pa_cons (pv 4) pa_nil))))))) (pss_one (ps_ret (pe_lst (pa_cons (C8.pe_gc rfl T.c_NOT_THERE) pa_nil)))) pss_nil)
    (pss_cons (ps_if (pt_cmpR op_eq (pv 3) (pv 4) (nomark _)) (pss_one (ps_ret (pe_lst (pa_cons (C8.pe_gc rfl T.c_CANNOT_BE) pa_nil)))) pss_nil)
    (pss_cons (ps_if (PW.pt (pw_or (pt_cmpR op_eq (pe_callB call_len_seq rfl T.f_len (by decide +kernel) (pa_cons (pe_fld (pv 0) rfl) pa_nil)) (C8.pe_gc rfl T.c_MOST_WAYS) (nomark _)) (pw_or1 (PW.pt (pw_and (pt_cmpR op_gt (pv 6) pe_int (nomark _)) (pw_and1 (pt_cmpR op_eq (pe_callB call_len_seq rfl T.f_len (by decide +kernel) (pa_cons (C8.pe_c c_all_jobs hr (by decide) rfl (pa_cons (pv 0) pa_nil)) pa_nil)) (C8.pe_gc rfl T.c_MOST_JOBS) (nomark _)))))))) (pss_one (ps_ret (pe_lst (pa_cons (C8.pe_gc rfl T.c_FULL) pa_nil)))) pss_nil)
    (pss_cons (ps_expr (pe_bm PySem.F.plainAttrs_list PySem.F.slot_list_append PySem.F.type_list_append mt_append (pe_fld (pv 0) rfl) (pa_cons (C8.pe_mk c_Way__init__ hr (by decide) rfl (pa_cons (pv 3) (pa_cons (pv 4) (pa_cons (pv 5) (pa_cons (pv 6) pa_nil))))) pa_nil)))
    (pss_one (ps_ret (pe_lst (pa_cons pe_int (pa_cons (pe_op op_sub (pe_callB call_len_seq rfl T.f_len (by decide +kernel) (pa_cons (pe_fld (pv 0) rfl) pa_nil)) pe_int) pa_nil))))))))))
theorem ct_way (T : Top K mg) : C8.Cal R.prog w K mg base 3 "way" (sp_way K) [] := by
  obtain ⟨fd, F⟩ := T.d_way
  have F := fun_of F
  exact ⟨⟨_, fd, ["office", "numbers", "row"], [], F.ok sc_way (fun vs H Q E h => by
    unfold sp_way at h
    unfold sp_deed at h
    repeat (first | (obtain ⟨hv, _⟩ := h; rw [hv]; done) | (obtain ⟨hv, _⟩ := h; rw [hv]; rfl) | (obtain ⟨_, h⟩ := h))) (fun cdv A outer s H vs Q E hr h => ⟨t_way K, d_way T (ct_Officehas_place T) (ct_all_jobs T) (ct_Way__init__ T) hr, p_way T vs H Q E h⟩), T.g_way, F.kp, F.binds (ps := ["office", "numbers", "row"]) fun _ _ _ _ _ _ us hl => match us, hl with | [_, _, _], _ => rfl, .nil⟩⟩
theorem d_day_after (T : Top K mg) (hr : Room 0 (A.deeper (envOfC "day_after" (defScope s_day_after) s.heap.objs.size f cdv))) :
    PSs (cxOf C8.CX0 R.prog w K mg base ["office", "hours_a_day", "hours"] "day_after" (defScope s_day_after) f cdv A outer s H E).nox (defBody s_day_after) (t_day_after K) := by
  have nd := sc_day_after.nd
  have hu := hu_of hr
  exact (pss_one (ps_ret (pe_op op_add (pe_fld (pv 0) rfl) (pe_op op_fdiv (pe_callB (call_max2 rfl) rfl T.f_max (by decide +kernel) (pa_cons (pe_op op_sub (pv 2) pe_int) (pa_cons pe_int pa_nil))) (pv 1)))))
theorem ct_day_after (T : Top K mg) : C8.Cal R.prog w K mg base 1 "day_after" (sp_day_after K) [] := by
  obtain ⟨fd, F⟩ := T.d_day_after
  have F := fun_of F
  exact ⟨⟨_, fd, ["office", "hours_a_day", "hours"], [], F.ok sc_day_after (fun vs H Q E h => by
    unfold sp_day_after at h
    skip
    repeat (first | (obtain ⟨hv, _⟩ := h; rw [hv]; done) | (obtain ⟨hv, _⟩ := h; rw [hv]; rfl) | (obtain ⟨_, h⟩ := h))) (fun cdv A outer s H vs Q E hr h => ⟨t_day_after K, d_day_after T  hr, p_day_after T vs H Q E h⟩), T.g_day_after, F.kp, F.binds (ps := ["office", "hours_a_day", "hours"]) fun _ _ _ _ _ _ us hl => match us, hl with | [_, _, _], _ => rfl, .nil⟩⟩
theorem d_work_of (T : Top K mg) (hr : Room 0 (A.deeper (envOfC "work_of" (defScope s_work_of) s.heap.objs.size f cdv))) :
    PSs (cxOf C8.CX0 R.prog w K mg base ["office", "job"] "work_of" (defScope s_work_of) f cdv A outer s H E).nox (defBody s_work_of) (t_work_of K) := by
  have nd := sc_work_of.nd
  have hu := hu_of hr
  exact (pss_cons (ps_if (pt_cmpR op_lt (pv 1) (C8.pe_gc rfl T.c_FIRST_WOOD) (nomark _)) (pss_one (ps_ret (pe_fld (pe_ix ix_list (pe_fld (pv 0) rfl) (pv 1) (fun _ _ => rfl)) rfl))) pss_nil)
    (pss_one (ps_ret (pe_fld (pe_ix ix_list (pe_fld (pv 0) rfl) (pe_op op_sub (pv 1) (C8.pe_gc rfl T.c_FIRST_WOOD)) (fun _ _ => rfl)) rfl))))
theorem ct_work_of (T : Top K mg) : C8.Cal R.prog w K mg base 1 "work_of" (sp_work_of K) [] := by
  obtain ⟨fd, F⟩ := T.d_work_of
  have F := fun_of F
  exact ⟨⟨_, fd, ["office", "job"], [], F.ok sc_work_of (fun vs H Q E h => by
    unfold sp_work_of at h
    skip
    repeat (first | (obtain ⟨hv, _⟩ := h; rw [hv]; done) | (obtain ⟨hv, _⟩ := h; rw [hv]; rfl) | (obtain ⟨_, h⟩ := h))) (fun cdv A outer s H vs Q E hr h => ⟨t_work_of K, d_work_of T  hr, p_work_of T vs H Q E h⟩), T.g_work_of, F.kp, F.binds (ps := ["office", "job"]) fun _ _ _ _ _ _ us hl => match us, hl with | [_, _], _ => rfl, .nil⟩⟩
theorem d_hours_of (T : Top K mg) (c_work_of : C8.Cal R.prog w K mg base 1 "work_of" (sp_work_of K) []) (hr : Room 1 (A.deeper (envOfC "hours_of" (defScope s_hours_of) s.heap.objs.size f cdv))) :
    PSs (cxOf C8.CX0 R.prog w K mg base ["office", "jobs", "job"] "hours_of" (defScope s_hours_of) f cdv A outer s H E).nox (defBody s_hours_of) (t_hours_of K) := by
  have nd := sc_hours_of.nd
  have hu := hu_of hr
  exact (pss_one (ps_ret (pe_callB (cr_sum rfl) rfl T.f_sum (by decide +kernel) (pa_cons (pe_lc (own := [("job", 2)]) (g := (gName 2)) (tt := tYes) rfl nd (pi_list (pv 1)) (blkOk_by (own := [("job", 2)]) (N := ["office", "jobs", "job"]) (sc := defScope s_hours_of) (by decide +kernel)) (fun _ _ _ _ _ => (pg_name (i := 2) nd rfl (Or.inl rfl))) (fun _ _ _ _ _ => pts_nil) (fun _ _ _ _ _ => (C8.pe_c c_work_of hr (by decide) rfl (pa_cons (pv 0) (pa_cons (pv 2) pa_nil))))) pa_nil))))
theorem ct_hours_of (T : Top K mg) : C8.Cal R.prog w K mg base 2 "hours_of" (sp_hours_of K) [] := by
  obtain ⟨fd, F⟩ := T.d_hours_of
  have F := fun_of F
  exact ⟨⟨_, fd, ["office", "jobs"], [], F.ok sc_hours_of (fun vs H Q E h => by
    unfold sp_hours_of at h
    skip
    repeat (first | (obtain ⟨hv, _⟩ := h; rw [hv]; done) | (obtain ⟨hv, _⟩ := h; rw [hv]; rfl) | (obtain ⟨_, h⟩ := h))) (fun cdv A outer s H vs Q E hr h => ⟨t_hours_of K, d_hours_of T (ct_work_of T) hr, p_hours_of T vs H Q E h⟩), T.g_hours_of, F.kp, F.binds (ps := ["office", "jobs"]) fun _ _ _ _ _ _ us hl => match us, hl with | [_, _], _ => rfl, .nil⟩⟩
theorem d_day_now (T : Top K mg) (c_day_after : C8.Cal R.prog w K mg base 1 "day_after" (sp_day_after K) []) (c_hours_of : C8.Cal R.prog w K mg base 2 "hours_of" (sp_hours_of K) []) (hr : Room 2 (A.deeper (envOfC "day_now" (defScope s_day_now) s.heap.objs.size f cdv))) :
    PSs (cxOf C8.CX0 R.prog w K mg base ["office"] "day_now" (defScope s_day_now) f cdv A outer s H E).nox (defBody s_day_now) (t_day_now K) := by
  have nd := sc_day_now.nd
  have hu := hu_of hr
  exact (pss_one (ps_ret (C8.pe_c c_day_after hr (by decide) rfl (pa_cons (pv 0) (pa_cons (pe_fld (pv 0) rfl) (pa_cons (C8.pe_c c_hours_of hr (by decide) rfl (pa_cons (pv 0) (pa_cons (pe_fld (pv 0) rfl) pa_nil))) pa_nil))))))
theorem ct_day_now (T : Top K mg) : C8.Cal R.prog w K mg base 3 "day_now" (sp_day_now K) [] := by
  obtain ⟨fd, F⟩ := T.d_day_now
  have F := fun_of F
  exact ⟨⟨_, fd, ["office"], [], F.ok sc_day_now (fun vs H Q E h => by
    unfold sp_day_now at h
    skip
    repeat (first | (obtain ⟨hv, _⟩ := h; rw [hv]; done) | (obtain ⟨hv, _⟩ := h; rw [hv]; rfl) | (obtain ⟨_, h⟩ := h))) (fun cdv A outer s H vs Q E hr h => ⟨t_day_now K, d_day_now T (ct_day_after T) (ct_hours_of T) hr, p_day_now T vs H Q E h⟩), T.g_day_now, F.kp, F.binds (ps := ["office"]) fun _ _ _ _ _ _ us hl => match us, hl with | [_], _ => rfl, .nil⟩⟩
theorem d_Wood__init__ (T : Top K mg) (hr : Room 0 (A.deeper (envOfC "Wood.__init__" (defScope s_Wood__init__) s.heap.objs.size f cdv))) :
    PSs (cxOf C8.CX0 R.prog w K mg base ["self", "place", "kind", "cents", "work", "day"] "Wood.__init__" (defScope s_Wood__init__) f cdv A outer s H E).nox (defBody s_Wood__init__) (t_Wood__init__ K) := by
  have nd := sc_Wood__init__.nd
  have hu := hu_of hr
  exact (pss_cons (ps_fld (pv 0) (pv 1) rfl)
    (pss_cons (ps_fld (pv 0) (pv 2) rfl)
    (pss_cons (ps_fld (pv 0) (pv 3) rfl)
    (pss_cons (ps_fld (pv 0) (pv 4) rfl)
    (pss_one (ps_fld (pv 0) (pv 5) rfl))))))
theorem ct_Wood__init__ (T : Top K mg) : C8.Mak R.prog w K mg base 1 "Wood" (He.ga K "Wood") (sp_Wood__init__ K) [] := by
  obtain ⟨fd, F⟩ := T.d_Wood__init__
  have F := fun_of F
  exact ⟨⟨_, fd, ["self", "place", "kind", "cents", "work", "day"], [], T.mk_Wood, F.ok sc_Wood__init__ (fun vs H Q E h => by
    unfold sp_Wood__init__ at h
    skip
    repeat (first | (obtain ⟨hv, _⟩ := h; rw [hv]; done) | (obtain ⟨hv, _⟩ := h; rw [hv]; rfl) | (obtain ⟨_, h⟩ := h))) (fun cdv A outer s H vs Q E hr h => ⟨t_Wood__init__ K, d_Wood__init__ T  hr, p_Wood__init__ T vs H Q E h⟩), T.g_Wood, F.binds (ps := ["self", "place", "kind", "cents", "work", "day"]) fun _ _ _ _ _ _ us hl => match us, hl with | [_, _, _, _, _, _], _ => rfl, .nil⟩⟩
theorem d_wood (T : Top K mg) (c_Officehas_place : C8.Met R.prog w K mg base 1 (He.ga K "Office") "has_place" (sp_Officehas_place K) []) (c_day_now : C8.Cal R.prog w K mg base 3 "day_now" (sp_day_now K) []) (c_all_jobs : C8.Cal R.prog w K mg base 1 "all_jobs" (sp_all_jobs K) []) (c_Wood__init__ : C8.Mak R.prog w K mg base 1 "Wood" (He.ga K "Wood") (sp_Wood__init__ K) []) (hr : Room 3 (A.deeper (envOfC "wood" (defScope s_wood) s.heap.objs.size f cdv))) :
    PSs (cxOf C8.CX0 R.prog w K mg base ["office", "numbers", "row", "place", "kind", "cents", "work", "day"] "wood" (defScope s_wood) f cdv A outer s H E).nox (defBody s_wood) (t_wood K) := by
  have nd := sc_wood.nd
  have hu := hu_of hr
  exact (pss_cons (ps_asg (pv 1) (pg_unl rfl (pgs_cons (pg_name (i := 3) nd rfl (Or.inl rfl)) (pgs_cons (pg_name (i := 4) nd rfl (Or.inl rfl)) (pgs_cons (pg_name (i := 5) nd rfl (Or.inl rfl)) (pgs_cons (pg_name (i := 6) nd rfl (Or.inl rfl)) (pgs_cons (pg_name (i := 7) nd rfl (Or.inl rfl)) pgs_nil)))))))
    (pss_cons (ps_if (pt_not (pt_val (C8.pe_mt c_Officehas_place hr (by decide) (pv 0) (pa_cons (pv 3) pa_nil)))) (pss_one (ps_ret (pe_lst (pa_cons (C8.pe_gc rfl T.c_NOT_THERE) pa_nil)))) pss_nil)
    (pss_cons (ps_if (pt_cmpR op_gt (pv 7) (C8.pe_c c_day_now hr (by decide) rfl (pa_cons (pv 0) pa_nil)) (nomark _)) (pss_one (ps_ret (pe_lst (pa_cons (C8.pe_gc rfl T.c_CANNOT_BE) pa_nil)))) pss_nil)
    (pss_cons (ps_if (pt_cmpR op_eq (pe_callB call_len_seq rfl T.f_len (by decide +kernel) (pa_cons (C8.pe_c c_all_jobs hr (by decide) rfl (pa_cons (pv 0) pa_nil)) pa_nil)) (C8.pe_gc rfl T.c_MOST_JOBS) (nomark _)) (pss_one (ps_ret (pe_lst (pa_cons (C8.pe_gc rfl T.c_FULL) pa_nil)))) pss_nil)
    (pss_cons (ps_expr (pe_bm PySem.F.plainAttrs_list PySem.F.slot_list_append PySem.F.type_list_append mt_append (pe_fld (pv 0) rfl) (pa_cons (C8.pe_mk c_Wood__init__ hr (by decide) rfl (pa_cons (pv 3) (pa_cons (pv 4) (pa_cons (pv 5) (pa_cons (pv 6) (pa_cons (pv 7) pa_nil)))))) pa_nil)))
    (pss_one (ps_ret (pe_lst (pa_cons pe_int (pa_cons (pe_op op_sub (pe_op op_add (C8.pe_gc rfl T.c_FIRST_WOOD) (pe_callB call_len_seq rfl T.f_len (by decide +kernel) (pa_cons (pe_fld (pv 0) rfl) pa_nil))) pe_int) pa_nil))))))))))
theorem ct_wood (T : Top K mg) : C8.Cal R.prog w K mg base 4 "wood" (sp_wood K) [] := by
  obtain ⟨fd, F⟩ := T.d_wood
  have F := fun_of F
  exact ⟨⟨_, fd, ["office", "numbers", "row"], [], F.ok sc_wood (fun vs H Q E h => by
    unfold sp_wood at h
    unfold sp_deed at h
    repeat (first | (obtain ⟨hv, _⟩ := h; rw [hv]; done) | (obtain ⟨hv, _⟩ := h; rw [hv]; rfl) | (obtain ⟨_, h⟩ := h))) (fun cdv A outer s H vs Q E hr h => ⟨t_wood K, d_wood T (ct_Officehas_place T) (ct_day_now T) (ct_all_jobs T) (ct_Wood__init__ T) hr, p_wood T vs H Q E h⟩), T.g_wood, F.kp, F.binds (ps := ["office", "numbers", "row"]) fun _ _ _ _ _ _ us hl => match us, hl with | [_, _, _], _ => rfl, .nil⟩⟩
theorem d_table (T : Top K mg) (hr : Room 0 (A.deeper (envOfC "table" (defScope s_table) s.heap.objs.size f cdv))) :
    PSs (cxOf C8.CX0 R.prog w K mg base ["office", "numbers", "row", "kind", "step"] "table" (defScope s_table) f cdv A outer s H E).nox (defBody s_table) (t_table K) := by
  have nd := sc_table.nd
  have hu := hu_of hr
  exact (pss_cons (ps_asg (pv 1) (pg_unl rfl (pgs_cons (pg_name (i := 3) nd rfl (Or.inl rfl)) (pgs_cons (pg_name (i := 4) nd rfl (Or.inl rfl)) pgs_nil))))
    (pss_cons (ps_if (pt_cmpR (op_neD hr.units) (pv 2) (pe_callB cr_sorted rfl T.f_sorted (by decide +kernel) (pa_cons (pv 2) pa_nil)) (nomark _)) (pss_one (ps_ret (pe_lst (pa_cons (C8.pe_gc rfl T.c_CANNOT_BE) pa_nil)))) pss_nil)
    (pss_cons (ps_dput hu (pe_fld (pv 0) rfl) (pv 3) (pe_tup (pa_cons (pv 4) (pa_cons (pe_callTy call_tuple_of rfl T.f_tuple (by decide +kernel) (pa_cons (pv 2) pa_nil)) pa_nil))) rfl)
    (pss_one (ps_ret (pe_lst (pa_cons pe_int pa_nil)))))))
theorem ct_table (T : Top K mg) : C8.Cal R.prog w K mg base 1 "table" (sp_table K) [] := by
  obtain ⟨fd, F⟩ := T.d_table
  have F := fun_of F
  exact ⟨⟨_, fd, ["office", "numbers", "row"], [], F.ok sc_table (fun vs H Q E h => by
    unfold sp_table at h
    unfold sp_deed at h
    repeat (first | (obtain ⟨hv, _⟩ := h; rw [hv]; done) | (obtain ⟨hv, _⟩ := h; rw [hv]; rfl) | (obtain ⟨_, h⟩ := h))) (fun cdv A outer s H vs Q E hr h => ⟨t_table K, d_table T  hr, p_table T vs H Q E h⟩), T.g_table, F.kp, F.binds (ps := ["office", "numbers", "row"]) fun _ _ _ _ _ _ us hl => match us, hl with | [_, _, _], _ => rfl, .nil⟩⟩
theorem d_beetle (T : Top K mg) (hr : Room 0 (A.deeper (envOfC "beetle" (defScope s_beetle) s.heap.objs.size f cdv))) :
    PSs (cxOf C8.CX0 R.prog w K mg base ["office", "numbers", "row", "kind", "days", "days_over"] "beetle" (defScope s_beetle) f cdv A outer s H E).nox (defBody s_beetle) (t_beetle K) := by
  have nd := sc_beetle.nd
  have hu := hu_of hr
  exact (pss_cons (ps_asg (pv 1) (pg_unl rfl (pgs_cons (pg_name (i := 3) nd rfl (Or.inl rfl)) (pgs_cons (pg_name (i := 4) nd rfl (Or.inl rfl)) (pgs_cons (pg_name (i := 5) nd rfl (Or.inl rfl)) pgs_nil)))))
    (pss_cons (ps_dput hu (pe_fld (pv 0) rfl) (pv 3) (pe_tup (pa_cons (pv 4) (pa_cons (pv 5) pa_nil))) rfl)
    (pss_one (ps_ret (pe_lst (pa_cons pe_int pa_nil))))))
theorem ct_beetle (T : Top K mg) : C8.Cal R.prog w K mg base 1 "beetle" (sp_beetle K) [] := by
  obtain ⟨fd, F⟩ := T.d_beetle
  have F := fun_of F
  exact ⟨⟨_, fd, ["office", "numbers", "row"], [], F.ok sc_beetle (fun vs H Q E h => by
    unfold sp_beetle at h
    unfold sp_deed at h
    repeat (first | (obtain ⟨hv, _⟩ := h; rw [hv]; done) | (obtain ⟨hv, _⟩ := h; rw [hv]; rfl) | (obtain ⟨_, h⟩ := h))) (fun cdv A outer s H vs Q E hr h => ⟨t_beetle K, d_beetle T  hr, p_beetle T vs H Q E h⟩), T.g_beetle, F.kp, F.binds (ps := ["office", "numbers", "row"]) fun _ _ _ _ _ _ us hl => match us, hl with | [_, _, _], _ => rfl, .nil⟩⟩
end
end Sc
end

section
set_option Elab.async false
set_option linter.all false
set_option maxRecDepth 100000
set_option maxHeartbeats 4000000
namespace Sc
open PySem PySem.Spec PyProof.Rows L2
section
variable {w : World} {K : PySem.W.Frag} {mg : Str → Option Value} {base : Heap} {cdv : Value} {A : Around} {outer : List Env} {s : Shared} {H : Hp} {E : XK} {f : Addr}

theorem d_is_job (T : Top K mg) (hr : Room 0 (A.deeper (envOfC "is_job" (defScope s_is_job) s.heap.objs.size f cdv))) :
    PSs (cxOf C8.CX0 R.prog w K mg base ["office", "job"] "is_job" (defScope s_is_job) f cdv A outer s H E).nox (defBody s_is_job) (t_is_job K) := by
  have nd := sc_is_job.nd
  have hu := hu_of hr
  exact (pss_cons (ps_if (pt_cmpR op_lt (pv 1) (C8.pe_gc rfl T.c_FIRST_WOOD) (nomark _)) (pss_one (ps_ret (pe_and (pe_cmpR op_lt (pv 1) (pe_callB call_len_seq rfl T.f_len (by decide +kernel) (pa_cons (pe_fld (pv 0) rfl) pa_nil)) (nomark _)) (pe_one (pe_cmpR op_gt (pe_fld (pe_ix ix_list (pe_fld (pv 0) rfl) (pv 1) (fun _ _ => rfl)) rfl) pe_int (nomark _)))))) pss_nil)
    (pss_one (ps_ret (pe_cmpR op_lt (pe_op op_sub (pv 1) (C8.pe_gc rfl T.c_FIRST_WOOD)) (pe_callB call_len_seq rfl T.f_len (by decide +kernel) (pa_cons (pe_fld (pv 0) rfl) pa_nil)) (nomark _)))))
theorem ct_is_job (T : Top K mg) : C8.Cal R.prog w K mg base 1 "is_job" (sp_is_job K) [] := by
  obtain ⟨fd, F⟩ := T.d_is_job
  have F := fun_of F
  exact ⟨⟨_, fd, ["office", "job"], [], F.ok sc_is_job (fun vs H Q E h => by
    unfold sp_is_job at h
    skip
    repeat (first | (obtain ⟨hv, _⟩ := h; rw [hv]; done) | (obtain ⟨hv, _⟩ := h; rw [hv]; rfl) | (obtain ⟨_, h⟩ := h))) (fun cdv A outer s H vs Q E hr h => ⟨t_is_job K, d_is_job T  hr, p_is_job T vs H Q E h⟩), T.g_is_job, F.kp, F.binds (ps := ["office", "job"]) fun _ _ _ _ _ _ us hl => match us, hl with | [_, _], _ => rfl, .nil⟩⟩
theorem d_places_of (T : Top K mg) (hr : Room 0 (A.deeper (envOfC "places_of" (defScope s_places_of) s.heap.objs.size f cdv))) :
    PSs (cxOf C8.CX0 R.prog w K mg base ["office", "job"] "places_of" (defScope s_places_of) f cdv A outer s H E).nox (defBody s_places_of) (t_places_of K) := by
  have nd := sc_places_of.nd
  have hu := hu_of hr
  exact (pss_cons (ps_if (pt_cmpR op_lt (pv 1) (C8.pe_gc rfl T.c_FIRST_WOOD) (nomark _)) (pss_one (ps_ret (pe_tup (pa_cons (pe_fld (pe_ix ix_list (pe_fld (pv 0) rfl) (pv 1) (fun _ _ => rfl)) rfl) (pa_cons (pe_fld (pe_ix ix_list (pe_fld (pv 0) rfl) (pv 1) (fun _ _ => rfl)) rfl) pa_nil))))) pss_nil)
    (pss_one (ps_ret (pe_tup (pa_cons (pe_fld (pe_ix ix_list (pe_fld (pv 0) rfl) (pe_op op_sub (pv 1) (C8.pe_gc rfl T.c_FIRST_WOOD)) (fun _ _ => rfl)) rfl) pa_nil)))))
theorem ct_places_of (T : Top K mg) : C8.Cal R.prog w K mg base 1 "places_of" (sp_places_of K) [] := by
  obtain ⟨fd, F⟩ := T.d_places_of
  have F := fun_of F
  exact ⟨⟨_, fd, ["office", "job"], [], F.ok sc_places_of (fun vs H Q E h => by
    unfold sp_places_of at h
    skip
    repeat (first | (obtain ⟨hv, _⟩ := h; rw [hv]; done) | (obtain ⟨hv, _⟩ := h; rw [hv]; rfl) | (obtain ⟨_, h⟩ := h))) (fun cdv A outer s H vs Q E hr h => ⟨t_places_of K, d_places_of T  hr, p_places_of T vs H Q E h⟩), T.g_places_of, F.kp, F.binds (ps := ["office", "job"]) fun _ _ _ _ _ _ us hl => match us, hl with | [_, _], _ => rfl, .nil⟩⟩
theorem d_is_at_hand (T : Top K mg) (c_places_of : C8.Cal R.prog w K mg base 1 "places_of" (sp_places_of K) []) (hr : Room 1 (A.deeper (envOfC "is_at_hand" (defScope s_is_at_hand) s.heap.objs.size f cdv))) :
    PSs (cxOf C8.CX0 R.prog w K mg base ["office", "reached", "job", "place"] "is_at_hand" (defScope s_is_at_hand) f cdv A outer s H E).nox (defBody s_is_at_hand) (t_is_at_hand K) := by
  have nd := sc_is_at_hand.nd
  have hu := hu_of hr
  exact (pss_one (ps_ret (pe_callB (cr_any rfl) rfl T.f_any (by decide +kernel) (pa_cons (pe_lc (own := [("place", 3)]) (g := (gName 3)) (tt := tYes) rfl nd (pi_tup (C8.pe_c c_places_of hr (by decide) rfl (pa_cons (pv 0) (pa_cons (pv 2) pa_nil)))) (blkOk_by (own := [("place", 3)]) (N := ["office", "reached", "job", "place"]) (sc := defScope s_is_at_hand) (by decide +kernel)) (fun _ _ _ _ _ => (pg_name (i := 3) nd rfl (Or.inl rfl))) (fun _ _ _ _ _ => pts_nil) (fun _ _ _ _ _ => (pe_ix ix_list (pv 1) (pv 3) (fun _ _ => rfl)))) pa_nil))))
theorem ct_is_at_hand (T : Top K mg) : C8.Cal R.prog w K mg base 2 "is_at_hand" (sp_is_at_hand K) [] := by
  obtain ⟨fd, F⟩ := T.d_is_at_hand
  have F := fun_of F
  exact ⟨⟨_, fd, ["office", "reached", "job"], [], F.ok sc_is_at_hand (fun vs H Q E h => by
    unfold sp_is_at_hand at h
    skip
    repeat (first | (obtain ⟨hv, _⟩ := h; rw [hv]; done) | (obtain ⟨hv, _⟩ := h; rw [hv]; rfl) | (obtain ⟨_, h⟩ := h))) (fun cdv A outer s H vs Q E hr h => ⟨t_is_at_hand K, d_is_at_hand T (ct_places_of T) hr, p_is_at_hand T vs H Q E h⟩), T.g_is_at_hand, F.kp, F.binds (ps := ["office", "reached", "job"]) fun _ _ _ _ _ _ us hl => match us, hl with | [_, _, _], _ => rfl, .nil⟩⟩
theorem d_reached_over (T : Top K mg) (hr : Room 0 (A.deeper (envOfC "reached_over" (defScope s_reached_over) s.heap.objs.size f cdv))) :
    PSs (cxOf C8.CX0 R.prog w K mg base ["office", "ways", "reached", "turn", "way", "place"] "reached_over" (defScope s_reached_over) f cdv A outer s H E).nox (defBody s_reached_over) (t_reached_over K) := by
  have nd := sc_reached_over.nd
  have hu := hu_of hr
  exact (pss_cons (ps_setLc (i := 2) (own := [("place", 5)]) (g := (gName 5)) (tt := tYes) rfl nd rfl rfl (sw_true rfl rfl rfl (by decide +kernel)) (pi_range1 rfl T.f_range (pa_cons (pe_fld (pv 0) rfl) pa_nil)) (blkOk_by (own := [("place", 5)]) (N := ["office", "ways", "reached", "turn", "way", "place"]) (sc := defScope s_reached_over) (by decide +kernel)) (fun _ _ _ _ _ => (pg_name (i := 5) nd rfl (Or.inl rfl))) (fun _ _ _ _ _ => pts_nil) (fun _ _ _ _ _ => (pe_cmpR op_eq (pv 5) pe_int (nomark _))))
    (pss_cons (ps_for PassesOwn.never rfl (pi_range1 rfl T.f_range (pa_cons (pe_op op_sub (pe_fld (pv 0) rfl) pe_int) pa_nil)) (pg_name (i := 3) nd rfl (Or.inl rfl)) (pss_one (ps_for PassesOwn.never rfl (pi_list (pv 1)) (pg_name (i := 4) nd rfl (Or.inl rfl)) (pss_one (ps_if (PW.pt (pw_or (pt_val (pe_ix ix_list (pv 2) (pe_fld (pv 4) rfl) (fun _ _ => rfl))) (pw_or1 (pt_val (pe_ix ix_list (pv 2) (pe_fld (pv 4) rfl) (fun _ _ => rfl)))))) (pss_cons (ps_asg pe_bl (pg_sub (pv 2) (pe_fld (pv 4) rfl) set_list))
    (pss_one (ps_asg pe_bl (pg_sub (pv 2) (pe_fld (pv 4) rfl) set_list)))) pss_nil)))))
    (pss_one (ps_ret (pv 2)))))
theorem ct_reached_over (T : Top K mg) : C8.Cal R.prog w K mg base 1 "reached_over" (sp_reached_over K) [] := by
  obtain ⟨fd, F⟩ := T.d_reached_over
  have F := fun_of F
  exact ⟨⟨_, fd, ["office", "ways"], [], F.ok sc_reached_over (fun vs H Q E h => by
    unfold sp_reached_over at h
    skip
    repeat (first | (obtain ⟨hv, _⟩ := h; rw [hv]; done) | (obtain ⟨hv, _⟩ := h; rw [hv]; rfl) | (obtain ⟨_, h⟩ := h))) (fun cdv A outer s H vs Q E hr h => ⟨t_reached_over K, d_reached_over T  hr, p_reached_over T vs H Q E h⟩), T.g_reached_over, F.kp, F.binds (ps := ["office", "ways"]) fun _ _ _ _ _ _ us hl => match us, hl with | [_, _], _ => rfl, .nil⟩⟩
theorem d_drivable (T : Top K mg) (hr : Room 0 (A.deeper (envOfC "drivable" (defScope s_drivable) s.heap.objs.size f cdv))) :
    PSs (cxOf C8.CX0 R.prog w K mg base ["office", "jobs_done", "number", "way"] "drivable" (defScope s_drivable) f cdv A outer s H E).nox (defBody s_drivable) (t_drivable K) := by
  have nd := sc_drivable.nd
  have hu := hu_of hr
  exact (pss_one (ps_ret (pe_lc (own := [("number", 2), ("way", 3)]) (g := (gTup K 2 (gCons (gName 2) (gCons (gName 3) gNil)))) (tt := (tOr (tTest (tOp rEq (tFld K (tVar 3) "work") (tC (.int 0)))) (tTest (tOp (rIn K false) (tVar 2) (tVar 1))))) rfl nd (pi_enum rfl T.f_enumerate (pa_cons (pe_fld (pv 0) rfl) pa_nil)) (blkOk_by (own := [("number", 2), ("way", 3)]) (N := ["office", "jobs_done", "number", "way"]) (sc := defScope s_drivable) (by decide +kernel)) (fun _ _ _ _ _ => (pg_tup rfl (pgs_cons (pg_name (i := 2) nd rfl (Or.inl rfl)) (pgs_cons (pg_name (i := 3) nd rfl (Or.inl rfl)) pgs_nil)))) (fun _ _ _ _ _ => (pts_one (PW.pt (pw_or (pt_cmpR op_eq (pe_fld (pv 3) rfl) pe_int (nomark _)) (pw_or1 (pt_cmpR op_in_seq (pv 2) (pv 1) rfl)))))) (fun _ _ _ _ _ => (pv 3)))))
theorem ct_drivable (T : Top K mg) : C8.Cal R.prog w K mg base 1 "drivable" (sp_drivable K) [] := by
  obtain ⟨fd, F⟩ := T.d_drivable
  have F := fun_of F
  exact ⟨⟨_, fd, ["office", "jobs_done"], [], F.ok sc_drivable (fun vs H Q E h => by
    unfold sp_drivable at h
    skip
    repeat (first | (obtain ⟨hv, _⟩ := h; rw [hv]; done) | (obtain ⟨hv, _⟩ := h; rw [hv]; rfl) | (obtain ⟨_, h⟩ := h))) (fun cdv A outer s H vs Q E hr h => ⟨t_drivable K, d_drivable T  hr, p_drivable T vs H Q E h⟩), T.g_drivable, F.kp, F.binds (ps := ["office", "jobs_done"]) fun _ _ _ _ _ _ us hl => match us, hl with | [_, _], _ => rfl, .nil⟩⟩
theorem d_reached_with (T : Top K mg) (c_reached_over : C8.Cal R.prog w K mg base 1 "reached_over" (sp_reached_over K) []) (c_drivable : C8.Cal R.prog w K mg base 1 "drivable" (sp_drivable K) []) (hr : Room 1 (A.deeper (envOfC "reached_with" (defScope s_reached_with) s.heap.objs.size f cdv))) :
    PSs (cxOf C8.CX0 R.prog w K mg base ["office", "jobs_done"] "reached_with" (defScope s_reached_with) f cdv A outer s H E).nox (defBody s_reached_with) (t_reached_with K) := by
  have nd := sc_reached_with.nd
  have hu := hu_of hr
  exact (pss_one (ps_ret (C8.pe_c c_reached_over hr (by decide) rfl (pa_cons (pv 0) (pa_cons (C8.pe_c c_drivable hr (by decide) rfl (pa_cons (pv 0) (pa_cons (pv 1) pa_nil))) pa_nil)))))
theorem ct_reached_with (T : Top K mg) : C8.Cal R.prog w K mg base 2 "reached_with" (sp_reached_with K) [] := by
  obtain ⟨fd, F⟩ := T.d_reached_with
  have F := fun_of F
  exact ⟨⟨_, fd, ["office", "jobs_done"], [], F.ok sc_reached_with (fun vs H Q E h => by
    unfold sp_reached_with at h
    skip
    repeat (first | (obtain ⟨hv, _⟩ := h; rw [hv]; done) | (obtain ⟨hv, _⟩ := h; rw [hv]; rfl) | (obtain ⟨_, h⟩ := h))) (fun cdv A outer s H vs Q E hr h => ⟨t_reached_with K, d_reached_with T (ct_reached_over T) (ct_drivable T) hr, p_reached_with T vs H Q E h⟩), T.g_reached_with, F.kp, F.binds (ps := ["office", "jobs_done"]) fun _ _ _ _ _ _ us hl => match us, hl with | [_, _], _ => rfl, .nil⟩⟩
theorem d_hindrance (T : Top K mg) (c_is_job : C8.Cal R.prog w K mg base 1 "is_job" (sp_is_job K) []) (c_is_at_hand : C8.Cal R.prog w K mg base 2 "is_at_hand" (sp_is_at_hand K) []) (c_reached_with : C8.Cal R.prog w K mg base 2 "reached_with" (sp_reached_with K) []) (hr : Room 2 (A.deeper (envOfC "hindrance" (defScope s_hindrance) s.heap.objs.size f cdv))) :
    PSs (cxOf C8.CX0 R.prog w K mg base ["office", "jobs_done", "job"] "hindrance" (defScope s_hindrance) f cdv A outer s H E).nox (defBody s_hindrance) (t_hindrance K) := by
  have nd := sc_hindrance.nd
  have hu := hu_of hr
  exact (pss_cons (ps_if (pt_not (pt_val (C8.pe_c c_is_job hr (by decide) rfl (pa_cons (pv 0) (pa_cons (pv 2) pa_nil))))) (pss_one (ps_ret (C8.pe_gc rfl T.c_NOT_THERE))) pss_nil)
    (pss_cons (ps_if (pt_cmpR op_in_seq (pv 2) (pv 1) rfl) (pss_one (ps_ret (C8.pe_gc rfl T.c_DONE_ALREADY))) pss_nil)
    (pss_cons (ps_if (pt_not (pt_val (C8.pe_c c_is_at_hand hr (by decide) rfl (pa_cons (pv 0) (pa_cons (C8.pe_c c_reached_with hr (by decide) rfl (pa_cons (pv 0) (pa_cons (pv 1) pa_nil))) (pa_cons (pv 2) pa_nil)))))) (pss_one (ps_ret (C8.pe_gc rfl T.c_CANNOT_BE))) pss_nil)
    (pss_one (ps_ret pe_int)))))
theorem ct_hindrance (T : Top K mg) : C8.Cal R.prog w K mg base 3 "hindrance" (sp_hindrance K) [] := by
  obtain ⟨fd, F⟩ := T.d_hindrance
  have F := fun_of F
  exact ⟨⟨_, fd, ["office", "jobs_done", "job"], [], F.ok sc_hindrance (fun vs H Q E h => by
    unfold sp_hindrance at h
    skip
    repeat (first | (obtain ⟨hv, _⟩ := h; rw [hv]; done) | (obtain ⟨hv, _⟩ := h; rw [hv]; rfl) | (obtain ⟨_, h⟩ := h))) (fun cdv A outer s H vs Q E hr h => ⟨t_hindrance K, d_hindrance T (ct_is_job T) (ct_is_at_hand T) (ct_reached_with T) hr, p_hindrance T vs H Q E h⟩), T.g_hindrance, F.kp, F.binds (ps := ["office", "jobs_done", "job"]) fun _ _ _ _ _ _ us hl => match us, hl with | [_, _, _], _ => rfl, .nil⟩⟩
theorem d_thousandths (T : Top K mg) (hr : Room 0 (A.deeper (envOfC "thousandths" (defScope s_thousandths) s.heap.objs.size f cdv))) :
    PSs (cxOf C8.CX0 R.prog w K mg base ["office", "kind", "age", "step", "row"] "thousandths" (defScope s_thousandths) f cdv A outer s H E).nox (defBody s_thousandths) (t_thousandths K) := by
  have nd := sc_thousandths.nd
  have hu := hu_of hr
  exact (pss_cons (ps_if (pt_cmp (pc_dnotin hu (pv 1) (pe_fld (pv 0) rfl))) (pss_one (ps_ret pe_int)) pss_nil)
    (pss_cons (ps_asg (pe_dget hu (pe_fld (pv 0) rfl) (pv 1) (fun _ _ => rfl)) (pg_tup rfl (pgs_cons (pg_name (i := 3) nd rfl (Or.inl rfl)) (pgs_cons (pg_name (i := 4) nd rfl (Or.inl rfl)) pgs_nil))))
    (pss_cons (ps_if (pt_cmpR op_eq (pe_callB call_len_seq rfl T.f_len (by decide +kernel) (pa_cons (pv 4) pa_nil)) pe_int (nomark _)) (pss_one (ps_ret pe_int)) pss_nil)
    (pss_one (ps_ret (pe_ix ix_tup (pv 4) (pe_callB (call_min2 rfl) rfl T.f_min (by decide +kernel) (pa_cons (pe_op op_fdiv (pv 2) (pv 3)) (pa_cons (pe_op op_sub (pe_callB call_len_seq rfl T.f_len (by decide +kernel) (pa_cons (pv 4) pa_nil)) pe_int) pa_nil))) (fun _ _ => rfl)))))))
theorem ct_thousandths (T : Top K mg) : C8.Cal R.prog w K mg base 1 "thousandths" (sp_thousandths K) [] := by
  obtain ⟨fd, F⟩ := T.d_thousandths
  have F := fun_of F
  exact ⟨⟨_, fd, ["office", "kind", "age"], [], F.ok sc_thousandths (fun vs H Q E h => by
    unfold sp_thousandths at h
    skip
    repeat (first | (obtain ⟨hv, _⟩ := h; rw [hv]; done) | (obtain ⟨hv, _⟩ := h; rw [hv]; rfl) | (obtain ⟨_, h⟩ := h))) (fun cdv A outer s H vs Q E hr h => ⟨t_thousandths K, d_thousandths T  hr, p_thousandths T vs H Q E h⟩), T.g_thousandths, F.kp, F.binds (ps := ["office", "kind", "age"]) fun _ _ _ _ _ _ us hl => match us, hl with | [_, _, _], _ => rfl, .nil⟩⟩
theorem d_loss_of (T : Top K mg) (c_thousandths : C8.Cal R.prog w K mg base 1 "thousandths" (sp_thousandths K) []) (hr : Room 1 (A.deeper (envOfC "loss_of" (defScope s_loss_of) s.heap.objs.size f cdv))) :
    PSs (cxOf C8.CX0 R.prog w K mg base ["office", "job", "day", "wood"] "loss_of" (defScope s_loss_of) f cdv A outer s H E).nox (defBody s_loss_of) (t_loss_of K) := by
  have nd := sc_loss_of.nd
  have hu := hu_of hr
  exact (pss_cons (ps_if (pt_cmpR op_lt (pv 1) (C8.pe_gc rfl T.c_FIRST_WOOD) (nomark _)) (pss_one (ps_ret pe_int)) pss_nil)
    (pss_cons (ps_set (i := 3) nd rfl (Or.inl rfl) (pe_ix ix_list (pe_fld (pv 0) rfl) (pe_op op_sub (pv 1) (C8.pe_gc rfl T.c_FIRST_WOOD)) (fun _ _ => rfl)))
    (pss_one (ps_ret (pe_op op_mul (pe_fld (pv 3) rfl) (C8.pe_c c_thousandths hr (by decide) rfl (pa_cons (pv 0) (pa_cons (pe_fld (pv 3) rfl) (pa_cons (pe_callB (call_max2 rfl) rfl T.f_max (by decide +kernel) (pa_cons (pe_op op_sub (pv 2) (pe_fld (pv 3) rfl)) (pa_cons pe_int pa_nil))) pa_nil)))))))))
theorem ct_loss_of (T : Top K mg) : C8.Cal R.prog w K mg base 2 "loss_of" (sp_loss_of K) [] := by
  obtain ⟨fd, F⟩ := T.d_loss_of
  have F := fun_of F
  exact ⟨⟨_, fd, ["office", "job", "day"], [], F.ok sc_loss_of (fun vs H Q E h => by
    unfold sp_loss_of at h
    skip
    repeat (first | (obtain ⟨hv, _⟩ := h; rw [hv]; done) | (obtain ⟨hv, _⟩ := h; rw [hv]; rfl) | (obtain ⟨_, h⟩ := h))) (fun cdv A outer s H vs Q E hr h => ⟨t_loss_of K, d_loss_of T (ct_thousandths T) hr, p_loss_of T vs H Q E h⟩), T.g_loss_of, F.kp, F.binds (ps := ["office", "job", "day"]) fun _ _ _ _ _ _ us hl => match us, hl with | [_, _, _], _ => rfl, .nil⟩⟩
theorem d_done (T : Top K mg) (c_hindrance : C8.Cal R.prog w K mg base 3 "hindrance" (sp_hindrance K) []) (c_loss_of : C8.Cal R.prog w K mg base 2 "loss_of" (sp_loss_of K) []) (c_day_now : C8.Cal R.prog w K mg base 3 "day_now" (sp_day_now K) []) (hr : Room 3 (A.deeper (envOfC "done" (defScope s_done) s.heap.objs.size f cdv))) :
    PSs (cxOf C8.CX0 R.prog w K mg base ["office", "numbers", "row", "job", "refusal"] "done" (defScope s_done) f cdv A outer s H E).nox (defBody s_done) (t_done K) := by
  have nd := sc_done.nd
  have hu := hu_of hr
  exact (pss_cons (ps_set (i := 3) nd rfl (Or.inl rfl) (pe_ix ix_list (pv 1) pe_int (fun _ _ => rfl)))
    (pss_cons (ps_set (i := 4) nd rfl (Or.inl rfl) (C8.pe_c c_hindrance hr (by decide) rfl (pa_cons (pv 0) (pa_cons (pe_fld (pv 0) rfl) (pa_cons (pv 3) pa_nil)))))
    (pss_cons (ps_if (pt_cmpR op_lt (pv 4) pe_int (nomark _)) (pss_one (ps_ret (pe_lst (pa_cons (pv 4) pa_nil)))) pss_nil)
    (pss_cons (ps_expr (pe_bm PySem.F.plainAttrs_list PySem.F.slot_list_append PySem.F.type_list_append mt_append (pe_fld (pv 0) rfl) (pa_cons (pv 3) pa_nil)))
    (pss_one (ps_ret (pe_lst (pa_cons pe_int (pa_cons (C8.pe_c c_day_now hr (by decide) rfl (pa_cons (pv 0) pa_nil)) (pa_cons (C8.pe_c c_loss_of hr (by decide) rfl (pa_cons (pv 0) (pa_cons (pv 3) (pa_cons (C8.pe_c c_day_now hr (by decide) rfl (pa_cons (pv 0) pa_nil)) pa_nil)))) pa_nil))))))))))
theorem ct_done (T : Top K mg) : C8.Cal R.prog w K mg base 4 "done" (sp_done K) [] := by
  obtain ⟨fd, F⟩ := T.d_done
  have F := fun_of F
  exact ⟨⟨_, fd, ["office", "numbers", "row"], [], F.ok sc_done (fun vs H Q E h => by
    unfold sp_done at h
    unfold sp_deed at h
    repeat (first | (obtain ⟨hv, _⟩ := h; rw [hv]; done) | (obtain ⟨hv, _⟩ := h; rw [hv]; rfl) | (obtain ⟨_, h⟩ := h))) (fun cdv A outer s H vs Q E hr h => ⟨t_done K, d_done T (ct_hindrance T) (ct_loss_of T) (ct_day_now T) hr, p_done T vs H Q E h⟩), T.g_done, F.kp, F.binds (ps := ["office", "numbers", "row"]) fun _ _ _ _ _ _ us hl => match us, hl with | [_, _, _], _ => rfl, .nil⟩⟩
theorem d_undo (T : Top K mg) (hr : Room 0 (A.deeper (envOfC "undo" (defScope s_undo) s.heap.objs.size f cdv))) :
    PSs (cxOf C8.CX0 R.prog w K mg base ["office", "numbers", "row"] "undo" (defScope s_undo) f cdv A outer s H E).nox (defBody s_undo) (t_undo K) := by
  have nd := sc_undo.nd
  have hu := hu_of hr
  exact (pss_cons (ps_if (pt_cmpR op_eq (pe_callB call_len_seq rfl T.f_len (by decide +kernel) (pa_cons (pe_fld (pv 0) rfl) pa_nil)) pe_int (nomark _)) (pss_one (ps_ret (pe_lst (pa_cons (C8.pe_gc rfl T.c_CANNOT_BE) pa_nil)))) pss_nil)
    (pss_one (ps_ret (pe_lst (pa_cons pe_int (pa_cons (pe_bm0 PySem.F.plainAttrs_list PySem.F.slot_list_pop PySem.F.type_list_pop mt_pop (pe_fld (pv 0) rfl)) pa_nil))))))
theorem ct_undo (T : Top K mg) : C8.Cal R.prog w K mg base 1 "undo" (sp_undo K) [] := by
  obtain ⟨fd, F⟩ := T.d_undo
  have F := fun_of F
  exact ⟨⟨_, fd, ["office", "numbers", "row"], [], F.ok sc_undo (fun vs H Q E h => by
    unfold sp_undo at h
    unfold sp_deed at h
    repeat (first | (obtain ⟨hv, _⟩ := h; rw [hv]; done) | (obtain ⟨hv, _⟩ := h; rw [hv]; rfl) | (obtain ⟨_, h⟩ := h))) (fun cdv A outer s H vs Q E hr h => ⟨t_undo K, d_undo T  hr, p_undo T vs H Q E h⟩), T.g_undo, F.kp, F.binds (ps := ["office", "numbers", "row"]) fun _ _ _ _ _ _ us hl => match us, hl with | [_, _, _], _ => rfl, .nil⟩⟩
theorem d_lost_so_far (T : Top K mg) (c_work_of : C8.Cal R.prog w K mg base 1 "work_of" (sp_work_of K) []) (c_loss_of : C8.Cal R.prog w K mg base 2 "loss_of" (sp_loss_of K) []) (c_day_after : C8.Cal R.prog w K mg base 1 "day_after" (sp_day_after K) []) (hr : Room 2 (A.deeper (envOfC "lost_so_far" (defScope s_lost_so_far) s.heap.objs.size f cdv))) :
    PSs (cxOf C8.CX0 R.prog w K mg base ["office", "hours", "lost", "job"] "lost_so_far" (defScope s_lost_so_far) f cdv A outer s H E).nox (defBody s_lost_so_far) (t_lost_so_far K) := by
  have nd := sc_lost_so_far.nd
  have hu := hu_of hr
  exact (pss_cons (ps_set (i := 1) nd rfl (Or.inl rfl) pe_int)
    (pss_cons (ps_set (i := 2) nd rfl (Or.inl rfl) pe_int)
    (pss_cons (ps_for PassesOwn.never rfl (pi_list (pe_fld (pv 0) rfl)) (pg_name (i := 3) nd rfl (Or.inl rfl)) (pss_cons (ps_aug (i := 1) nd rfl (Or.inl rfl) (C8.pe_c c_work_of hr (by decide) rfl (pa_cons (pv 0) (pa_cons (pv 3) pa_nil))) ip_add)
    (pss_one (ps_aug (i := 2) nd rfl (Or.inl rfl) (C8.pe_c c_loss_of hr (by decide) rfl (pa_cons (pv 0) (pa_cons (pv 3) (pa_cons (C8.pe_c c_day_after hr (by decide) rfl (pa_cons (pv 0) (pa_cons (pe_fld (pv 0) rfl) (pa_cons (pv 1) pa_nil)))) pa_nil)))) ip_add))))
    (pss_one (ps_ret (pv 2))))))
theorem ct_lost_so_far (T : Top K mg) : C8.Cal R.prog w K mg base 3 "lost_so_far" (sp_lost_so_far K) [] := by
  obtain ⟨fd, F⟩ := T.d_lost_so_far
  have F := fun_of F
  exact ⟨⟨_, fd, ["office"], [], F.ok sc_lost_so_far (fun vs H Q E h => by
    unfold sp_lost_so_far at h
    skip
    repeat (first | (obtain ⟨hv, _⟩ := h; rw [hv]; done) | (obtain ⟨hv, _⟩ := h; rw [hv]; rfl) | (obtain ⟨_, h⟩ := h))) (fun cdv A outer s H vs Q E hr h => ⟨t_lost_so_far K, d_lost_so_far T (ct_work_of T) (ct_loss_of T) (ct_day_after T) hr, p_lost_so_far T vs H Q E h⟩), T.g_lost_so_far, F.kp, F.binds (ps := ["office"]) fun _ _ _ _ _ _ us hl => match us, hl with | [_], _ => rfl, .nil⟩⟩
theorem d_state (T : Top K mg) (c_lost_so_far : C8.Cal R.prog w K mg base 3 "lost_so_far" (sp_lost_so_far K) []) (c_day_now : C8.Cal R.prog w K mg base 3 "day_now" (sp_day_now K) []) (c_hours_of : C8.Cal R.prog w K mg base 2 "hours_of" (sp_hours_of K) []) (hr : Room 3 (A.deeper (envOfC "state" (defScope s_state) s.heap.objs.size f cdv))) :
    PSs (cxOf C8.CX0 R.prog w K mg base ["office", "numbers", "row", "told", "counted"] "state" (defScope s_state) f cdv A outer s H E).nox (defBody s_state) (t_state K) := by
  have nd := sc_state.nd
  have hu := hu_of hr
  exact (pss_cons (ps_set (i := 3) nd rfl (Or.inl rfl) (pe_lst (pa_cons (pe_fld (pv 0) rfl) (pa_cons (pe_fld (pv 0) rfl) (pa_cons (pe_fld (pv 0) rfl) pa_nil)))))
    (pss_cons (ps_set (i := 4) nd rfl (Or.inl rfl) (pe_lst (pa_cons (pe_callB call_len_seq rfl T.f_len (by decide +kernel) (pa_cons (pe_fld (pv 0) rfl) pa_nil)) (pa_cons (pe_callB call_len_seq rfl T.f_len (by decide +kernel) (pa_cons (pe_fld (pv 0) rfl) pa_nil)) (pa_cons (pe_callB call_len_seq rfl T.f_len (by decide +kernel) (pa_cons (pe_fld (pv 0) rfl) pa_nil)) pa_nil)))))
    (pss_one (ps_ret (pe_op op_cat (pe_op op_cat (pe_op op_cat (pe_lst (pa_cons pe_int pa_nil)) (pv 3)) (pv 4)) (pe_lst (pa_cons (C8.pe_c c_hours_of hr (by decide) rfl (pa_cons (pv 0) (pa_cons (pe_fld (pv 0) rfl) pa_nil))) (pa_cons (C8.pe_c c_day_now hr (by decide) rfl (pa_cons (pv 0) pa_nil)) (pa_cons (C8.pe_c c_lost_so_far hr (by decide) rfl (pa_cons (pv 0) pa_nil)) pa_nil)))))))))
theorem ct_state (T : Top K mg) : C8.Cal R.prog w K mg base 4 "state" (sp_state K) [] := by
  obtain ⟨fd, F⟩ := T.d_state
  have F := fun_of F
  exact ⟨⟨_, fd, ["office", "numbers", "row"], [], F.ok sc_state (fun vs H Q E h => by
    unfold sp_state at h
    unfold sp_deed at h
    repeat (first | (obtain ⟨hv, _⟩ := h; rw [hv]; done) | (obtain ⟨hv, _⟩ := h; rw [hv]; rfl) | (obtain ⟨_, h⟩ := h))) (fun cdv A outer s H vs Q E hr h => ⟨t_state K, d_state T (ct_lost_so_far T) (ct_day_now T) (ct_hours_of T) hr, p_state T vs H Q E h⟩), T.g_state, F.kp, F.binds (ps := ["office", "numbers", "row"]) fun _ _ _ _ _ _ us hl => match us, hl with | [_, _, _], _ => rfl, .nil⟩⟩
theorem d_left_jobs (T : Top K mg) (c_reached_over : C8.Cal R.prog w K mg base 1 "reached_over" (sp_reached_over K) []) (c_all_jobs : C8.Cal R.prog w K mg base 1 "all_jobs" (sp_all_jobs K) []) (c_is_at_hand : C8.Cal R.prog w K mg base 2 "is_at_hand" (sp_is_at_hand K) []) (hr : Room 2 (A.deeper (envOfC "left_jobs" (defScope s_left_jobs) s.heap.objs.size f cdv))) :
    PSs (cxOf C8.CX0 R.prog w K mg base ["office", "reached", "job"] "left_jobs" (defScope s_left_jobs) f cdv A outer s H E).nox (defBody s_left_jobs) (t_left_jobs K) := by
  have nd := sc_left_jobs.nd
  have hu := hu_of hr
  exact (pss_cons (ps_set (i := 1) nd rfl (Or.inr rfl) (C8.pe_c c_reached_over hr (by decide) rfl (pa_cons (pv 0) (pa_cons (pe_fld (pv 0) rfl) pa_nil))))
    (pss_one (ps_ret (pe_lc (own := [("job", 2)]) (g := (gName 2)) (tt := (tAnd (tTest (tOp (rIn K true) (tVar 2) (tFld K (tVar 0) "jobs_done"))) (tB (tCall (sp_is_at_hand K) [] C8.E0 (tCons (tVar 0) (tCons (tVar 1) (tCons (tVar 2) tNil))))))) rfl nd (pi_list (C8.pe_c c_all_jobs hr (by decide) rfl (pa_cons (pv 0) pa_nil))) (blkOk_by (own := [("job", 2)]) (N := ["office", "reached", "job"]) (sc := defScope s_left_jobs) (by decide +kernel)) (fun _ _ _ _ _ => (pg_name (i := 2) nd rfl (Or.inl rfl))) (fun _ _ _ _ _ => (pts_one (PW.pt (pw_and (pt_cmpR op_notIn_seq (pv 2) (pe_fld (pv 0) rfl) rfl) (pw_and1 (pt_val (C8.pe_c c_is_at_hand hr (by decide) rfl (pa_cons (pv 0) (pa_cons (pv 1) (pa_cons (pv 2) pa_nil)))))))))) (fun _ _ _ _ _ => (pv 2))))))
theorem ct_left_jobs (T : Top K mg) : C8.Cal R.prog w K mg base 3 "left_jobs" (sp_left_jobs K) [] := by
  obtain ⟨fd, F⟩ := T.d_left_jobs
  have F := fun_of F
  exact ⟨⟨_, fd, ["office"], [], F.ok sc_left_jobs (fun vs H Q E h => by
    unfold sp_left_jobs at h
    skip
    repeat (first | (obtain ⟨hv, _⟩ := h; rw [hv]; done) | (obtain ⟨hv, _⟩ := h; rw [hv]; rfl) | (obtain ⟨_, h⟩ := h))) (fun cdv A outer s H vs Q E hr h => ⟨t_left_jobs K, d_left_jobs T (ct_reached_over T) (ct_all_jobs T) (ct_is_at_hand T) hr, p_left_jobs T vs H Q E h⟩), T.g_left_jobs, F.kp, F.binds (ps := ["office"]) fun _ _ _ _ _ _ us hl => match us, hl with | [_], _ => rfl, .nil⟩⟩
theorem d_in_one_row (T : Top K mg) (hr : Room 0 (A.deeper (envOfC "in_one_row" (defScope s_in_one_row) s.heap.objs.size f cdv))) :
    PSs (cxOf C8.CX0 R.prog w K mg base ["pairs", "row", "pair"] "in_one_row" (defScope s_in_one_row) f cdv A outer s H E).nox (defBody s_in_one_row) (t_in_one_row K) := by
  have nd := sc_in_one_row.nd
  have hu := hu_of hr
  exact (pss_cons (ps_set (i := 1) nd rfl (Or.inl rfl) (pe_lst pa_nil))
    (pss_cons (ps_for PassesOwn.never rfl (pi_list (pv 0)) (pg_name (i := 2) nd rfl (Or.inl rfl)) (pss_one (ps_expr (pe_bm PySem.F.plainAttrs_list PySem.F.slot_list_extend PySem.F.type_list_extend mt_extendT (pv 1) (pa_cons (pv 2) pa_nil)))))
    (pss_one (ps_ret (pv 1)))))
theorem ct_in_one_row (T : Top K mg) : C8.Cal R.prog w K mg base 1 "in_one_row" (sp_in_one_row K) [] := by
  obtain ⟨fd, F⟩ := T.d_in_one_row
  have F := fun_of F
  exact ⟨⟨_, fd, ["pairs"], [], F.ok sc_in_one_row (fun vs H Q E h => by
    unfold sp_in_one_row at h
    skip
    repeat (first | (obtain ⟨hv, _⟩ := h; rw [hv]; done) | (obtain ⟨hv, _⟩ := h; rw [hv]; rfl) | (obtain ⟨_, h⟩ := h))) (fun cdv A outer s H vs Q E hr h => ⟨t_in_one_row K, d_in_one_row T  hr, p_in_one_row T vs H Q E h⟩), T.g_in_one_row, F.kp, F.binds (ps := ["pairs"]) fun _ _ _ _ _ _ us hl => match us, hl with | [_], _ => rfl, .nil⟩⟩
theorem d_left (T : Top K mg) (c_left_jobs : C8.Cal R.prog w K mg base 3 "left_jobs" (sp_left_jobs K) []) (c_hindrance : C8.Cal R.prog w K mg base 3 "hindrance" (sp_hindrance K) []) (c_in_one_row : C8.Cal R.prog w K mg base 1 "in_one_row" (sp_in_one_row K) []) (hr : Room 3 (A.deeper (envOfC "left" (defScope s_left) s.heap.objs.size f cdv))) :
    PSs (cxOf C8.CX0 R.prog w K mg base ["office", "numbers", "row", "pairs", "job"] "left" (defScope s_left) f cdv A outer s H E).nox (defBody s_left) (t_left K) := by
  have nd := sc_left.nd
  have hu := hu_of hr
  exact (pss_cons (ps_set (i := 3) nd rfl (Or.inl rfl) (pe_lst pa_nil))
    (pss_cons (ps_for PassesOwn.never rfl (pi_list (C8.pe_c c_left_jobs hr (by decide) rfl (pa_cons (pv 0) pa_nil))) (pg_name (i := 4) nd rfl (Or.inl rfl)) (pss_one (ps_expr (pe_bm PySem.F.plainAttrs_list PySem.F.slot_list_append PySem.F.type_list_append mt_append (pv 3) (pa_cons (pe_tup (pa_cons (pv 4) (pa_cons (pe_ifExp (pt_cmpR op_eq (C8.pe_c c_hindrance hr (by decide) rfl (pa_cons (pv 0) (pa_cons (pe_fld (pv 0) rfl) (pa_cons (pv 4) pa_nil)))) pe_int (nomark _)) pe_int pe_int) pa_nil))) pa_nil)))))
    (pss_one (ps_ret (pe_op op_cat (pe_lst (pa_cons pe_int pa_nil)) (C8.pe_c c_in_one_row hr (by decide) rfl (pa_cons (pv 3) pa_nil)))))))
theorem ct_left (T : Top K mg) : C8.Cal R.prog w K mg base 4 "left" (sp_left K) [] := by
  obtain ⟨fd, F⟩ := T.d_left
  have F := fun_of F
  exact ⟨⟨_, fd, ["office", "numbers", "row"], [], F.ok sc_left (fun vs H Q E h => by
    unfold sp_left at h
    unfold sp_deed at h
    repeat (first | (obtain ⟨hv, _⟩ := h; rw [hv]; done) | (obtain ⟨hv, _⟩ := h; rw [hv]; rfl) | (obtain ⟨_, h⟩ := h))) (fun cdv A outer s H vs Q E hr h => ⟨t_left K, d_left T (ct_left_jobs T) (ct_hindrance T) (ct_in_one_row T) hr, p_left T vs H Q E h⟩), T.g_left, F.kp, F.binds (ps := ["office", "numbers", "row"]) fun _ _ _ _ _ _ us hl => match us, hl with | [_, _, _], _ => rfl, .nil⟩⟩
theorem d_reached (T : Top K mg) (c_reached_with : C8.Cal R.prog w K mg base 2 "reached_with" (sp_reached_with K) []) (hr : Room 2 (A.deeper (envOfC "reached" (defScope s_reached) s.heap.objs.size f cdv))) :
    PSs (cxOf C8.CX0 R.prog w K mg base ["office", "numbers", "row", "states", "place", "is_reached"] "reached" (defScope s_reached) f cdv A outer s H E).nox (defBody s_reached) (t_reached K) := by
  have nd := sc_reached.nd
  have hu := hu_of hr
  exact (pss_cons (ps_set (i := 3) nd rfl (Or.inl rfl) (C8.pe_c c_reached_with hr (by decide) rfl (pa_cons (pv 0) (pa_cons (pe_fld (pv 0) rfl) pa_nil))))
    (pss_one (ps_ret (pe_op op_cat (pe_lst (pa_cons pe_int pa_nil)) (pe_lc (own := [("place", 4), ("is_reached", 5)]) (g := (gTup K 2 (gCons (gName 4) (gCons (gName 5) gNil)))) (tt := (tB (tVar 5))) rfl nd (pi_enum rfl T.f_enumerate (pa_cons (pv 3) pa_nil)) (blkOk_by (own := [("place", 4), ("is_reached", 5)]) (N := ["office", "numbers", "row", "states", "place", "is_reached"]) (sc := defScope s_reached) (by decide +kernel)) (fun _ _ _ _ _ => (pg_tup rfl (pgs_cons (pg_name (i := 4) nd rfl (Or.inl rfl)) (pgs_cons (pg_name (i := 5) nd rfl (Or.inl rfl)) pgs_nil)))) (fun _ _ _ _ _ => (pts_one (pt_val (pv 5)))) (fun _ _ _ _ _ => (pv 4)))))))
theorem ct_reached (T : Top K mg) : C8.Cal R.prog w K mg base 3 "reached" (sp_reached K) [] := by
  obtain ⟨fd, F⟩ := T.d_reached
  have F := fun_of F
  exact ⟨⟨_, fd, ["office", "numbers", "row"], [], F.ok sc_reached (fun vs H Q E h => by
    unfold sp_reached at h
    unfold sp_deed at h
    repeat (first | (obtain ⟨hv, _⟩ := h; rw [hv]; done) | (obtain ⟨hv, _⟩ := h; rw [hv]; rfl) | (obtain ⟨_, h⟩ := h))) (fun cdv A outer s H vs Q E hr h => ⟨t_reached K, d_reached T (ct_reached_with T) hr, p_reached T vs H Q E h⟩), T.g_reached, F.kp, F.binds (ps := ["office", "numbers", "row"]) fun _ _ _ _ _ _ us hl => match us, hl with | [_, _, _], _ => rfl, .nil⟩⟩
theorem d_both_directions (T : Top K mg) (hr : Room 0 (A.deeper (envOfC "both_directions" (defScope s_both_directions) s.heap.objs.size f cdv))) :
    PSs (cxOf C8.CX0 R.prog w K mg base ["way"] "both_directions" (defScope s_both_directions) f cdv A outer s H E).nox (defBody s_both_directions) (t_both_directions K) := by
  have nd := sc_both_directions.nd
  have hu := hu_of hr
  exact (pss_one (ps_ret (pe_tup (pa_cons (pe_tup (pa_cons (pe_fld (pv 0) rfl) (pa_cons (pe_fld (pv 0) rfl) pa_nil))) (pa_cons (pe_tup (pa_cons (pe_fld (pv 0) rfl) (pa_cons (pe_fld (pv 0) rfl) pa_nil))) pa_nil)))))
theorem ct_both_directions (T : Top K mg) : C8.Cal R.prog w K mg base 1 "both_directions" (sp_both_directions K) [] := by
  obtain ⟨fd, F⟩ := T.d_both_directions
  have F := fun_of F
  exact ⟨⟨_, fd, ["way"], [], F.ok sc_both_directions (fun vs H Q E h => by
    unfold sp_both_directions at h
    skip
    repeat (first | (obtain ⟨hv, _⟩ := h; rw [hv]; done) | (obtain ⟨hv, _⟩ := h; rw [hv]; rfl) | (obtain ⟨_, h⟩ := h))) (fun cdv A outer s H vs Q E hr h => ⟨t_both_directions K, d_both_directions T  hr, p_both_directions T vs H Q E h⟩), T.g_both_directions, F.kp, F.binds (ps := ["way"]) fun _ _ _ _ _ _ us hl => match us, hl with | [_], _ => rfl, .nil⟩⟩
theorem d_quickest (T : Top K mg) (c_both_directions : C8.Cal R.prog w K mg base 1 "both_directions" (sp_both_directions K) []) (hr : Room 1 (A.deeper (envOfC "quickest" (defScope s_quickest) s.heap.objs.size f cdv))) :
    PSs (cxOf C8.CX0 R.prog w K mg base ["office", "ways", "goal", "drives", "turn", "way", "start", "end", "minutes", "many", "row", "drive"] "quickest" (defScope s_quickest) f cdv A outer s H E).nox (defBody s_quickest) (t_quickest K) := by
  have nd := sc_quickest.nd
  have hu := hu_of hr
  exact (pss_cons (ps_set (i := 3) nd rfl (Or.inl rfl) (pe_op op_rep (pe_lst (pa_cons pe_non pa_nil)) (pe_fld (pv 0) rfl)))
    (pss_cons (ps_asg (pe_tup (pa_cons pe_int (pa_cons pe_int (pa_cons (pe_lst (pa_cons pe_int pa_nil)) pa_nil)))) (pg_sub (pv 3) pe_int set_list))
    (pss_cons (ps_for PassesOwn.never rfl (pi_range1 rfl T.f_range (pa_cons (pe_op op_sub (pe_fld (pv 0) rfl) pe_int) pa_nil)) (pg_name (i := 4) nd rfl (Or.inl rfl)) (pss_one (ps_for PassesOwn.never rfl (pi_list (pv 1)) (pg_name (i := 5) nd rfl (Or.inl rfl)) (pss_one (ps_for PassesOwn.never rfl (pi_tup (C8.pe_c c_both_directions hr (by decide) rfl (pa_cons (pv 5) pa_nil))) (pg_tup rfl (pgs_cons (pg_name (i := 6) nd rfl (Or.inl rfl)) (pgs_cons (pg_name (i := 7) nd rfl (Or.inl rfl)) pgs_nil))) (pss_one (ps_if (pt_cmpR op_notN1 (pe_ix ix_list (pv 3) (pv 6) (fun _ _ => rfl)) pe_non (nomark _)) (pss_cons (ps_asg (pe_ix ix_list (pv 3) (pv 6) (fun _ _ => rfl)) (pg_tup rfl (pgs_cons (pg_name (i := 8) nd rfl (Or.inl rfl)) (pgs_cons (pg_name (i := 9) nd rfl (Or.inl rfl)) (pgs_cons (pg_name (i := 10) nd rfl (Or.inl rfl)) pgs_nil)))))
    (pss_cons (ps_set (i := 11) nd rfl (Or.inl rfl) (pe_tup (pa_cons (pe_op op_add (pv 8) (pe_fld (pv 5) rfl)) (pa_cons (pe_op op_add (pv 9) pe_int) (pa_cons (pe_op op_cat (pv 10) (pe_lst (pa_cons (pv 7) pa_nil))) pa_nil)))))
    (pss_one (ps_if (PW.pt (pw_or (pt_cmpR op_isN1 (pe_ix ix_list (pv 3) (pv 7) (fun _ _ => rfl)) pe_non (nomark _)) (pw_or1 (pt_cmpR (op_ltD hr.units) (pv 11) (pe_ix ix_list (pv 3) (pv 7) (fun _ _ => rfl)) (nomark _))))) (pss_one (ps_asg (pv 11) (pg_sub (pv 3) (pv 7) set_list))) pss_nil)))) pss_nil)))))))
    (pss_one (ps_ret (pe_ix ix_list (pv 3) (pv 2) (fun _ _ => rfl)))))))
theorem ct_quickest (T : Top K mg) : C8.Cal R.prog w K mg base 2 "quickest" (sp_quickest K) [] := by
  obtain ⟨fd, F⟩ := T.d_quickest
  have F := fun_of F
  exact ⟨⟨_, fd, ["office", "ways", "goal"], [], F.ok sc_quickest (fun vs H Q E h => by
    unfold sp_quickest at h
    skip
    repeat (first | (obtain ⟨hv, _⟩ := h; rw [hv]; done) | (obtain ⟨hv, _⟩ := h; rw [hv]; rfl) | (obtain ⟨_, h⟩ := h))) (fun cdv A outer s H vs Q E hr h => ⟨t_quickest K, d_quickest T (ct_both_directions T) hr, p_quickest T vs H Q E h⟩), T.g_quickest, F.kp, F.binds (ps := ["office", "ways", "goal"]) fun _ _ _ _ _ _ us hl => match us, hl with | [_, _, _], _ => rfl, .nil⟩⟩
theorem d_near (T : Top K mg) (c_Officehas_place : C8.Met R.prog w K mg base 1 (He.ga K "Office") "has_place" (sp_Officehas_place K) []) (c_quickest : C8.Cal R.prog w K mg base 2 "quickest" (sp_quickest K) []) (c_drivable : C8.Cal R.prog w K mg base 1 "drivable" (sp_drivable K) []) (hr : Room 2 (A.deeper (envOfC "near" (defScope s_near) s.heap.objs.size f cdv))) :
    PSs (cxOf C8.CX0 R.prog w K mg base ["office", "numbers", "row", "place", "drive", "minutes", "many", "places"] "near" (defScope s_near) f cdv A outer s H E).nox (defBody s_near) (t_near K) := by
  have nd := sc_near.nd
  have hu := hu_of hr
  exact (pss_cons (ps_set (i := 3) nd rfl (Or.inl rfl) (pe_ix ix_list (pv 1) pe_int (fun _ _ => rfl)))
    (pss_cons (ps_if (pt_not (pt_val (C8.pe_mt c_Officehas_place hr (by decide) (pv 0) (pa_cons (pv 3) pa_nil)))) (pss_one (ps_ret (pe_lst (pa_cons (C8.pe_gc rfl T.c_NOT_THERE) pa_nil)))) pss_nil)
    (pss_cons (ps_set (i := 4) nd rfl (Or.inl rfl) (C8.pe_c c_quickest hr (by decide) rfl (pa_cons (pv 0) (pa_cons (C8.pe_c c_drivable hr (by decide) rfl (pa_cons (pv 0) (pa_cons (pe_fld (pv 0) rfl) pa_nil))) (pa_cons (pv 3) pa_nil)))))
    (pss_cons (ps_if (pt_cmpR op_isN1 (pv 4) pe_non (nomark _)) (pss_one (ps_ret (pe_lst (pa_cons (C8.pe_gc rfl T.c_CANNOT_BE) pa_nil)))) pss_nil)
    (pss_cons (ps_asg (pv 4) (pg_tup rfl (pgs_cons (pg_name (i := 5) nd rfl (Or.inl rfl)) (pgs_cons (pg_name (i := 6) nd rfl (Or.inl rfl)) (pgs_cons (pg_name (i := 7) nd rfl (Or.inl rfl)) pgs_nil)))))
    (pss_one (ps_ret (pe_op op_cat (pe_lst (pa_cons pe_int (pa_cons (pv 5) pa_nil))) (pv 7)))))))))
theorem ct_near (T : Top K mg) : C8.Cal R.prog w K mg base 3 "near" (sp_near K) [] := by
  obtain ⟨fd, F⟩ := T.d_near
  have F := fun_of F
  exact ⟨⟨_, fd, ["office", "numbers", "row"], [], F.ok sc_near (fun vs H Q E h => by
    unfold sp_near at h
    unfold sp_deed at h
    repeat (first | (obtain ⟨hv, _⟩ := h; rw [hv]; done) | (obtain ⟨hv, _⟩ := h; rw [hv]; rfl) | (obtain ⟨_, h⟩ := h))) (fun cdv A outer s H vs Q E hr h => ⟨t_near K, d_near T (ct_Officehas_place T) (ct_quickest T) (ct_drivable T) hr, p_near T vs H Q E h⟩), T.g_near, F.kp, F.binds (ps := ["office", "numbers", "row"]) fun _ _ _ _ _ _ us hl => match us, hl with | [_, _, _], _ => rfl, .nil⟩⟩
end
end Sc
end

section
set_option Elab.async false
set_option linter.all false
set_option maxRecDepth 100000
set_option maxHeartbeats 4000000
namespace Sc
open PySem PySem.Spec PyProof.Rows L2
section
variable {w : World} {K : PySem.W.Frag} {mg : Str → Option Value} {base : Heap} {cdv : Value} {A : Around} {outer : List Env} {s : Shared} {H : Hp} {E : XK} {f : Addr}

theorem d_can_be_reached (T : Top K mg) (c_reached_over : C8.Cal R.prog w K mg base 1 "reached_over" (sp_reached_over K) []) (hr : Room 1 (A.deeper (envOfC "can_be_reached" (defScope s_can_be_reached) s.heap.objs.size f cdv))) :
    PSs (cxOf C8.CX0 R.prog w K mg base ["office", "places", "reached", "place"] "can_be_reached" (defScope s_can_be_reached) f cdv A outer s H E).nox (defBody s_can_be_reached) (t_can_be_reached K) := by
  have nd := sc_can_be_reached.nd
  have hu := hu_of hr
  exact (pss_cons (ps_set (i := 2) nd rfl (Or.inr rfl) (C8.pe_c c_reached_over hr (by decide) rfl (pa_cons (pv 0) (pa_cons (pe_fld (pv 0) rfl) pa_nil))))
    (pss_one (ps_ret (pe_callB (cr_all rfl) rfl T.f_all (by decide +kernel) (pa_cons (pe_lc (own := [("place", 3)]) (g := (gName 3)) (tt := tYes) rfl nd (pi_list (pv 1)) (blkOk_by (own := [("place", 3)]) (N := ["office", "places", "reached", "place"]) (sc := defScope s_can_be_reached) (by decide +kernel)) (fun _ _ _ _ _ => (pg_name (i := 3) nd rfl (Or.inl rfl))) (fun _ _ _ _ _ => pts_nil) (fun _ _ _ _ _ => (pe_ix ix_list (pv 2) (pv 3) (fun _ _ => rfl)))) pa_nil)))))
theorem ct_can_be_reached (T : Top K mg) : C8.Cal R.prog w K mg base 2 "can_be_reached" (sp_can_be_reached K) [] := by
  obtain ⟨fd, F⟩ := T.d_can_be_reached
  have F := fun_of F
  exact ⟨⟨_, fd, ["office", "places"], [], F.ok sc_can_be_reached (fun vs H Q E h => by
    unfold sp_can_be_reached at h
    skip
    repeat (first | (obtain ⟨hv, _⟩ := h; rw [hv]; done) | (obtain ⟨hv, _⟩ := h; rw [hv]; rfl) | (obtain ⟨_, h⟩ := h))) (fun cdv A outer s H vs Q E hr h => ⟨t_can_be_reached K, d_can_be_reached T (ct_reached_over T) hr, p_can_be_reached T vs H Q E h⟩), T.g_can_be_reached, F.kp, F.binds (ps := ["office", "places"]) fun _ _ _ _ _ _ us hl => match us, hl with | [_, _], _ => rfl, .nil⟩⟩
theorem d_shut_ways (T : Top K mg) (hr : Room 0 (A.deeper (envOfC "shut_ways" (defScope s_shut_ways) s.heap.objs.size f cdv))) :
    PSs (cxOf C8.CX0 R.prog w K mg base ["office", "number", "way"] "shut_ways" (defScope s_shut_ways) f cdv A outer s H E).nox (defBody s_shut_ways) (t_shut_ways K) := by
  have nd := sc_shut_ways.nd
  have hu := hu_of hr
  exact (pss_one (ps_ret (pe_lc (own := [("number", 1), ("way", 2)]) (g := (gTup K 2 (gCons (gName 1) (gCons (gName 2) gNil)))) (tt := (tAnd (tTest (tOp rGtI (tFld K (tVar 2) "work") (tC (.int 0)))) (tTest (tOp (rIn K true) (tVar 1) (tFld K (tVar 0) "jobs_done"))))) rfl nd (pi_enum rfl T.f_enumerate (pa_cons (pe_fld (pv 0) rfl) pa_nil)) (blkOk_by (own := [("number", 1), ("way", 2)]) (N := ["office", "number", "way"]) (sc := defScope s_shut_ways) (by decide +kernel)) (fun _ _ _ _ _ => (pg_tup rfl (pgs_cons (pg_name (i := 1) nd rfl (Or.inl rfl)) (pgs_cons (pg_name (i := 2) nd rfl (Or.inl rfl)) pgs_nil)))) (fun _ _ _ _ _ => (pts_one (PW.pt (pw_and (pt_cmpR op_gt (pe_fld (pv 2) rfl) pe_int (nomark _)) (pw_and1 (pt_cmpR op_notIn_seq (pv 1) (pe_fld (pv 0) rfl) rfl)))))) (fun _ _ _ _ _ => (pv 1)))))
theorem ct_shut_ways (T : Top K mg) : C8.Cal R.prog w K mg base 1 "shut_ways" (sp_shut_ways K) [] := by
  obtain ⟨fd, F⟩ := T.d_shut_ways
  have F := fun_of F
  exact ⟨⟨_, fd, ["office"], [], F.ok sc_shut_ways (fun vs H Q E h => by
    unfold sp_shut_ways at h
    skip
    repeat (first | (obtain ⟨hv, _⟩ := h; rw [hv]; done) | (obtain ⟨hv, _⟩ := h; rw [hv]; rfl) | (obtain ⟨_, h⟩ := h))) (fun cdv A outer s H vs Q E hr h => ⟨t_shut_ways K, d_shut_ways T  hr, p_shut_ways T vs H Q E h⟩), T.g_shut_ways, F.kp, F.binds (ps := ["office"]) fun _ _ _ _ _ _ us hl => match us, hl with | [_], _ => rfl, .nil⟩⟩
theorem d_needed_ways (T : Top K mg) (c_shut_ways : C8.Cal R.prog w K mg base 1 "shut_ways" (sp_shut_ways K) []) (c_reached_over : C8.Cal R.prog w K mg base 1 "reached_over" (sp_reached_over K) []) (hr : Room 1 (A.deeper (envOfC "needed_ways" (defScope s_needed_ways) s.heap.objs.size f cdv))) :
    PSs (cxOf C8.CX0 R.prog w K mg base ["office", "place", "found", "number", "others", "other", "way"] "needed_ways" (defScope s_needed_ways) f cdv A outer s H E).nox (defBody s_needed_ways) (t_needed_ways K) := by
  have nd := sc_needed_ways.nd
  have hu := hu_of hr
  exact (pss_cons (ps_set (i := 2) nd rfl (Or.inl rfl) (pe_lst pa_nil))
    (pss_cons (ps_for PassesOwn.never rfl (pi_list (C8.pe_c c_shut_ways hr (by decide) rfl (pa_cons (pv 0) pa_nil))) (pg_name (i := 3) nd rfl (Or.inr rfl)) (pss_cons (ps_setLc (i := 4) (own := [("other", 5), ("way", 6)]) (g := (gTup K 2 (gCons (gName 5) (gCons (gName 6) gNil)))) (tt := (tTest (tOp rNe (tVar 5) (tVar 3)))) rfl nd rfl rfl (sw_true rfl rfl rfl (by decide +kernel)) (pi_enum rfl T.f_enumerate (pa_cons (pe_fld (pv 0) rfl) pa_nil)) (blkOk_by (own := [("other", 5), ("way", 6)]) (N := ["office", "place", "found", "number", "others", "other", "way"]) (sc := defScope s_needed_ways) (by decide +kernel)) (fun _ _ _ _ _ => (pg_tup rfl (pgs_cons (pg_name (i := 5) nd rfl (Or.inl rfl)) (pgs_cons (pg_name (i := 6) nd rfl (Or.inl rfl)) pgs_nil)))) (fun _ _ _ _ _ => (pts_one (pt_cmpR op_ne (pv 5) (pv 3) (nomark _)))) (fun _ _ _ _ _ => (pv 6)))
    (pss_one (ps_if (pt_not (pt_val (pe_ix ix_list (C8.pe_c c_reached_over hr (by decide) rfl (pa_cons (pv 0) (pa_cons (pv 4) pa_nil))) (pv 1) (fun _ _ => rfl)))) (pss_one (ps_expr (pe_bm PySem.F.plainAttrs_list PySem.F.slot_list_append PySem.F.type_list_append mt_append (pv 2) (pa_cons (pv 3) pa_nil)))) pss_nil))))
    (pss_one (ps_ret (pv 2)))))
theorem ct_needed_ways (T : Top K mg) : C8.Cal R.prog w K mg base 2 "needed_ways" (sp_needed_ways K) [] := by
  obtain ⟨fd, F⟩ := T.d_needed_ways
  have F := fun_of F
  exact ⟨⟨_, fd, ["office", "place"], [], F.ok sc_needed_ways (fun vs H Q E h => by
    unfold sp_needed_ways at h
    skip
    repeat (first | (obtain ⟨hv, _⟩ := h; rw [hv]; done) | (obtain ⟨hv, _⟩ := h; rw [hv]; rfl) | (obtain ⟨_, h⟩ := h))) (fun cdv A outer s H vs Q E hr h => ⟨t_needed_ways K, d_needed_ways T (ct_shut_ways T) (ct_reached_over T) hr, p_needed_ways T vs H Q E h⟩), T.g_needed_ways, F.kp, F.binds (ps := ["office", "place"]) fun _ _ _ _ _ _ us hl => match us, hl with | [_, _], _ => rfl, .nil⟩⟩
theorem d_must (T : Top K mg) (c_Officehas_place : C8.Met R.prog w K mg base 1 (He.ga K "Office") "has_place" (sp_Officehas_place K) []) (c_can_be_reached : C8.Cal R.prog w K mg base 2 "can_be_reached" (sp_can_be_reached K) []) (c_needed_ways : C8.Cal R.prog w K mg base 2 "needed_ways" (sp_needed_ways K) []) (hr : Room 2 (A.deeper (envOfC "must" (defScope s_must) s.heap.objs.size f cdv))) :
    PSs (cxOf C8.CX0 R.prog w K mg base ["office", "numbers", "row", "place"] "must" (defScope s_must) f cdv A outer s H E).nox (defBody s_must) (t_must K) := by
  have nd := sc_must.nd
  have hu := hu_of hr
  exact (pss_cons (ps_set (i := 3) nd rfl (Or.inl rfl) (pe_ix ix_list (pv 1) pe_int (fun _ _ => rfl)))
    (pss_cons (ps_if (pt_not (pt_val (C8.pe_mt c_Officehas_place hr (by decide) (pv 0) (pa_cons (pv 3) pa_nil)))) (pss_one (ps_ret (pe_lst (pa_cons (C8.pe_gc rfl T.c_NOT_THERE) pa_nil)))) pss_nil)
    (pss_cons (ps_if (pt_not (pt_val (C8.pe_c c_can_be_reached hr (by decide) rfl (pa_cons (pv 0) (pa_cons (pe_lst (pa_cons (pv 3) pa_nil)) pa_nil))))) (pss_one (ps_ret (pe_lst (pa_cons (C8.pe_gc rfl T.c_CANNOT_BE) pa_nil)))) pss_nil)
    (pss_one (ps_ret (pe_op op_cat (pe_lst (pa_cons pe_int pa_nil)) (C8.pe_c c_needed_ways hr (by decide) rfl (pa_cons (pv 0) (pa_cons (pv 3) pa_nil)))))))))
theorem ct_must (T : Top K mg) : C8.Cal R.prog w K mg base 3 "must" (sp_must K) [] := by
  obtain ⟨fd, F⟩ := T.d_must
  have F := fun_of F
  exact ⟨⟨_, fd, ["office", "numbers", "row"], [], F.ok sc_must (fun vs H Q E h => by
    unfold sp_must at h
    unfold sp_deed at h
    repeat (first | (obtain ⟨hv, _⟩ := h; rw [hv]; done) | (obtain ⟨hv, _⟩ := h; rw [hv]; rfl) | (obtain ⟨_, h⟩ := h))) (fun cdv A outer s H vs Q E hr h => ⟨t_must K, d_must T (ct_Officehas_place T) (ct_can_be_reached T) (ct_needed_ways T) hr, p_must T vs H Q E h⟩), T.g_must, F.kp, F.binds (ps := ["office", "numbers", "row"]) fun _ _ _ _ _ _ us hl => match us, hl with | [_, _, _], _ => rfl, .nil⟩⟩
theorem d_all_sets (T : Top K mg) (hr : Room 0 (A.deeper (envOfC "all_sets" (defScope s_all_sets) s.heap.objs.size f cdv))) :
    PSs (cxOf C8.CX0 R.prog w K mg base ["numbers", "sets", "number", "members"] "all_sets" (defScope s_all_sets) f cdv A outer s H E).nox (defBody s_all_sets) (t_all_sets K) := by
  have nd := sc_all_sets.nd
  have hu := hu_of hr
  exact (pss_cons (ps_set (i := 1) nd rfl (Or.inl rfl) (pe_lst (pa_cons (pe_lst pa_nil) pa_nil)))
    (pss_cons (ps_for PassesOwn.never rfl (pi_list (pv 0)) (pg_name (i := 2) nd rfl (Or.inr rfl)) (pss_one (ps_set (i := 1) nd rfl (Or.inl rfl) (pe_op op_cat (pv 1) (pe_lc (own := [("members", 3)]) (g := (gName 3)) (tt := tYes) rfl nd (pi_list (pv 1)) (blkOk_by (own := [("members", 3)]) (N := ["numbers", "sets", "number", "members"]) (sc := defScope s_all_sets) (by decide +kernel)) (fun _ _ _ _ _ => (pg_name (i := 3) nd rfl (Or.inl rfl))) (fun _ _ _ _ _ => pts_nil) (fun _ _ _ _ _ => (pe_op op_cat (pv 3) (pe_lst (pa_cons (pv 2) pa_nil)))))))))
    (pss_one (ps_ret (pv 1)))))
theorem ct_all_sets (T : Top K mg) : C8.Cal R.prog w K mg base 1 "all_sets" (sp_all_sets K) [] := by
  obtain ⟨fd, F⟩ := T.d_all_sets
  have F := fun_of F
  exact ⟨⟨_, fd, ["numbers"], [], F.ok sc_all_sets (fun vs H Q E h => by
    unfold sp_all_sets at h
    skip
    repeat (first | (obtain ⟨hv, _⟩ := h; rw [hv]; done) | (obtain ⟨hv, _⟩ := h; rw [hv]; rfl) | (obtain ⟨_, h⟩ := h))) (fun cdv A outer s H vs Q E hr h => ⟨t_all_sets K, d_all_sets T  hr, p_all_sets T vs H Q E h⟩), T.g_all_sets, F.kp, F.binds (ps := ["numbers"]) fun _ _ _ _ _ _ us hl => match us, hl with | [_], _ => rfl, .nil⟩⟩
theorem d_opens_all (T : Top K mg) (c_reached_with : C8.Cal R.prog w K mg base 2 "reached_with" (sp_reached_with K) []) (hr : Room 2 (A.deeper (envOfC "opens_all" (defScope s_opens_all) s.heap.objs.size f cdv))) :
    PSs (cxOf C8.CX0 R.prog w K mg base ["office", "ways", "places", "reached", "place"] "opens_all" (defScope s_opens_all) f cdv A outer s H E).nox (defBody s_opens_all) (t_opens_all K) := by
  have nd := sc_opens_all.nd
  have hu := hu_of hr
  exact (pss_cons (ps_set (i := 3) nd rfl (Or.inr rfl) (C8.pe_c c_reached_with hr (by decide) rfl (pa_cons (pv 0) (pa_cons (pe_op op_cat (pe_fld (pv 0) rfl) (pv 1)) pa_nil))))
    (pss_one (ps_ret (pe_callB (cr_all rfl) rfl T.f_all (by decide +kernel) (pa_cons (pe_lc (own := [("place", 4)]) (g := (gName 4)) (tt := tYes) rfl nd (pi_list (pv 2)) (blkOk_by (own := [("place", 4)]) (N := ["office", "ways", "places", "reached", "place"]) (sc := defScope s_opens_all) (by decide +kernel)) (fun _ _ _ _ _ => (pg_name (i := 4) nd rfl (Or.inl rfl))) (fun _ _ _ _ _ => pts_nil) (fun _ _ _ _ _ => (pe_ix ix_list (pv 3) (pv 4) (fun _ _ => rfl)))) pa_nil)))))
theorem ct_opens_all (T : Top K mg) : C8.Cal R.prog w K mg base 3 "opens_all" (sp_opens_all K) [] := by
  obtain ⟨fd, F⟩ := T.d_opens_all
  have F := fun_of F
  exact ⟨⟨_, fd, ["office", "ways", "places"], [], F.ok sc_opens_all (fun vs H Q E h => by
    unfold sp_opens_all at h
    skip
    repeat (first | (obtain ⟨hv, _⟩ := h; rw [hv]; done) | (obtain ⟨hv, _⟩ := h; rw [hv]; rfl) | (obtain ⟨_, h⟩ := h))) (fun cdv A outer s H vs Q E hr h => ⟨t_opens_all K, d_opens_all T (ct_reached_with T) hr, p_opens_all T vs H Q E h⟩), T.g_opens_all, F.kp, F.binds (ps := ["office", "ways", "places"]) fun _ _ _ _ _ _ us hl => match us, hl with | [_, _, _], _ => rfl, .nil⟩⟩
theorem d_least_opening (T : Top K mg) (c_all_sets : C8.Cal R.prog w K mg base 1 "all_sets" (sp_all_sets K) []) (c_shut_ways : C8.Cal R.prog w K mg base 1 "shut_ways" (sp_shut_ways K) []) (c_opens_all : C8.Cal R.prog w K mg base 3 "opens_all" (sp_opens_all K) []) (c_hours_of : C8.Cal R.prog w K mg base 2 "hours_of" (sp_hours_of K) []) (hr : Room 3 (A.deeper (envOfC "least_opening" (defScope s_least_opening) s.heap.objs.size f cdv))) :
    PSs (cxOf C8.CX0 R.prog w K mg base ["office", "places", "fitting", "ways"] "least_opening" (defScope s_least_opening) f cdv A outer s H E).nox (defBody s_least_opening) (t_least_opening K) := by
  have nd := sc_least_opening.nd
  have hu := hu_of hr
  exact (pss_cons (ps_setLc (i := 2) (own := [("ways", 3)]) (g := (gName 3)) (tt := (tB (tCall (sp_opens_all K) [] C8.E0 (tCons (tVar 0) (tCons (tVar 3) (tCons (tVar 1) tNil)))))) rfl nd rfl rfl (sw_true rfl rfl rfl (by decide +kernel)) (pi_list (C8.pe_c c_all_sets hr (by decide) rfl (pa_cons (C8.pe_c c_shut_ways hr (by decide) rfl (pa_cons (pv 0) pa_nil)) pa_nil))) (blkOk_by (own := [("ways", 3)]) (N := ["office", "places", "fitting", "ways"]) (sc := defScope s_least_opening) (by decide +kernel)) (fun _ _ _ _ _ => (pg_name (i := 3) nd rfl (Or.inl rfl))) (fun _ _ _ _ _ => (pts_one (pt_val (C8.pe_c c_opens_all hr (by decide) rfl (pa_cons (pv 0) (pa_cons (pv 3) (pa_cons (pv 1) pa_nil))))))) (fun _ _ _ _ _ => (pe_tup (pa_cons (C8.pe_c c_hours_of hr (by decide) rfl (pa_cons (pv 0) (pa_cons (pv 3) pa_nil))) (pa_cons (pe_callB call_len_seq rfl T.f_len (by decide +kernel) (pa_cons (pv 3) pa_nil)) (pa_cons (pv 3) pa_nil))))))
    (pss_one (ps_ret (pe_callB (cr_minD rfl hr.units) rfl T.f_min (by decide +kernel) (pa_cons (pv 2) pa_nil)))))
theorem ct_least_opening (T : Top K mg) : C8.Cal R.prog w K mg base 4 "least_opening" (sp_least_opening K) [] := by
  obtain ⟨fd, F⟩ := T.d_least_opening
  have F := fun_of F
  exact ⟨⟨_, fd, ["office", "places"], [], F.ok sc_least_opening (fun vs H Q E h => by
    unfold sp_least_opening at h
    skip
    repeat (first | (obtain ⟨hv, _⟩ := h; rw [hv]; done) | (obtain ⟨hv, _⟩ := h; rw [hv]; rfl) | (obtain ⟨_, h⟩ := h))) (fun cdv A outer s H vs Q E hr h => ⟨t_least_opening K, d_least_opening T (ct_all_sets T) (ct_shut_ways T) (ct_opens_all T) (ct_hours_of T) hr, p_least_opening T vs H Q E h⟩), T.g_least_opening, F.kp, F.binds (ps := ["office", "places"]) fun _ _ _ _ _ _ us hl => match us, hl with | [_, _], _ => rfl, .nil⟩⟩
theorem d_least (T : Top K mg) (c_Officehas_place : C8.Met R.prog w K mg base 1 (He.ga K "Office") "has_place" (sp_Officehas_place K) []) (c_can_be_reached : C8.Cal R.prog w K mg base 2 "can_be_reached" (sp_can_be_reached K) []) (c_least_opening : C8.Cal R.prog w K mg base 4 "least_opening" (sp_least_opening K) []) (hr : Room 4 (A.deeper (envOfC "least" (defScope s_least) s.heap.objs.size f cdv))) :
    PSs (cxOf C8.CX0 R.prog w K mg base ["office", "numbers", "row", "hours", "many", "ways", "place"] "least" (defScope s_least) f cdv A outer s H E).nox (defBody s_least) (t_least K) := by
  have nd := sc_least.nd
  have hu := hu_of hr
  exact (pss_cons (ps_if (pt_not (pt_val (pe_callB (cr_all rfl) rfl T.f_all (by decide +kernel) (pa_cons (pe_lc (own := [("place", 6)]) (g := (gName 6)) (tt := tYes) rfl nd (pi_list (pv 2)) (blkOk_by (own := [("place", 6)]) (N := ["office", "numbers", "row", "hours", "many", "ways", "place"]) (sc := defScope s_least) (by decide +kernel)) (fun _ _ _ _ _ => (pg_name (i := 6) nd rfl (Or.inl rfl))) (fun _ _ _ _ _ => pts_nil) (fun _ _ _ _ _ => (C8.pe_mt c_Officehas_place hr (by decide) (pv 0) (pa_cons (pv 6) pa_nil)))) pa_nil)))) (pss_one (ps_ret (pe_lst (pa_cons (C8.pe_gc rfl T.c_NOT_THERE) pa_nil)))) pss_nil)
    (pss_cons (ps_if (pt_not (pt_val (C8.pe_c c_can_be_reached hr (by decide) rfl (pa_cons (pv 0) (pa_cons (pv 2) pa_nil))))) (pss_one (ps_ret (pe_lst (pa_cons (C8.pe_gc rfl T.c_CANNOT_BE) pa_nil)))) pss_nil)
    (pss_cons (ps_asg (C8.pe_c c_least_opening hr (by decide) rfl (pa_cons (pv 0) (pa_cons (pv 2) pa_nil))) (pg_tup rfl (pgs_cons (pg_name (i := 3) nd rfl (Or.inl rfl)) (pgs_cons (pg_name (i := 4) nd rfl (Or.inl rfl)) (pgs_cons (pg_name (i := 5) nd rfl (Or.inl rfl)) pgs_nil)))))
    (pss_one (ps_ret (pe_op op_cat (pe_lst (pa_cons pe_int (pa_cons (pv 3) pa_nil))) (pv 5)))))))
theorem ct_least (T : Top K mg) : C8.Cal R.prog w K mg base 5 "least" (sp_least K) [] := by
  obtain ⟨fd, F⟩ := T.d_least
  have F := fun_of F
  exact ⟨⟨_, fd, ["office", "numbers", "row"], [], F.ok sc_least (fun vs H Q E h => by
    unfold sp_least at h
    unfold sp_deed at h
    repeat (first | (obtain ⟨hv, _⟩ := h; rw [hv]; done) | (obtain ⟨hv, _⟩ := h; rw [hv]; rfl) | (obtain ⟨_, h⟩ := h))) (fun cdv A outer s H vs Q E hr h => ⟨t_least K, d_least T (ct_Officehas_place T) (ct_can_be_reached T) (ct_least_opening T) hr, p_least T vs H Q E h⟩), T.g_least, F.kp, F.binds (ps := ["office", "numbers", "row"]) fun _ _ _ _ _ _ us hl => match us, hl with | [_, _, _], _ => rfl, .nil⟩⟩
theorem d_tried (T : Top K mg) (c_hindrance : C8.Cal R.prog w K mg base 3 "hindrance" (sp_hindrance K) []) (c_loss_of : C8.Cal R.prog w K mg base 2 "loss_of" (sp_loss_of K) []) (c_day_after : C8.Cal R.prog w K mg base 1 "day_after" (sp_day_after K) []) (c_hours_of : C8.Cal R.prog w K mg base 2 "hours_of" (sp_hours_of K) []) (hr : Room 3 (A.deeper (envOfC "tried" (defScope s_tried) s.heap.objs.size f cdv))) :
    PSs (cxOf C8.CX0 R.prog w K mg base ["office", "row", "jobs_done", "lost", "at", "job", "refusal"] "tried" (defScope s_tried) f cdv A outer s H E).nox (defBody s_tried) (t_tried K) := by
  have nd := sc_tried.nd
  have hu := hu_of hr
  exact (pss_cons (ps_set (i := 2) nd rfl (Or.inl rfl) (pe_callTy call_list_of rfl T.f_list (by decide +kernel) (pa_cons (pe_fld (pv 0) rfl) pa_nil)))
    (pss_cons (ps_set (i := 3) nd rfl (Or.inl rfl) pe_int)
    (pss_cons (ps_for PassesOwn.never rfl (pi_enum rfl T.f_enumerate (pa_cons (pv 1) pa_nil)) (pg_tup rfl (pgs_cons (pg_name (i := 4) nd rfl (Or.inl rfl)) (pgs_cons (pg_name (i := 5) nd rfl (Or.inl rfl)) pgs_nil))) (pss_cons (ps_set (i := 6) nd rfl (Or.inl rfl) (C8.pe_c c_hindrance hr (by decide) rfl (pa_cons (pv 0) (pa_cons (pv 2) (pa_cons (pv 5) pa_nil)))))
    (pss_cons (ps_if (pt_cmpR op_lt (pv 6) pe_int (nomark _)) (pss_one (ps_ret (pe_lst (pa_cons pe_int (pa_cons (pv 4) (pa_cons (pe_un un_neg (pv 6)) pa_nil)))))) pss_nil)
    (pss_cons (ps_expr (pe_bm PySem.F.plainAttrs_list PySem.F.slot_list_append PySem.F.type_list_append mt_append (pv 2) (pa_cons (pv 5) pa_nil)))
    (pss_one (ps_aug (i := 3) nd rfl (Or.inl rfl) (C8.pe_c c_loss_of hr (by decide) rfl (pa_cons (pv 0) (pa_cons (pv 5) (pa_cons (C8.pe_c c_day_after hr (by decide) rfl (pa_cons (pv 0) (pa_cons (pe_fld (pv 0) rfl) (pa_cons (C8.pe_c c_hours_of hr (by decide) rfl (pa_cons (pv 0) (pa_cons (pv 2) pa_nil))) pa_nil)))) pa_nil)))) ip_add))))))
    (pss_one (ps_ret (pe_lst (pa_cons pe_int (pa_cons (pv 3) (pa_cons (C8.pe_c c_day_after hr (by decide) rfl (pa_cons (pv 0) (pa_cons (pe_fld (pv 0) rfl) (pa_cons (C8.pe_c c_hours_of hr (by decide) rfl (pa_cons (pv 0) (pa_cons (pv 2) pa_nil))) pa_nil)))) pa_nil)))))))))
theorem ct_tried (T : Top K mg) : C8.Cal R.prog w K mg base 4 "tried" (sp_tried K) [] := by
  obtain ⟨fd, F⟩ := T.d_tried
  have F := fun_of F
  exact ⟨⟨_, fd, ["office", "row"], [], F.ok sc_tried (fun vs H Q E h => by
    unfold sp_tried at h
    skip
    repeat (first | (obtain ⟨hv, _⟩ := h; rw [hv]; done) | (obtain ⟨hv, _⟩ := h; rw [hv]; rfl) | (obtain ⟨_, h⟩ := h))) (fun cdv A outer s H vs Q E hr h => ⟨t_tried K, d_tried T (ct_hindrance T) (ct_loss_of T) (ct_day_after T) (ct_hours_of T) hr, p_tried T vs H Q E h⟩), T.g_tried, F.kp, F.binds (ps := ["office", "row"]) fun _ _ _ _ _ _ us hl => match us, hl with | [_, _], _ => rfl, .nil⟩⟩
theorem d_try_jobs (T : Top K mg) (c_tried : C8.Cal R.prog w K mg base 4 "tried" (sp_tried K) []) (hr : Room 4 (A.deeper (envOfC "try_jobs" (defScope s_try_jobs) s.heap.objs.size f cdv))) :
    PSs (cxOf C8.CX0 R.prog w K mg base ["office", "numbers", "row"] "try_jobs" (defScope s_try_jobs) f cdv A outer s H E).nox (defBody s_try_jobs) (t_try_jobs K) := by
  have nd := sc_try_jobs.nd
  have hu := hu_of hr
  exact (pss_one (ps_ret (C8.pe_c c_tried hr (by decide) rfl (pa_cons (pv 0) (pa_cons (pv 2) pa_nil)))))
theorem ct_try_jobs (T : Top K mg) : C8.Cal R.prog w K mg base 5 "try_jobs" (sp_try_jobs K) [] := by
  obtain ⟨fd, F⟩ := T.d_try_jobs
  have F := fun_of F
  exact ⟨⟨_, fd, ["office", "numbers", "row"], [], F.ok sc_try_jobs (fun vs H Q E h => by
    unfold sp_try_jobs at h
    unfold sp_deed at h
    repeat (first | (obtain ⟨hv, _⟩ := h; rw [hv]; done) | (obtain ⟨hv, _⟩ := h; rw [hv]; rfl) | (obtain ⟨_, h⟩ := h))) (fun cdv A outer s H vs Q E hr h => ⟨t_try_jobs K, d_try_jobs T (ct_tried T) hr, p_try_jobs T vs H Q E h⟩), T.g_try_jobs, F.kp, F.binds (ps := ["office", "numbers", "row"]) fun _ _ _ _ _ _ us hl => match us, hl with | [_, _, _], _ => rfl, .nil⟩⟩
theorem d_how_many_sets (T : Top K mg) (hr : Room 0 (A.deeper (envOfC "how_many_sets" (defScope s_how_many_sets) s.heap.objs.size f cdv))) :
    PSs (cxOf C8.CX0 R.prog w K mg base ["jobs"] "how_many_sets" (defScope s_how_many_sets) f cdv A outer s H E).nox (defBody s_how_many_sets) (t_how_many_sets K) := by
  have nd := sc_how_many_sets.nd
  have hu := hu_of hr
  exact (pss_one (ps_ret (pe_op op_shl pe_int (pe_callB call_len_seq rfl T.f_len (by decide +kernel) (pa_cons (pv 0) pa_nil)))))
theorem ct_how_many_sets (T : Top K mg) : C8.Cal R.prog w K mg base 1 "how_many_sets" (sp_how_many_sets K) [] := by
  obtain ⟨fd, F⟩ := T.d_how_many_sets
  have F := fun_of F
  exact ⟨⟨_, fd, ["jobs"], [], F.ok sc_how_many_sets (fun vs H Q E h => by
    unfold sp_how_many_sets at h
    skip
    repeat (first | (obtain ⟨hv, _⟩ := h; rw [hv]; done) | (obtain ⟨hv, _⟩ := h; rw [hv]; rfl) | (obtain ⟨_, h⟩ := h))) (fun cdv A outer s H vs Q E hr h => ⟨t_how_many_sets K, d_how_many_sets T  hr, p_how_many_sets T vs H Q E h⟩), T.g_how_many_sets, F.kp, F.binds (ps := ["jobs"]) fun _ _ _ _ _ _ us hl => match us, hl with | [_], _ => rfl, .nil⟩⟩
theorem d_has (T : Top K mg) (hr : Room 0 (A.deeper (envOfC "has" (defScope s_has) s.heap.objs.size f cdv))) :
    PSs (cxOf C8.CX0 R.prog w K mg base ["members", "at"] "has" (defScope s_has) f cdv A outer s H E).nox (defBody s_has) (t_has K) := by
  have nd := sc_has.nd
  have hu := hu_of hr
  exact (pss_one (ps_ret (pe_cmpR op_eq (pe_op op_and (pe_op op_shr (pv 0) (pv 1)) pe_int) pe_int (nomark _))))
theorem ct_has (T : Top K mg) : C8.Cal R.prog w K mg base 1 "has" (sp_has K) [] := by
  obtain ⟨fd, F⟩ := T.d_has
  have F := fun_of F
  exact ⟨⟨_, fd, ["members", "at"], [], F.ok sc_has (fun vs H Q E h => by
    unfold sp_has at h
    skip
    repeat (first | (obtain ⟨hv, _⟩ := h; rw [hv]; done) | (obtain ⟨hv, _⟩ := h; rw [hv]; rfl) | (obtain ⟨_, h⟩ := h))) (fun cdv A outer s H vs Q E hr h => ⟨t_has K, d_has T  hr, p_has T vs H Q E h⟩), T.g_has, F.kp, F.binds (ps := ["members", "at"]) fun _ _ _ _ _ _ us hl => match us, hl with | [_, _], _ => rfl, .nil⟩⟩
theorem d_jobs_in (T : Top K mg) (c_has : C8.Cal R.prog w K mg base 1 "has" (sp_has K) []) (hr : Room 1 (A.deeper (envOfC "jobs_in" (defScope s_jobs_in) s.heap.objs.size f cdv))) :
    PSs (cxOf C8.CX0 R.prog w K mg base ["jobs", "members", "at", "job"] "jobs_in" (defScope s_jobs_in) f cdv A outer s H E).nox (defBody s_jobs_in) (t_jobs_in K) := by
  have nd := sc_jobs_in.nd
  have hu := hu_of hr
  exact (pss_one (ps_ret (pe_lc (own := [("at", 2), ("job", 3)]) (g := (gTup K 2 (gCons (gName 2) (gCons (gName 3) gNil)))) (tt := (tB (tCall (sp_has K) [] C8.E0 (tCons (tVar 1) (tCons (tVar 2) tNil))))) rfl nd (pi_enum rfl T.f_enumerate (pa_cons (pv 0) pa_nil)) (blkOk_by (own := [("at", 2), ("job", 3)]) (N := ["jobs", "members", "at", "job"]) (sc := defScope s_jobs_in) (by decide +kernel)) (fun _ _ _ _ _ => (pg_tup rfl (pgs_cons (pg_name (i := 2) nd rfl (Or.inl rfl)) (pgs_cons (pg_name (i := 3) nd rfl (Or.inl rfl)) pgs_nil)))) (fun _ _ _ _ _ => (pts_one (pt_val (C8.pe_c c_has hr (by decide) rfl (pa_cons (pv 1) (pa_cons (pv 2) pa_nil)))))) (fun _ _ _ _ _ => (pv 3)))))
theorem ct_jobs_in (T : Top K mg) : C8.Cal R.prog w K mg base 2 "jobs_in" (sp_jobs_in K) [] := by
  obtain ⟨fd, F⟩ := T.d_jobs_in
  have F := fun_of F
  exact ⟨⟨_, fd, ["jobs", "members"], [], F.ok sc_jobs_in (fun vs H Q E h => by
    unfold sp_jobs_in at h
    skip
    repeat (first | (obtain ⟨hv, _⟩ := h; rw [hv]; done) | (obtain ⟨hv, _⟩ := h; rw [hv]; rfl) | (obtain ⟨_, h⟩ := h))) (fun cdv A outer s H vs Q E hr h => ⟨t_jobs_in K, d_jobs_in T (ct_has T) hr, p_jobs_in T vs H Q E h⟩), T.g_jobs_in, F.kp, F.binds (ps := ["jobs", "members"]) fun _ _ _ _ _ _ us hl => match us, hl with | [_, _], _ => rfl, .nil⟩⟩
theorem d_steps_from (T : Top K mg) (c_jobs_in : C8.Cal R.prog w K mg base 2 "jobs_in" (sp_jobs_in K) []) (c_reached_with : C8.Cal R.prog w K mg base 2 "reached_with" (sp_reached_with K) []) (c_hours_of : C8.Cal R.prog w K mg base 2 "hours_of" (sp_hours_of K) []) (c_has : C8.Cal R.prog w K mg base 1 "has" (sp_has K) []) (c_is_at_hand : C8.Cal R.prog w K mg base 2 "is_at_hand" (sp_is_at_hand K) []) (c_day_after : C8.Cal R.prog w K mg base 1 "day_after" (sp_day_after K) []) (c_work_of : C8.Cal R.prog w K mg base 1 "work_of" (sp_work_of K) []) (hr : Room 2 (A.deeper (envOfC "steps_from" (defScope s_steps_from) s.heap.objs.size f cdv))) :
    PSs (cxOf C8.CX0 R.prog w K mg base ["office", "hours_a_day", "jobs", "members", "jobs_done", "reached", "hours", "found", "at", "job"] "steps_from" (defScope s_steps_from) f cdv A outer s H E).nox (defBody s_steps_from) (t_steps_from K) := by
  have nd := sc_steps_from.nd
  have hu := hu_of hr
  exact (pss_cons (ps_set (i := 4) nd rfl (Or.inl rfl) (pe_op op_cat (pe_fld (pv 0) rfl) (C8.pe_c c_jobs_in hr (by decide) rfl (pa_cons (pv 2) (pa_cons (pv 3) pa_nil)))))
    (pss_cons (ps_set (i := 5) nd rfl (Or.inl rfl) (C8.pe_c c_reached_with hr (by decide) rfl (pa_cons (pv 0) (pa_cons (pv 4) pa_nil))))
    (pss_cons (ps_set (i := 6) nd rfl (Or.inl rfl) (C8.pe_c c_hours_of hr (by decide) rfl (pa_cons (pv 0) (pa_cons (pv 4) pa_nil))))
    (pss_cons (ps_set (i := 7) nd rfl (Or.inl rfl) (pe_lst pa_nil))
    (pss_cons (ps_for PassesOwn.never rfl (pi_enum rfl T.f_enumerate (pa_cons (pv 2) pa_nil)) (pg_tup rfl (pgs_cons (pg_name (i := 8) nd rfl (Or.inl rfl)) (pgs_cons (pg_name (i := 9) nd rfl (Or.inl rfl)) pgs_nil))) (pss_one (ps_if (PW.pt (pw_and (pt_not (pt_val (C8.pe_c c_has hr (by decide) rfl (pa_cons (pv 3) (pa_cons (pv 8) pa_nil))))) (pw_and1 (pt_val (C8.pe_c c_is_at_hand hr (by decide) rfl (pa_cons (pv 0) (pa_cons (pv 5) (pa_cons (pv 9) pa_nil)))))))) (pss_one (ps_expr (pe_bm PySem.F.plainAttrs_list PySem.F.slot_list_append PySem.F.type_list_append mt_append (pv 7) (pa_cons (pe_tup (pa_cons (pv 8) (pa_cons (C8.pe_c c_day_after hr (by decide) rfl (pa_cons (pv 0) (pa_cons (pv 1) (pa_cons (pe_op op_add (pv 6) (C8.pe_c c_work_of hr (by decide) rfl (pa_cons (pv 0) (pa_cons (pv 9) pa_nil)))) pa_nil)))) pa_nil))) pa_nil)))) pss_nil)))
    (pss_one (ps_ret (pv 7))))))))
theorem ct_steps_from (T : Top K mg) : C8.Cal R.prog w K mg base 3 "steps_from" (sp_steps_from K) [] := by
  obtain ⟨fd, F⟩ := T.d_steps_from
  have F := fun_of F
  exact ⟨⟨_, fd, ["office", "hours_a_day", "jobs", "members"], [], F.ok sc_steps_from (fun vs H Q E h => by
    unfold sp_steps_from at h
    skip
    repeat (first | (obtain ⟨hv, _⟩ := h; rw [hv]; done) | (obtain ⟨hv, _⟩ := h; rw [hv]; rfl) | (obtain ⟨_, h⟩ := h))) (fun cdv A outer s H vs Q E hr h => ⟨t_steps_from K, d_steps_from T (ct_jobs_in T) (ct_reached_with T) (ct_hours_of T) (ct_has T) (ct_is_at_hand T) (ct_day_after T) (ct_work_of T) hr, p_steps_from T vs H Q E h⟩), T.g_steps_from, F.kp, F.binds (ps := ["office", "hours_a_day", "jobs", "members"]) fun _ _ _ _ _ _ us hl => match us, hl with | [_, _, _, _], _ => rfl, .nil⟩⟩
theorem d_joined (T : Top K mg) (hr : Room 0 (A.deeper (envOfC "joined" (defScope s_joined) s.heap.objs.size f cdv))) :
    PSs (cxOf C8.CX0 R.prog w K mg base ["members", "at"] "joined" (defScope s_joined) f cdv A outer s H E).nox (defBody s_joined) (t_joined K) := by
  have nd := sc_joined.nd
  have hu := hu_of hr
  exact (pss_one (ps_ret (pe_op op_or (pv 0) (pe_op op_shl pe_int (pv 1)))))
theorem ct_joined (T : Top K mg) : C8.Cal R.prog w K mg base 1 "joined" (sp_joined K) [] := by
  obtain ⟨fd, F⟩ := T.d_joined
  have F := fun_of F
  exact ⟨⟨_, fd, ["members", "at"], [], F.ok sc_joined (fun vs H Q E h => by
    unfold sp_joined at h
    skip
    repeat (first | (obtain ⟨hv, _⟩ := h; rw [hv]; done) | (obtain ⟨hv, _⟩ := h; rw [hv]; rfl) | (obtain ⟨_, h⟩ := h))) (fun cdv A outer s H vs Q E hr h => ⟨t_joined K, d_joined T  hr, p_joined T vs H Q E h⟩), T.g_joined, F.kp, F.binds (ps := ["members", "at"]) fun _ _ _ _ _ _ us hl => match us, hl with | [_, _], _ => rfl, .nil⟩⟩
theorem d_least_losses (T : Top K mg) (c_how_many_sets : C8.Cal R.prog w K mg base 1 "how_many_sets" (sp_how_many_sets K) []) (c_steps_from : C8.Cal R.prog w K mg base 3 "steps_from" (sp_steps_from K) []) (c_loss_of : C8.Cal R.prog w K mg base 2 "loss_of" (sp_loss_of K) []) (c_joined : C8.Cal R.prog w K mg base 1 "joined" (sp_joined K) []) (hr : Room 3 (A.deeper (envOfC "least_losses" (defScope s_least_losses) s.heap.objs.size f cdv))) :
    PSs (cxOf C8.CX0 R.prog w K mg base ["office", "hours_a_day", "jobs", "losses", "members", "ways_on", "at", "day"] "least_losses" (defScope s_least_losses) f cdv A outer s H E).nox (defBody s_least_losses) (t_least_losses K) := by
  have nd := sc_least_losses.nd
  have hu := hu_of hr
  exact (pss_cons (ps_set (i := 3) nd rfl (Or.inr rfl) (pe_op op_rep (pe_lst (pa_cons pe_int pa_nil)) (C8.pe_c c_how_many_sets hr (by decide) rfl (pa_cons (pv 2) pa_nil))))
    (pss_cons (ps_for PassesOwn.never rfl (pi_range3 rfl T.f_range (pa_cons (pe_op op_sub (C8.pe_c c_how_many_sets hr (by decide) rfl (pa_cons (pv 2) pa_nil)) pe_int) (pa_cons (pe_un un_neg pe_int) (pa_cons (pe_un un_neg pe_int) pa_nil)))) (pg_name (i := 4) nd rfl (Or.inr rfl)) (pss_cons (ps_setLc (i := 5) (own := [("at", 6), ("day", 7)]) (g := (gTup K 2 (gCons (gName 6) (gCons (gName 7) gNil)))) (tt := tYes) rfl nd rfl rfl (sw_true rfl rfl rfl (by decide +kernel)) (pi_list (C8.pe_c c_steps_from hr (by decide) rfl (pa_cons (pv 0) (pa_cons (pv 1) (pa_cons (pv 2) (pa_cons (pv 4) pa_nil)))))) (blkOk_by (own := [("at", 6), ("day", 7)]) (N := ["office", "hours_a_day", "jobs", "losses", "members", "ways_on", "at", "day"]) (sc := defScope s_least_losses) (by decide +kernel)) (fun _ _ _ _ _ => (pg_tup rfl (pgs_cons (pg_name (i := 6) nd rfl (Or.inl rfl)) (pgs_cons (pg_name (i := 7) nd rfl (Or.inl rfl)) pgs_nil)))) (fun _ _ _ _ _ => pts_nil) (fun _ _ _ _ _ => (pe_op op_add (C8.pe_c c_loss_of hr (by decide) rfl (pa_cons (pv 0) (pa_cons (pe_ix ix_list (pv 2) (pv 6) (fun _ _ => rfl)) (pa_cons (pv 7) pa_nil)))) (pe_ix ix_list (pv 3) (C8.pe_c c_joined hr (by decide) rfl (pa_cons (pv 4) (pa_cons (pv 6) pa_nil))) (fun _ _ => rfl)))))
    (pss_one (ps_asg (pe_callB (cr_min rfl) rfl T.f_min (by decide +kernel) (pa_cons (pv 5) pa_nil)) (pg_sub (pv 3) (pv 4) set_list)))))
    (pss_one (ps_ret (pv 3)))))
theorem ct_least_losses (T : Top K mg) : C8.Cal R.prog w K mg base 4 "least_losses" (sp_least_losses K) [] := by
  obtain ⟨fd, F⟩ := T.d_least_losses
  have F := fun_of F
  exact ⟨⟨_, fd, ["office", "hours_a_day", "jobs"], [], F.ok sc_least_losses (fun vs H Q E h => by
    unfold sp_least_losses at h
    skip
    repeat (first | (obtain ⟨hv, _⟩ := h; rw [hv]; done) | (obtain ⟨hv, _⟩ := h; rw [hv]; rfl) | (obtain ⟨_, h⟩ := h))) (fun cdv A outer s H vs Q E hr h => ⟨t_least_losses K, d_least_losses T (ct_how_many_sets T) (ct_steps_from T) (ct_loss_of T) (ct_joined T) hr, p_least_losses T vs H Q E h⟩), T.g_least_losses, F.kp, F.binds (ps := ["office", "hours_a_day", "jobs"]) fun _ _ _ _ _ _ us hl => match us, hl with | [_, _, _], _ => rfl, .nil⟩⟩
theorem d_first_best_step (T : Top K mg) (c_steps_from : C8.Cal R.prog w K mg base 3 "steps_from" (sp_steps_from K) []) (c_loss_of : C8.Cal R.prog w K mg base 2 "loss_of" (sp_loss_of K) []) (c_joined : C8.Cal R.prog w K mg base 1 "joined" (sp_joined K) []) (hr : Room 3 (A.deeper (envOfC "first_best_step" (defScope s_first_best_step) s.heap.objs.size f cdv))) :
    PSs (cxOf C8.CX0 R.prog w K mg base ["office", "jobs", "losses", "members", "steps", "best", "at", "day"] "first_best_step" (defScope s_first_best_step) f cdv A outer s H E).nox (defBody s_first_best_step) (t_first_best_step K) := by
  have nd := sc_first_best_step.nd
  have hu := hu_of hr
  exact (pss_cons (ps_set (i := 4) nd rfl (Or.inl rfl) (C8.pe_c c_steps_from hr (by decide) rfl (pa_cons (pv 0) (pa_cons (pe_fld (pv 0) rfl) (pa_cons (pv 1) (pa_cons (pv 3) pa_nil))))))
    (pss_cons (ps_setLc (i := 5) (own := [("at", 6), ("day", 7)]) (g := (gTup K 2 (gCons (gName 6) (gCons (gName 7) gNil)))) (tt := (tTest (tOp rEq (tOp rAddI (tCall (sp_loss_of K) [] C8.E0 (tCons (tVar 0) (tCons (tOp (rIxL K) (tVar 1) (tVar 6)) (tCons (tVar 7) tNil)))) (tOp (rIxL K) (tVar 2) (tCall (sp_joined K) [] C8.E0 (tCons (tVar 3) (tCons (tVar 6) tNil))))) (tOp (rIxL K) (tVar 2) (tVar 3))))) rfl nd rfl rfl (sw_true rfl rfl rfl (by decide +kernel)) (pi_list (pv 4)) (blkOk_by (own := [("at", 6), ("day", 7)]) (N := ["office", "jobs", "losses", "members", "steps", "best", "at", "day"]) (sc := defScope s_first_best_step) (by decide +kernel)) (fun _ _ _ _ _ => (pg_tup rfl (pgs_cons (pg_name (i := 6) nd rfl (Or.inl rfl)) (pgs_cons (pg_name (i := 7) nd rfl (Or.inl rfl)) pgs_nil)))) (fun _ _ _ _ _ => (pts_one (pt_cmpR op_eq (pe_op op_add (C8.pe_c c_loss_of hr (by decide) rfl (pa_cons (pv 0) (pa_cons (pe_ix ix_list (pv 1) (pv 6) (fun _ _ => rfl)) (pa_cons (pv 7) pa_nil)))) (pe_ix ix_list (pv 2) (C8.pe_c c_joined hr (by decide) rfl (pa_cons (pv 3) (pa_cons (pv 6) pa_nil))) (fun _ _ => rfl))) (pe_ix ix_list (pv 2) (pv 3) (fun _ _ => rfl)) (nomark _)))) (fun _ _ _ _ _ => (pv 6)))
    (pss_one (ps_ret (pe_ix ix_list (pv 5) pe_int (fun _ _ => rfl))))))
theorem ct_first_best_step (T : Top K mg) : C8.Cal R.prog w K mg base 4 "first_best_step" (sp_first_best_step K) [] := by
  obtain ⟨fd, F⟩ := T.d_first_best_step
  have F := fun_of F
  exact ⟨⟨_, fd, ["office", "jobs", "losses", "members"], [], F.ok sc_first_best_step (fun vs H Q E h => by
    unfold sp_first_best_step at h
    skip
    repeat (first | (obtain ⟨hv, _⟩ := h; rw [hv]; done) | (obtain ⟨hv, _⟩ := h; rw [hv]; rfl) | (obtain ⟨_, h⟩ := h))) (fun cdv A outer s H vs Q E hr h => ⟨t_first_best_step K, d_first_best_step T (ct_steps_from T) (ct_loss_of T) (ct_joined T) hr, p_first_best_step T vs H Q E h⟩), T.g_first_best_step, F.kp, F.binds (ps := ["office", "jobs", "losses", "members"]) fun _ _ _ _ _ _ us hl => match us, hl with | [_, _, _, _], _ => rfl, .nil⟩⟩
theorem d_best_order (T : Top K mg) (c_left_jobs : C8.Cal R.prog w K mg base 3 "left_jobs" (sp_left_jobs K) []) (c_least_losses : C8.Cal R.prog w K mg base 4 "least_losses" (sp_least_losses K) []) (c_first_best_step : C8.Cal R.prog w K mg base 4 "first_best_step" (sp_first_best_step K) []) (c_joined : C8.Cal R.prog w K mg base 1 "joined" (sp_joined K) []) (hr : Room 4 (A.deeper (envOfC "best_order" (defScope s_best_order) s.heap.objs.size f cdv))) :
    PSs (cxOf C8.CX0 R.prog w K mg base ["office", "jobs", "losses", "order", "members", "turn", "at"] "best_order" (defScope s_best_order) f cdv A outer s H E).nox (defBody s_best_order) (t_best_order K) := by
  have nd := sc_best_order.nd
  have hu := hu_of hr
  exact (pss_cons (ps_set (i := 1) nd rfl (Or.inl rfl) (C8.pe_c c_left_jobs hr (by decide) rfl (pa_cons (pv 0) pa_nil)))
    (pss_cons (ps_set (i := 2) nd rfl (Or.inl rfl) (C8.pe_c c_least_losses hr (by decide) rfl (pa_cons (pv 0) (pa_cons (pe_fld (pv 0) rfl) (pa_cons (pv 1) pa_nil)))))
    (pss_cons (ps_set (i := 3) nd rfl (Or.inl rfl) (pe_lst pa_nil))
    (pss_cons (ps_set (i := 4) nd rfl (Or.inl rfl) pe_int)
    (pss_cons (ps_for PassesOwn.never rfl (pi_range1 rfl T.f_range (pa_cons (pe_callB call_len_seq rfl T.f_len (by decide +kernel) (pa_cons (pv 1) pa_nil)) pa_nil)) (pg_name (i := 5) nd rfl (Or.inl rfl)) (pss_cons (ps_set (i := 6) nd rfl (Or.inl rfl) (C8.pe_c c_first_best_step hr (by decide) rfl (pa_cons (pv 0) (pa_cons (pv 1) (pa_cons (pv 2) (pa_cons (pv 4) pa_nil))))))
    (pss_cons (ps_expr (pe_bm PySem.F.plainAttrs_list PySem.F.slot_list_append PySem.F.type_list_append mt_append (pv 3) (pa_cons (pe_ix ix_list (pv 1) (pv 6) (fun _ _ => rfl)) pa_nil)))
    (pss_one (ps_set (i := 4) nd rfl (Or.inl rfl) (C8.pe_c c_joined hr (by decide) rfl (pa_cons (pv 4) (pa_cons (pv 6) pa_nil))))))))
    (pss_one (ps_ret (pe_tup (pa_cons (pe_ix ix_list (pv 2) pe_int (fun _ _ => rfl)) (pa_cons (pv 3) pa_nil))))))))))
theorem ct_best_order (T : Top K mg) : C8.Cal R.prog w K mg base 5 "best_order" (sp_best_order K) [] := by
  obtain ⟨fd, F⟩ := T.d_best_order
  have F := fun_of F
  exact ⟨⟨_, fd, ["office"], [], F.ok sc_best_order (fun vs H Q E h => by
    unfold sp_best_order at h
    skip
    repeat (first | (obtain ⟨hv, _⟩ := h; rw [hv]; done) | (obtain ⟨hv, _⟩ := h; rw [hv]; rfl) | (obtain ⟨_, h⟩ := h))) (fun cdv A outer s H vs Q E hr h => ⟨t_best_order K, d_best_order T (ct_left_jobs T) (ct_least_losses T) (ct_first_best_step T) (ct_joined T) hr, p_best_order T vs H Q E h⟩), T.g_best_order, F.kp, F.binds (ps := ["office"]) fun _ _ _ _ _ _ us hl => match us, hl with | [_], _ => rfl, .nil⟩⟩
theorem d_best (T : Top K mg) (c_best_order : C8.Cal R.prog w K mg base 5 "best_order" (sp_best_order K) []) (hr : Room 5 (A.deeper (envOfC "best" (defScope s_best) s.heap.objs.size f cdv))) :
    PSs (cxOf C8.CX0 R.prog w K mg base ["office", "numbers", "row", "lost", "order"] "best" (defScope s_best) f cdv A outer s H E).nox (defBody s_best) (t_best K) := by
  have nd := sc_best.nd
  have hu := hu_of hr
  exact (pss_cons (ps_asg (C8.pe_c c_best_order hr (by decide) rfl (pa_cons (pv 0) pa_nil)) (pg_tup rfl (pgs_cons (pg_name (i := 3) nd rfl (Or.inl rfl)) (pgs_cons (pg_name (i := 4) nd rfl (Or.inl rfl)) pgs_nil))))
    (pss_one (ps_ret (pe_op op_cat (pe_lst (pa_cons pe_int (pa_cons (pv 3) pa_nil))) (pv 4)))))
theorem ct_best (T : Top K mg) : C8.Cal R.prog w K mg base 6 "best" (sp_best K) [] := by
  obtain ⟨fd, F⟩ := T.d_best
  have F := fun_of F
  exact ⟨⟨_, fd, ["office", "numbers", "row"], [], F.ok sc_best (fun vs H Q E h => by
    unfold sp_best at h
    unfold sp_deed at h
    repeat (first | (obtain ⟨hv, _⟩ := h; rw [hv]; done) | (obtain ⟨hv, _⟩ := h; rw [hv]; rfl) | (obtain ⟨_, h⟩ := h))) (fun cdv A outer s H vs Q E hr h => ⟨t_best K, d_best T (ct_best_order T) hr, p_best T vs H Q E h⟩), T.g_best, F.kp, F.binds (ps := ["office", "numbers", "row"]) fun _ _ _ _ _ _ us hl => match us, hl with | [_, _, _], _ => rfl, .nil⟩⟩
theorem d_prove (T : Top K mg) (c_left_jobs : C8.Cal R.prog w K mg base 3 "left_jobs" (sp_left_jobs K) []) (c_least_losses : C8.Cal R.prog w K mg base 4 "least_losses" (sp_least_losses K) []) (hr : Room 4 (A.deeper (envOfC "prove" (defScope s_prove) s.heap.objs.size f cdv))) :
    PSs (cxOf C8.CX0 R.prog w K mg base ["office", "numbers", "row", "jobs"] "prove" (defScope s_prove) f cdv A outer s H E).nox (defBody s_prove) (t_prove K) := by
  have nd := sc_prove.nd
  have hu := hu_of hr
  exact (pss_cons (ps_set (i := 3) nd rfl (Or.inl rfl) (C8.pe_c c_left_jobs hr (by decide) rfl (pa_cons (pv 0) pa_nil)))
    (pss_cons (ps_if (pt_cmpR op_gt (pe_callB call_len_seq rfl T.f_len (by decide +kernel) (pa_cons (pv 3) pa_nil)) (C8.pe_gc rfl T.c_MOST_PROVED) (nomark _)) (pss_one (ps_ret (pe_lst (pa_cons (C8.pe_gc rfl T.c_CANNOT_BE) pa_nil)))) pss_nil)
    (pss_one (ps_ret (pe_op op_cat (pe_lst (pa_cons pe_int pa_nil)) (C8.pe_c c_least_losses hr (by decide) rfl (pa_cons (pv 0) (pa_cons (pe_fld (pv 0) rfl) (pa_cons (pv 3) pa_nil)))))))))
theorem ct_prove (T : Top K mg) : C8.Cal R.prog w K mg base 5 "prove" (sp_prove K) [] := by
  obtain ⟨fd, F⟩ := T.d_prove
  have F := fun_of F
  exact ⟨⟨_, fd, ["office", "numbers", "row"], [], F.ok sc_prove (fun vs H Q E h => by
    unfold sp_prove at h
    unfold sp_deed at h
    repeat (first | (obtain ⟨hv, _⟩ := h; rw [hv]; done) | (obtain ⟨hv, _⟩ := h; rw [hv]; rfl) | (obtain ⟨_, h⟩ := h))) (fun cdv A outer s H vs Q E hr h => ⟨t_prove K, d_prove T (ct_left_jobs T) (ct_least_losses T) hr, p_prove T vs H Q E h⟩), T.g_prove, F.kp, F.binds (ps := ["office", "numbers", "row"]) fun _ _ _ _ _ _ us hl => match us, hl with | [_, _, _], _ => rfl, .nil⟩⟩
end
end Sc
end

section
set_option Elab.async false
set_option linter.all false
set_option maxRecDepth 100000
set_option maxHeartbeats 4000000
namespace Sc
open PySem PySem.Spec PyProof.Rows L2
section
variable {w : World} {K : PySem.W.Frag} {mg : Str → Option Value} {base : Heap} {cdv : Value} {A : Around} {outer : List Env} {s : Shared} {H : Hp} {E : XK} {f : Addr}

theorem d_first_fault (T : Top K mg) (c_how_many_sets : C8.Cal R.prog w K mg base 1 "how_many_sets" (sp_how_many_sets K) []) (c_steps_from : C8.Cal R.prog w K mg base 3 "steps_from" (sp_steps_from K) []) (c_loss_of : C8.Cal R.prog w K mg base 2 "loss_of" (sp_loss_of K) []) (c_joined : C8.Cal R.prog w K mg base 1 "joined" (sp_joined K) []) (hr : Room 3 (A.deeper (envOfC "first_fault" (defScope s_first_fault) s.heap.objs.size f cdv))) :
    PSs (cxOf C8.CX0 R.prog w K mg base ["office", "jobs", "row", "members", "at", "day"] "first_fault" (defScope s_first_fault) f cdv A outer s H E).nox (defBody s_first_fault) (t_first_fault K) := by
  have nd := sc_first_fault.nd
  have hu := hu_of hr
  exact (pss_cons (ps_for PassesOwn.never rfl (pi_range1 rfl T.f_range (pa_cons (C8.pe_c c_how_many_sets hr (by decide) rfl (pa_cons (pv 1) pa_nil)) pa_nil)) (pg_name (i := 3) nd rfl (Or.inl rfl)) (pss_one (ps_for PassesOwn.never rfl (pi_list (C8.pe_c c_steps_from hr (by decide) rfl (pa_cons (pv 0) (pa_cons (pe_fld (pv 0) rfl) (pa_cons (pv 1) (pa_cons (pv 3) pa_nil)))))) (pg_tup rfl (pgs_cons (pg_name (i := 4) nd rfl (Or.inl rfl)) (pgs_cons (pg_name (i := 5) nd rfl (Or.inl rfl)) pgs_nil))) (pss_one (ps_if (pt_cmpR op_gt (pe_ix ix_list (pv 2) (pv 3) (fun _ _ => rfl)) (pe_op op_add (C8.pe_c c_loss_of hr (by decide) rfl (pa_cons (pv 0) (pa_cons (pe_ix ix_list (pv 1) (pv 4) (fun _ _ => rfl)) (pa_cons (pv 5) pa_nil)))) (pe_ix ix_list (pv 2) (C8.pe_c c_joined hr (by decide) rfl (pa_cons (pv 3) (pa_cons (pv 4) pa_nil))) (fun _ _ => rfl))) (nomark _)) (pss_one (ps_ret (pe_lst (pa_cons (pv 3) (pa_cons (pe_ix ix_list (pv 1) (pv 4) (fun _ _ => rfl)) pa_nil))))) pss_nil)))))
    (pss_one (ps_ret (pe_lst pa_nil))))
theorem ct_first_fault (T : Top K mg) : C8.Cal R.prog w K mg base 4 "first_fault" (sp_first_fault K) [] := by
  obtain ⟨fd, F⟩ := T.d_first_fault
  have F := fun_of F
  exact ⟨⟨_, fd, ["office", "jobs", "row"], [], F.ok sc_first_fault (fun vs H Q E h => by
    unfold sp_first_fault at h
    skip
    repeat (first | (obtain ⟨hv, _⟩ := h; rw [hv]; done) | (obtain ⟨hv, _⟩ := h; rw [hv]; rfl) | (obtain ⟨_, h⟩ := h))) (fun cdv A outer s H vs Q E hr h => ⟨t_first_fault K, d_first_fault T (ct_how_many_sets T) (ct_steps_from T) (ct_loss_of T) (ct_joined T) hr, p_first_fault T vs H Q E h⟩), T.g_first_fault, F.kp, F.binds (ps := ["office", "jobs", "row"]) fun _ _ _ _ _ _ us hl => match us, hl with | [_, _, _], _ => rfl, .nil⟩⟩
theorem d_check (T : Top K mg) (c_left_jobs : C8.Cal R.prog w K mg base 3 "left_jobs" (sp_left_jobs K) []) (c_how_many_sets : C8.Cal R.prog w K mg base 1 "how_many_sets" (sp_how_many_sets K) []) (c_first_fault : C8.Cal R.prog w K mg base 4 "first_fault" (sp_first_fault K) []) (hr : Room 4 (A.deeper (envOfC "check" (defScope s_check) s.heap.objs.size f cdv))) :
    PSs (cxOf C8.CX0 R.prog w K mg base ["office", "numbers", "row", "jobs", "fault"] "check" (defScope s_check) f cdv A outer s H E).nox (defBody s_check) (t_check K) := by
  have nd := sc_check.nd
  have hu := hu_of hr
  exact (pss_cons (ps_set (i := 3) nd rfl (Or.inl rfl) (C8.pe_c c_left_jobs hr (by decide) rfl (pa_cons (pv 0) pa_nil)))
    (pss_cons (ps_if (PW.pt (pw_or (pt_cmpR op_gt (pe_callB call_len_seq rfl T.f_len (by decide +kernel) (pa_cons (pv 3) pa_nil)) (C8.pe_gc rfl T.c_MOST_PROVED) (nomark _)) (pw_or1 (pt_cmpR op_ne (pe_callB call_len_seq rfl T.f_len (by decide +kernel) (pa_cons (pv 2) pa_nil)) (C8.pe_c c_how_many_sets hr (by decide) rfl (pa_cons (pv 3) pa_nil)) (nomark _))))) (pss_one (ps_ret (pe_lst (pa_cons (C8.pe_gc rfl T.c_CANNOT_BE) pa_nil)))) pss_nil)
    (pss_cons (ps_if (pt_cmpR op_gt (pe_ix ix_list (pv 2) (pe_un un_neg pe_int) (fun _ _ => rfl)) pe_int (nomark _)) (pss_one (ps_ret (pe_lst (pa_cons pe_int pa_nil)))) pss_nil)
    (pss_cons (ps_set (i := 4) nd rfl (Or.inl rfl) (C8.pe_c c_first_fault hr (by decide) rfl (pa_cons (pv 0) (pa_cons (pv 3) (pa_cons (pv 2) pa_nil)))))
    (pss_cons (ps_if (pt_cmpR op_gt (pe_callB call_len_seq rfl T.f_len (by decide +kernel) (pa_cons (pv 4) pa_nil)) pe_int (nomark _)) (pss_one (ps_ret (pe_op op_cat (pe_lst (pa_cons pe_int pa_nil)) (pv 4)))) pss_nil)
    (pss_one (ps_ret (pe_lst (pa_cons pe_int (pa_cons (pe_ix ix_list (pv 2) pe_int (fun _ _ => rfl)) pa_nil))))))))))
theorem ct_check (T : Top K mg) : C8.Cal R.prog w K mg base 5 "check" (sp_check K) [] := by
  obtain ⟨fd, F⟩ := T.d_check
  have F := fun_of F
  exact ⟨⟨_, fd, ["office", "numbers", "row"], [], F.ok sc_check (fun vs H Q E h => by
    unfold sp_check at h
    unfold sp_deed at h
    repeat (first | (obtain ⟨hv, _⟩ := h; rw [hv]; done) | (obtain ⟨hv, _⟩ := h; rw [hv]; rfl) | (obtain ⟨_, h⟩ := h))) (fun cdv A outer s H vs Q E hr h => ⟨t_check K, d_check T (ct_left_jobs T) (ct_how_many_sets T) (ct_first_fault T) hr, p_check T vs H Q E h⟩), T.g_check, F.kp, F.binds (ps := ["office", "numbers", "row"]) fun _ _ _ _ _ _ us hl => match us, hl with | [_, _, _], _ => rfl, .nil⟩⟩
theorem d_strikes_at (T : Top K mg) (hr : Room 0 (A.deeper (envOfC "strikes_at" (defScope s_strikes_at) s.heap.objs.size f cdv))) :
    PSs (cxOf C8.CX0 R.prog w K mg base ["swarms", "place", "job", "day", "days_over", "far"] "strikes_at" (defScope s_strikes_at) f cdv A outer s H E).nox (defBody s_strikes_at) (t_strikes_at K) := by
  have nd := sc_strikes_at.nd
  have hu := hu_of hr
  exact (pss_one (ps_ret (pe_lc (own := [("job", 2), ("day", 3), ("days_over", 4), ("far", 5)]) (g := (gTup K 4 (gCons (gName 2) (gCons (gName 3) (gCons (gName 4) (gCons (gName 5) gNil)))))) (tt := (tTest (tOp rNotN (tOp (rIxL K) (tVar 5) (tVar 1)) (tC .non)))) rfl nd (pi_list (pv 0)) (blkOk_by (own := [("job", 2), ("day", 3), ("days_over", 4), ("far", 5)]) (N := ["swarms", "place", "job", "day", "days_over", "far"]) (sc := defScope s_strikes_at) (by decide +kernel)) (fun _ _ _ _ _ => (pg_tup rfl (pgs_cons (pg_name (i := 2) nd rfl (Or.inl rfl)) (pgs_cons (pg_name (i := 3) nd rfl (Or.inl rfl)) (pgs_cons (pg_name (i := 4) nd rfl (Or.inl rfl)) (pgs_cons (pg_name (i := 5) nd rfl (Or.inl rfl)) pgs_nil)))))) (fun _ _ _ _ _ => (pts_one (pt_cmpR op_notN1 (pe_ix ix_list (pv 5) (pv 1) (fun _ _ => rfl)) pe_non (nomark _)))) (fun _ _ _ _ _ => (pe_tup (pa_cons (pv 2) (pa_cons (pv 3) (pa_cons (pe_op op_add (pv 3) (pe_op op_mul (pe_ix ix_list (pv 5) (pv 1) (fun _ _ => rfl)) (pv 4))) pa_nil))))))))
theorem ct_strikes_at (T : Top K mg) : C8.Cal R.prog w K mg base 1 "strikes_at" (sp_strikes_at K) [] := by
  obtain ⟨fd, F⟩ := T.d_strikes_at
  have F := fun_of F
  exact ⟨⟨_, fd, ["swarms", "place"], [], F.ok sc_strikes_at (fun vs H Q E h => by
    unfold sp_strikes_at at h
    skip
    repeat (first | (obtain ⟨hv, _⟩ := h; rw [hv]; done) | (obtain ⟨hv, _⟩ := h; rw [hv]; rfl) | (obtain ⟨_, h⟩ := h))) (fun cdv A outer s H vs Q E hr h => ⟨t_strikes_at K, d_strikes_at T  hr, p_strikes_at T vs H Q E h⟩), T.g_strikes_at, F.kp, F.binds (ps := ["swarms", "place"]) fun _ _ _ _ _ _ us hl => match us, hl with | [_, _], _ => rfl, .nil⟩⟩
theorem d_fewest_ways (T : Top K mg) (c_both_directions : C8.Cal R.prog w K mg base 1 "both_directions" (sp_both_directions K) []) (hr : Room 1 (A.deeper (envOfC "fewest_ways" (defScope s_fewest_ways) s.heap.objs.size f cdv))) :
    PSs (cxOf C8.CX0 R.prog w K mg base ["office", "start", "far", "turn", "way", "one", "other"] "fewest_ways" (defScope s_fewest_ways) f cdv A outer s H E).nox (defBody s_fewest_ways) (t_fewest_ways K) := by
  have nd := sc_fewest_ways.nd
  have hu := hu_of hr
  exact (pss_cons (ps_set (i := 2) nd rfl (Or.inl rfl) (pe_op op_rep (pe_lst (pa_cons pe_non pa_nil)) (pe_fld (pv 0) rfl)))
    (pss_cons (ps_asg pe_int (pg_sub (pv 2) (pv 1) set_list))
    (pss_cons (ps_for PassesOwn.never rfl (pi_range1 rfl T.f_range (pa_cons (pe_op op_sub (pe_fld (pv 0) rfl) pe_int) pa_nil)) (pg_name (i := 3) nd rfl (Or.inl rfl)) (pss_one (ps_for PassesOwn.never rfl (pi_list (pe_fld (pv 0) rfl)) (pg_name (i := 4) nd rfl (Or.inl rfl)) (pss_one (ps_for PassesOwn.never rfl (pi_tup (C8.pe_c c_both_directions hr (by decide) rfl (pa_cons (pv 4) pa_nil))) (pg_tup rfl (pgs_cons (pg_name (i := 5) nd rfl (Or.inl rfl)) (pgs_cons (pg_name (i := 6) nd rfl (Or.inl rfl)) pgs_nil))) (pss_one (ps_if (PW.pt (pw_and (pt_cmpR op_eq (pe_ix ix_list (pv 2) (pv 5) (fun _ _ => rfl)) (pv 3) (nomark _)) (pw_and1 (pt_cmpR op_isN1 (pe_ix ix_list (pv 2) (pv 6) (fun _ _ => rfl)) pe_non (nomark _))))) (pss_one (ps_asg (pe_op op_add (pv 3) pe_int) (pg_sub (pv 2) (pv 6) set_list))) pss_nil)))))))
    (pss_one (ps_ret (pv 2))))))
theorem ct_fewest_ways (T : Top K mg) : C8.Cal R.prog w K mg base 2 "fewest_ways" (sp_fewest_ways K) [] := by
  obtain ⟨fd, F⟩ := T.d_fewest_ways
  have F := fun_of F
  exact ⟨⟨_, fd, ["office", "start"], [], F.ok sc_fewest_ways (fun vs H Q E h => by
    unfold sp_fewest_ways at h
    skip
    repeat (first | (obtain ⟨hv, _⟩ := h; rw [hv]; done) | (obtain ⟨hv, _⟩ := h; rw [hv]; rfl) | (obtain ⟨_, h⟩ := h))) (fun cdv A outer s H vs Q E hr h => ⟨t_fewest_ways K, d_fewest_ways T (ct_both_directions T) hr, p_fewest_ways T vs H Q E h⟩), T.g_fewest_ways, F.kp, F.binds (ps := ["office", "start"]) fun _ _ _ _ _ _ us hl => match us, hl with | [_, _], _ => rfl, .nil⟩⟩
theorem d_swarming (T : Top K mg) (c_fewest_ways : C8.Cal R.prog w K mg base 2 "fewest_ways" (sp_fewest_ways K) []) (hr : Room 2 (A.deeper (envOfC "swarming" (defScope s_swarming) s.heap.objs.size f cdv))) :
    PSs (cxOf C8.CX0 R.prog w K mg base ["office", "found", "number", "wood", "job", "days", "days_over"] "swarming" (defScope s_swarming) f cdv A outer s H E).nox (defBody s_swarming) (t_swarming K) := by
  have nd := sc_swarming.nd
  have hu := hu_of hr
  exact (pss_cons (ps_set (i := 1) nd rfl (Or.inl rfl) (pe_lst pa_nil))
    (pss_cons (ps_for PassesOwn.never rfl (pi_enum rfl T.f_enumerate (pa_cons (pe_fld (pv 0) rfl) pa_nil)) (pg_tup rfl (pgs_cons (pg_name (i := 2) nd rfl (Or.inl rfl)) (pgs_cons (pg_name (i := 3) nd rfl (Or.inl rfl)) pgs_nil))) (pss_cons (ps_set (i := 4) nd rfl (Or.inl rfl) (pe_op op_add (C8.pe_gc rfl T.c_FIRST_WOOD) (pv 2)))
    (pss_cons (ps_asg (pe_dget2 hu (pe_fld (pv 0) rfl) (pe_fld (pv 3) rfl) (pe_tup (pa_cons pe_int (pa_cons pe_int pa_nil))) ⟨rfl, rfl, rfl, rfl⟩) (pg_tup rfl (pgs_cons (pg_name (i := 5) nd rfl (Or.inl rfl)) (pgs_cons (pg_name (i := 6) nd rfl (Or.inl rfl)) pgs_nil))))
    (pss_one (ps_if (PW.pt (pw_and (pt_cmpR op_gt (pv 5) pe_int (nomark _)) (pw_and1 (pt_cmpR op_notIn_seq (pv 4) (pe_fld (pv 0) rfl) rfl)))) (pss_one (ps_expr (pe_bm PySem.F.plainAttrs_list PySem.F.slot_list_append PySem.F.type_list_append mt_append (pv 1) (pa_cons (pe_tup (pa_cons (pv 4) (pa_cons (pe_op op_add (pe_fld (pv 3) rfl) (pv 5)) (pa_cons (pv 6) (pa_cons (C8.pe_c c_fewest_ways hr (by decide) rfl (pa_cons (pv 0) (pa_cons (pe_fld (pv 3) rfl) pa_nil))) pa_nil))))) pa_nil)))) pss_nil)))))
    (pss_one (ps_ret (pv 1)))))
theorem ct_swarming (T : Top K mg) : C8.Cal R.prog w K mg base 3 "swarming" (sp_swarming K) [] := by
  obtain ⟨fd, F⟩ := T.d_swarming
  have F := fun_of F
  exact ⟨⟨_, fd, ["office"], [], F.ok sc_swarming (fun vs H Q E h => by
    unfold sp_swarming at h
    skip
    repeat (first | (obtain ⟨hv, _⟩ := h; rw [hv]; done) | (obtain ⟨hv, _⟩ := h; rw [hv]; rfl) | (obtain ⟨_, h⟩ := h))) (fun cdv A outer s H vs Q E hr h => ⟨t_swarming K, d_swarming T (ct_fewest_ways T) hr, p_swarming T vs H Q E h⟩), T.g_swarming, F.kp, F.binds (ps := ["office"]) fun _ _ _ _ _ _ us hl => match us, hl with | [_], _ => rfl, .nil⟩⟩
theorem d_due_for (T : Top K mg) (c_strikes_at : C8.Cal R.prog w K mg base 1 "strikes_at" (sp_strikes_at K) []) (c_swarming : C8.Cal R.prog w K mg base 3 "swarming" (sp_swarming K) []) (hr : Room 3 (A.deeper (envOfC "due_for" (defScope s_due_for) s.heap.objs.size f cdv))) :
    PSs (cxOf C8.CX0 R.prog w K mg base ["office", "place", "last", "job", "day", "struck"] "due_for" (defScope s_due_for) f cdv A outer s H E).nox (defBody s_due_for) (t_due_for K) := by
  have nd := sc_due_for.nd
  have hu := hu_of hr
  exact (pss_one (ps_ret (pe_lc (own := [("job", 3), ("day", 4), ("struck", 5)]) (g := (gTup K 3 (gCons (gName 3) (gCons (gName 4) (gCons (gName 5) gNil))))) (tt := (tTest (tOp rLe (tVar 5) (tVar 2)))) rfl nd (pi_list (C8.pe_c c_strikes_at hr (by decide) rfl (pa_cons (C8.pe_c c_swarming hr (by decide) rfl (pa_cons (pv 0) pa_nil)) (pa_cons (pv 1) pa_nil)))) (blkOk_by (own := [("job", 3), ("day", 4), ("struck", 5)]) (N := ["office", "place", "last", "job", "day", "struck"]) (sc := defScope s_due_for) (by decide +kernel)) (fun _ _ _ _ _ => (pg_tup rfl (pgs_cons (pg_name (i := 3) nd rfl (Or.inl rfl)) (pgs_cons (pg_name (i := 4) nd rfl (Or.inl rfl)) (pgs_cons (pg_name (i := 5) nd rfl (Or.inl rfl)) pgs_nil))))) (fun _ _ _ _ _ => (pts_one (pt_cmpR op_le (pv 5) (pv 2) (nomark _)))) (fun _ _ _ _ _ => (pe_tup (pa_cons (pv 3) (pa_cons (pv 4) pa_nil)))))))
theorem ct_due_for (T : Top K mg) : C8.Cal R.prog w K mg base 4 "due_for" (sp_due_for K) [] := by
  obtain ⟨fd, F⟩ := T.d_due_for
  have F := fun_of F
  exact ⟨⟨_, fd, ["office", "place", "last"], [], F.ok sc_due_for (fun vs H Q E h => by
    unfold sp_due_for at h
    skip
    repeat (first | (obtain ⟨hv, _⟩ := h; rw [hv]; done) | (obtain ⟨hv, _⟩ := h; rw [hv]; rfl) | (obtain ⟨_, h⟩ := h))) (fun cdv A outer s H vs Q E hr h => ⟨t_due_for K, d_due_for T (ct_strikes_at T) (ct_swarming T) hr, p_due_for T vs H Q E h⟩), T.g_due_for, F.kp, F.binds (ps := ["office", "place", "last"]) fun _ _ _ _ _ _ us hl => match us, hl with | [_, _, _], _ => rfl, .nil⟩⟩
theorem d_due (T : Top K mg) (c_Officehas_place : C8.Met R.prog w K mg base 1 (He.ga K "Office") "has_place" (sp_Officehas_place K) []) (c_in_one_row : C8.Cal R.prog w K mg base 1 "in_one_row" (sp_in_one_row K) []) (c_due_for : C8.Cal R.prog w K mg base 4 "due_for" (sp_due_for K) []) (hr : Room 4 (A.deeper (envOfC "due" (defScope s_due) s.heap.objs.size f cdv))) :
    PSs (cxOf C8.CX0 R.prog w K mg base ["office", "numbers", "row", "place", "day"] "due" (defScope s_due) f cdv A outer s H E).nox (defBody s_due) (t_due K) := by
  have nd := sc_due.nd
  have hu := hu_of hr
  exact (pss_cons (ps_asg (pv 1) (pg_unl rfl (pgs_cons (pg_name (i := 3) nd rfl (Or.inl rfl)) (pgs_cons (pg_name (i := 4) nd rfl (Or.inl rfl)) pgs_nil))))
    (pss_cons (ps_if (pt_not (pt_val (C8.pe_mt c_Officehas_place hr (by decide) (pv 0) (pa_cons (pv 3) pa_nil)))) (pss_one (ps_ret (pe_lst (pa_cons (C8.pe_gc rfl T.c_NOT_THERE) pa_nil)))) pss_nil)
    (pss_one (ps_ret (pe_op op_cat (pe_lst (pa_cons pe_int pa_nil)) (C8.pe_c c_in_one_row hr (by decide) rfl (pa_cons (C8.pe_c c_due_for hr (by decide) rfl (pa_cons (pv 0) (pa_cons (pv 3) (pa_cons (pv 4) pa_nil)))) pa_nil)))))))
theorem ct_due (T : Top K mg) : C8.Cal R.prog w K mg base 5 "due" (sp_due K) [] := by
  obtain ⟨fd, F⟩ := T.d_due
  have F := fun_of F
  exact ⟨⟨_, fd, ["office", "numbers", "row"], [], F.ok sc_due (fun vs H Q E h => by
    unfold sp_due at h
    unfold sp_deed at h
    repeat (first | (obtain ⟨hv, _⟩ := h; rw [hv]; done) | (obtain ⟨hv, _⟩ := h; rw [hv]; rfl) | (obtain ⟨_, h⟩ := h))) (fun cdv A outer s H vs Q E hr h => ⟨t_due K, d_due T (ct_Officehas_place T) (ct_in_one_row T) (ct_due_for T) hr, p_due T vs H Q E h⟩), T.g_due, F.kp, F.binds (ps := ["office", "numbers", "row"]) fun _ _ _ _ _ _ us hl => match us, hl with | [_, _, _], _ => rfl, .nil⟩⟩
theorem d_has_all_due (T : Top K mg) (c_has : C8.Cal R.prog w K mg base 1 "has" (sp_has K) []) (hr : Room 1 (A.deeper (envOfC "has_all_due" (defScope s_has_all_due) s.heap.objs.size f cdv))) :
    PSs (cxOf C8.CX0 R.prog w K mg base ["jobs", "due", "members", "at", "job"] "has_all_due" (defScope s_has_all_due) f cdv A outer s H E).nox (defBody s_has_all_due) (t_has_all_due K) := by
  have nd := sc_has_all_due.nd
  have hu := hu_of hr
  exact (pss_one (ps_ret (pe_callB (cr_all rfl) rfl T.f_all (by decide +kernel) (pa_cons (pe_lc (own := [("at", 3), ("job", 4)]) (g := (gTup K 2 (gCons (gName 3) (gCons (gName 4) gNil)))) (tt := (tB (tDIn (tVar 4) (tVar 1)))) rfl nd (pi_enum rfl T.f_enumerate (pa_cons (pv 0) pa_nil)) (blkOk_by (own := [("at", 3), ("job", 4)]) (N := ["jobs", "due", "members", "at", "job"]) (sc := defScope s_has_all_due) (by decide +kernel)) (fun _ _ _ _ _ => (pg_tup rfl (pgs_cons (pg_name (i := 3) nd rfl (Or.inl rfl)) (pgs_cons (pg_name (i := 4) nd rfl (Or.inl rfl)) pgs_nil)))) (fun _ _ _ _ _ => (pts_one (pt_cmp (pc_din hu (pv 4) (pv 1))))) (fun _ _ _ _ _ => (C8.pe_c c_has hr (by decide) rfl (pa_cons (pv 2) (pa_cons (pv 3) pa_nil))))) pa_nil))))
theorem ct_has_all_due (T : Top K mg) : C8.Cal R.prog w K mg base 2 "has_all_due" (sp_has_all_due K) [] := by
  obtain ⟨fd, F⟩ := T.d_has_all_due
  have F := fun_of F
  exact ⟨⟨_, fd, ["jobs", "due", "members"], [], F.ok sc_has_all_due (fun vs H Q E h => by
    unfold sp_has_all_due at h
    skip
    repeat (first | (obtain ⟨hv, _⟩ := h; rw [hv]; done) | (obtain ⟨hv, _⟩ := h; rw [hv]; rfl) | (obtain ⟨_, h⟩ := h))) (fun cdv A outer s H vs Q E hr h => ⟨t_has_all_due K, d_has_all_due T (ct_has T) hr, p_has_all_due T vs H Q E h⟩), T.g_has_all_due, F.kp, F.binds (ps := ["jobs", "due", "members"]) fun _ _ _ _ _ _ us hl => match us, hl with | [_, _, _], _ => rfl, .nil⟩⟩
theorem d_steps_in_time (T : Top K mg) (c_steps_from : C8.Cal R.prog w K mg base 3 "steps_from" (sp_steps_from K) []) (hr : Room 3 (A.deeper (envOfC "steps_in_time" (defScope s_steps_in_time) s.heap.objs.size f cdv))) :
    PSs (cxOf C8.CX0 R.prog w K mg base ["office", "jobs", "due", "members", "at", "day"] "steps_in_time" (defScope s_steps_in_time) f cdv A outer s H E).nox (defBody s_steps_in_time) (t_steps_in_time K) := by
  have nd := sc_steps_in_time.nd
  have hu := hu_of hr
  exact (pss_one (ps_ret (pe_lc (own := [("at", 4), ("day", 5)]) (g := (gTup K 2 (gCons (gName 4) (gCons (gName 5) gNil)))) (tt := (tTest (tOp rLe (tVar 5) (tDGet2 (tVar 2) (tOp (rIxL K) (tVar 1) (tVar 4)) (tVar 5))))) rfl nd (pi_list (C8.pe_c c_steps_from hr (by decide) rfl (pa_cons (pv 0) (pa_cons (pe_fld (pv 0) rfl) (pa_cons (pv 1) (pa_cons (pv 3) pa_nil)))))) (blkOk_by (own := [("at", 4), ("day", 5)]) (N := ["office", "jobs", "due", "members", "at", "day"]) (sc := defScope s_steps_in_time) (by decide +kernel)) (fun _ _ _ _ _ => (pg_tup rfl (pgs_cons (pg_name (i := 4) nd rfl (Or.inl rfl)) (pgs_cons (pg_name (i := 5) nd rfl (Or.inl rfl)) pgs_nil)))) (fun _ _ _ _ _ => (pts_one (pt_cmpR op_le (pv 5) (pe_dget2 hu (pv 2) (pe_ix ix_list (pv 1) (pv 4) (fun _ _ => rfl)) (pv 5) ⟨rfl, rfl, rfl, rfl⟩) (nomark _)))) (fun _ _ _ _ _ => (pv 4)))))
theorem ct_steps_in_time (T : Top K mg) : C8.Cal R.prog w K mg base 4 "steps_in_time" (sp_steps_in_time K) [] := by
  obtain ⟨fd, F⟩ := T.d_steps_in_time
  have F := fun_of F
  exact ⟨⟨_, fd, ["office", "jobs", "due", "members"], [], F.ok sc_steps_in_time (fun vs H Q E h => by
    unfold sp_steps_in_time at h
    skip
    repeat (first | (obtain ⟨hv, _⟩ := h; rw [hv]; done) | (obtain ⟨hv, _⟩ := h; rw [hv]; rfl) | (obtain ⟨_, h⟩ := h))) (fun cdv A outer s H vs Q E hr h => ⟨t_steps_in_time K, d_steps_in_time T (ct_steps_from T) hr, p_steps_in_time T vs H Q E h⟩), T.g_steps_in_time, F.kp, F.binds (ps := ["office", "jobs", "due", "members"]) fun _ _ _ _ _ _ us hl => match us, hl with | [_, _, _, _], _ => rfl, .nil⟩⟩
theorem d_jobs_wanting (T : Top K mg) (c_how_many_sets : C8.Cal R.prog w K mg base 1 "how_many_sets" (sp_how_many_sets K) []) (c_has_all_due : C8.Cal R.prog w K mg base 2 "has_all_due" (sp_has_all_due K) []) (c_steps_in_time : C8.Cal R.prog w K mg base 4 "steps_in_time" (sp_steps_in_time K) []) (c_joined : C8.Cal R.prog w K mg base 1 "joined" (sp_joined K) []) (hr : Room 4 (A.deeper (envOfC "jobs_wanting" (defScope s_jobs_wanting) s.heap.objs.size f cdv))) :
    PSs (cxOf C8.CX0 R.prog w K mg base ["office", "jobs", "due", "wanting", "members", "behind", "possible", "at", "many"] "jobs_wanting" (defScope s_jobs_wanting) f cdv A outer s H E).nox (defBody s_jobs_wanting) (t_jobs_wanting K) := by
  have nd := sc_jobs_wanting.nd
  have hu := hu_of hr
  exact (pss_cons (ps_set (i := 3) nd rfl (Or.inr rfl) (pe_op op_rep (pe_lst (pa_cons pe_non pa_nil)) (C8.pe_c c_how_many_sets hr (by decide) rfl (pa_cons (pv 1) pa_nil))))
    (pss_cons (ps_for PassesOwn.never rfl (pi_range3 rfl T.f_range (pa_cons (pe_op op_sub (C8.pe_c c_how_many_sets hr (by decide) rfl (pa_cons (pv 1) pa_nil)) pe_int) (pa_cons (pe_un un_neg pe_int) (pa_cons (pe_un un_neg pe_int) pa_nil)))) (pg_name (i := 4) nd rfl (Or.inr rfl)) (pss_one (ps_if (pt_val (C8.pe_c c_has_all_due hr (by decide) rfl (pa_cons (pv 1) (pa_cons (pv 2) (pa_cons (pv 4) pa_nil))))) (pss_one (ps_asg pe_int (pg_sub (pv 3) (pv 4) set_list))) (pss_cons (ps_setLc (i := 5) (own := [("at", 7)]) (g := (gName 7)) (tt := tYes) rfl nd rfl rfl (sw_true rfl rfl rfl (by decide +kernel)) (pi_list (C8.pe_c c_steps_in_time hr (by decide) rfl (pa_cons (pv 0) (pa_cons (pv 1) (pa_cons (pv 2) (pa_cons (pv 4) pa_nil)))))) (blkOk_by (own := [("at", 7)]) (N := ["office", "jobs", "due", "wanting", "members", "behind", "possible", "at", "many"]) (sc := defScope s_jobs_wanting) (by decide +kernel)) (fun _ _ _ _ _ => (pg_name (i := 7) nd rfl (Or.inl rfl))) (fun _ _ _ _ _ => pts_nil) (fun _ _ _ _ _ => (pe_ix ix_list (pv 3) (C8.pe_c c_joined hr (by decide) rfl (pa_cons (pv 4) (pa_cons (pv 7) pa_nil))) (fun _ _ => rfl))))
    (pss_cons (ps_setLc (i := 6) (own := [("many", 8)]) (g := (gName 8)) (tt := (tTest (tOp rNotN (tVar 8) (tC .non)))) rfl nd rfl rfl (sw_true rfl rfl rfl (by decide +kernel)) (pi_list (pv 5)) (blkOk_by (own := [("many", 8)]) (N := ["office", "jobs", "due", "wanting", "members", "behind", "possible", "at", "many"]) (sc := defScope s_jobs_wanting) (by decide +kernel)) (fun _ _ _ _ _ => (pg_name (i := 8) nd rfl (Or.inl rfl))) (fun _ _ _ _ _ => (pts_one (pt_cmpR op_notN1 (pv 8) pe_non (nomark _)))) (fun _ _ _ _ _ => (pe_op op_add (pv 8) pe_int)))
    (pss_one (ps_asg (pe_ifExp (pt_cmpR op_gt (pe_callB call_len_seq rfl T.f_len (by decide +kernel) (pa_cons (pv 6) pa_nil)) pe_int (nomark _)) (pe_callB (cr_min rfl) rfl T.f_min (by decide +kernel) (pa_cons (pv 6) pa_nil)) pe_non) (pg_sub (pv 3) (pv 4) set_list))))))))
    (pss_one (ps_ret (pv 3)))))
theorem ct_jobs_wanting (T : Top K mg) : C8.Cal R.prog w K mg base 5 "jobs_wanting" (sp_jobs_wanting K) [] := by
  obtain ⟨fd, F⟩ := T.d_jobs_wanting
  have F := fun_of F
  exact ⟨⟨_, fd, ["office", "jobs", "due"], [], F.ok sc_jobs_wanting (fun vs H Q E h => by
    unfold sp_jobs_wanting at h
    skip
    repeat (first | (obtain ⟨hv, _⟩ := h; rw [hv]; done) | (obtain ⟨hv, _⟩ := h; rw [hv]; rfl) | (obtain ⟨_, h⟩ := h))) (fun cdv A outer s H vs Q E hr h => ⟨t_jobs_wanting K, d_jobs_wanting T (ct_how_many_sets T) (ct_has_all_due T) (ct_steps_in_time T) (ct_joined T) hr, p_jobs_wanting T vs H Q E h⟩), T.g_jobs_wanting, F.kp, F.binds (ps := ["office", "jobs", "due"]) fun _ _ _ _ _ _ us hl => match us, hl with | [_, _, _], _ => rfl, .nil⟩⟩
theorem d_saving_order (T : Top K mg) (c_left_jobs : C8.Cal R.prog w K mg base 3 "left_jobs" (sp_left_jobs K) []) (c_due_for : C8.Cal R.prog w K mg base 4 "due_for" (sp_due_for K) []) (c_jobs_wanting : C8.Cal R.prog w K mg base 5 "jobs_wanting" (sp_jobs_wanting K) []) (c_steps_in_time : C8.Cal R.prog w K mg base 4 "steps_in_time" (sp_steps_in_time K) []) (c_joined : C8.Cal R.prog w K mg base 1 "joined" (sp_joined K) []) (hr : Room 5 (A.deeper (envOfC "saving_order" (defScope s_saving_order) s.heap.objs.size f cdv))) :
    PSs (cxOf C8.CX0 R.prog w K mg base ["office", "place", "last", "jobs", "due", "wanting", "order", "members", "many", "fitting", "job", "at"] "saving_order" (defScope s_saving_order) f cdv A outer s H E).nox (defBody s_saving_order) (t_saving_order K) := by
  have nd := sc_saving_order.nd
  have hu := hu_of hr
  exact (pss_cons (ps_set (i := 3) nd rfl (Or.inr rfl) (C8.pe_c c_left_jobs hr (by decide) rfl (pa_cons (pv 0) pa_nil)))
    (pss_cons (ps_set (i := 4) nd rfl (Or.inl rfl) (pe_callTy (call_dictP rfl) rfl T.f_dict (by decide +kernel) (pa_cons (C8.pe_c c_due_for hr (by decide) rfl (pa_cons (pv 0) (pa_cons (pv 1) (pa_cons (pv 2) pa_nil)))) pa_nil)))
    (pss_cons (ps_if (pt_not (pt_val (pe_callB (cr_all rfl) rfl T.f_all (by decide +kernel) (pa_cons (pe_lock (pe_lc (own := [("job", 10)]) (g := (gName 10)) (tt := tYes) rfl nd (pi_keys (pv 4)) (blkOk_by (own := [("job", 10)]) (N := ["office", "place", "last", "jobs", "due", "wanting", "order", "members", "many", "fitting", "job", "at"]) (sc := defScope s_saving_order) (by decide +kernel)) (fun _ _ _ _ _ => (pg_name (i := 10) nd rfl (Or.inl rfl))) (fun _ _ _ _ _ => pts_nil) (fun _ _ _ _ _ => (pe_cmpR op_in_seq (pv 10) (pv 3) rfl)))) pa_nil)))) (pss_one (ps_ret pe_non)) pss_nil)
    (pss_cons (ps_set (i := 5) nd rfl (Or.inr rfl) (C8.pe_c c_jobs_wanting hr (by decide) rfl (pa_cons (pv 0) (pa_cons (pv 3) (pa_cons (pv 4) pa_nil)))))
    (pss_cons (ps_if (pt_cmpR op_isN1 (pe_ix ix_list (pv 5) pe_int (fun _ _ => rfl)) pe_non (nomark _)) (pss_one (ps_ret pe_non)) pss_nil)
    (pss_cons (ps_set (i := 6) nd rfl (Or.inl rfl) (pe_lst pa_nil))
    (pss_cons (ps_set (i := 7) nd rfl (Or.inr rfl) pe_int)
    (pss_cons (ps_for PassesOwn.never rfl (pi_range3 rfl T.f_range (pa_cons (pe_op op_sub (pe_ix ix_list (pv 5) pe_int (fun _ _ => rfl)) pe_int) (pa_cons (pe_un un_neg pe_int) (pa_cons (pe_un un_neg pe_int) pa_nil)))) (pg_name (i := 8) nd rfl (Or.inr rfl)) (pss_cons (ps_setLc (i := 9) (own := [("at", 11)]) (g := (gName 11)) (tt := (tTest (tOp rEq (tOp (rIxL K) (tVar 5) (tCall (sp_joined K) [] C8.E0 (tCons (tVar 7) (tCons (tVar 11) tNil)))) (tVar 8)))) rfl nd rfl rfl (sw_true rfl rfl rfl (by decide +kernel)) (pi_list (C8.pe_c c_steps_in_time hr (by decide) rfl (pa_cons (pv 0) (pa_cons (pv 3) (pa_cons (pv 4) (pa_cons (pv 7) pa_nil)))))) (blkOk_by (own := [("at", 11)]) (N := ["office", "place", "last", "jobs", "due", "wanting", "order", "members", "many", "fitting", "job", "at"]) (sc := defScope s_saving_order) (by decide +kernel)) (fun _ _ _ _ _ => (pg_name (i := 11) nd rfl (Or.inl rfl))) (fun _ _ _ _ _ => (pts_one (pt_cmpR op_eq (pe_ix ix_list (pv 5) (C8.pe_c c_joined hr (by decide) rfl (pa_cons (pv 7) (pa_cons (pv 11) pa_nil))) (fun _ _ => rfl)) (pv 8) (nomark _)))) (fun _ _ _ _ _ => (pv 11)))
    (pss_cons (ps_expr (pe_bm PySem.F.plainAttrs_list PySem.F.slot_list_append PySem.F.type_list_append mt_append (pv 6) (pa_cons (pe_ix ix_list (pv 3) (pe_ix ix_list (pv 9) pe_int (fun _ _ => rfl)) (fun _ _ => rfl)) pa_nil)))
    (pss_one (ps_set (i := 7) nd rfl (Or.inr rfl) (C8.pe_c c_joined hr (by decide) rfl (pa_cons (pv 7) (pa_cons (pe_ix ix_list (pv 9) pe_int (fun _ _ => rfl)) pa_nil))))))))
    (pss_one (ps_ret (pv 6)))))))))))
theorem ct_saving_order (T : Top K mg) : C8.Cal R.prog w K mg base 6 "saving_order" (sp_saving_order K) [] := by
  obtain ⟨fd, F⟩ := T.d_saving_order
  have F := fun_of F
  exact ⟨⟨_, fd, ["office", "place", "last"], [], F.ok sc_saving_order (fun vs H Q E h => by
    unfold sp_saving_order at h
    skip
    repeat (first | (obtain ⟨hv, _⟩ := h; rw [hv]; done) | (obtain ⟨hv, _⟩ := h; rw [hv]; rfl) | (obtain ⟨_, h⟩ := h))) (fun cdv A outer s H vs Q E hr h => ⟨t_saving_order K, d_saving_order T (ct_left_jobs T) (ct_due_for T) (ct_jobs_wanting T) (ct_steps_in_time T) (ct_joined T) hr, p_saving_order T vs H Q E h⟩), T.g_saving_order, F.kp, F.binds (ps := ["office", "place", "last"]) fun _ _ _ _ _ _ us hl => match us, hl with | [_, _, _], _ => rfl, .nil⟩⟩
theorem d_save (T : Top K mg) (c_Officehas_place : C8.Met R.prog w K mg base 1 (He.ga K "Office") "has_place" (sp_Officehas_place K) []) (c_saving_order : C8.Cal R.prog w K mg base 6 "saving_order" (sp_saving_order K) []) (hr : Room 6 (A.deeper (envOfC "save" (defScope s_save) s.heap.objs.size f cdv))) :
    PSs (cxOf C8.CX0 R.prog w K mg base ["office", "numbers", "row", "place", "day", "order"] "save" (defScope s_save) f cdv A outer s H E).nox (defBody s_save) (t_save K) := by
  have nd := sc_save.nd
  have hu := hu_of hr
  exact (pss_cons (ps_asg (pv 1) (pg_unl rfl (pgs_cons (pg_name (i := 3) nd rfl (Or.inl rfl)) (pgs_cons (pg_name (i := 4) nd rfl (Or.inl rfl)) pgs_nil))))
    (pss_cons (ps_if (pt_not (pt_val (C8.pe_mt c_Officehas_place hr (by decide) (pv 0) (pa_cons (pv 3) pa_nil)))) (pss_one (ps_ret (pe_lst (pa_cons (C8.pe_gc rfl T.c_NOT_THERE) pa_nil)))) pss_nil)
    (pss_cons (ps_set (i := 5) nd rfl (Or.inl rfl) (C8.pe_c c_saving_order hr (by decide) rfl (pa_cons (pv 0) (pa_cons (pv 3) (pa_cons (pv 4) pa_nil)))))
    (pss_cons (ps_if (pt_cmpR op_isN1 (pv 5) pe_non (nomark _)) (pss_one (ps_ret (pe_lst (pa_cons (C8.pe_gc rfl T.c_CANNOT_BE) pa_nil)))) pss_nil)
    (pss_one (ps_ret (pe_op op_cat (pe_lst (pa_cons pe_int pa_nil)) (pv 5))))))))
theorem ct_save (T : Top K mg) : C8.Cal R.prog w K mg base 7 "save" (sp_save K) [] := by
  obtain ⟨fd, F⟩ := T.d_save
  have F := fun_of F
  exact ⟨⟨_, fd, ["office", "numbers", "row"], [], F.ok sc_save (fun vs H Q E h => by
    unfold sp_save at h
    unfold sp_deed at h
    repeat (first | (obtain ⟨hv, _⟩ := h; rw [hv]; done) | (obtain ⟨hv, _⟩ := h; rw [hv]; rfl) | (obtain ⟨_, h⟩ := h))) (fun cdv A outer s H vs Q E hr h => ⟨t_save K, d_save T (ct_Officehas_place T) (ct_saving_order T) hr, p_save T vs H Q E h⟩), T.g_save, F.kp, F.binds (ps := ["office", "numbers", "row"]) fun _ _ _ _ _ _ us hl => match us, hl with | [_, _, _], _ => rfl, .nil⟩⟩
theorem d_struck_up_to (T : Top K mg) (c_swarming : C8.Cal R.prog w K mg base 3 "swarming" (sp_swarming K) []) (c_strikes_at : C8.Cal R.prog w K mg base 1 "strikes_at" (sp_strikes_at K) []) (hr : Room 3 (A.deeper (envOfC "struck_up_to" (defScope s_struck_up_to) s.heap.objs.size f cdv))) :
    PSs (cxOf C8.CX0 R.prog w K mg base ["office", "last", "swarms", "found", "place", "days", "job", "day", "struck"] "struck_up_to" (defScope s_struck_up_to) f cdv A outer s H E).nox (defBody s_struck_up_to) (t_struck_up_to K) := by
  have nd := sc_struck_up_to.nd
  have hu := hu_of hr
  exact (pss_cons (ps_set (i := 2) nd rfl (Or.inl rfl) (C8.pe_c c_swarming hr (by decide) rfl (pa_cons (pv 0) pa_nil)))
    (pss_cons (ps_set (i := 3) nd rfl (Or.inl rfl) (pe_lst pa_nil))
    (pss_cons (ps_for PassesOwn.never rfl (pi_range1 rfl T.f_range (pa_cons (pe_fld (pv 0) rfl) pa_nil)) (pg_name (i := 4) nd rfl (Or.inl rfl)) (pss_cons (ps_setLc (i := 5) (own := [("job", 6), ("day", 7), ("struck", 8)]) (g := (gTup K 3 (gCons (gName 6) (gCons (gName 7) (gCons (gName 8) gNil))))) (tt := (tTest (tOp rLe (tVar 8) (tVar 1)))) rfl nd rfl rfl (sw_true rfl rfl rfl (by decide +kernel)) (pi_list (C8.pe_c c_strikes_at hr (by decide) rfl (pa_cons (pv 2) (pa_cons (pv 4) pa_nil)))) (blkOk_by (own := [("job", 6), ("day", 7), ("struck", 8)]) (N := ["office", "last", "swarms", "found", "place", "days", "job", "day", "struck"]) (sc := defScope s_struck_up_to) (by decide +kernel)) (fun _ _ _ _ _ => (pg_tup rfl (pgs_cons (pg_name (i := 6) nd rfl (Or.inl rfl)) (pgs_cons (pg_name (i := 7) nd rfl (Or.inl rfl)) (pgs_cons (pg_name (i := 8) nd rfl (Or.inl rfl)) pgs_nil))))) (fun _ _ _ _ _ => (pts_one (pt_cmpR op_le (pv 8) (pv 1) (nomark _)))) (fun _ _ _ _ _ => (pv 8)))
    (pss_one (ps_if (pt_cmpR op_gt (pe_callB call_len_seq rfl T.f_len (by decide +kernel) (pa_cons (pv 5) pa_nil)) pe_int (nomark _)) (pss_one (ps_expr (pe_bm PySem.F.plainAttrs_list PySem.F.slot_list_append PySem.F.type_list_append mt_append (pv 3) (pa_cons (pe_tup (pa_cons (pv 4) (pa_cons (pe_callB (cr_min rfl) rfl T.f_min (by decide +kernel) (pa_cons (pv 5) pa_nil)) pa_nil))) pa_nil)))) pss_nil))))
    (pss_one (ps_ret (pv 3))))))
theorem ct_struck_up_to (T : Top K mg) : C8.Cal R.prog w K mg base 4 "struck_up_to" (sp_struck_up_to K) [] := by
  obtain ⟨fd, F⟩ := T.d_struck_up_to
  have F := fun_of F
  exact ⟨⟨_, fd, ["office", "last"], [], F.ok sc_struck_up_to (fun vs H Q E h => by
    unfold sp_struck_up_to at h
    skip
    repeat (first | (obtain ⟨hv, _⟩ := h; rw [hv]; done) | (obtain ⟨hv, _⟩ := h; rw [hv]; rfl) | (obtain ⟨_, h⟩ := h))) (fun cdv A outer s H vs Q E hr h => ⟨t_struck_up_to K, d_struck_up_to T (ct_swarming T) (ct_strikes_at T) hr, p_struck_up_to T vs H Q E h⟩), T.g_struck_up_to, F.kp, F.binds (ps := ["office", "last"]) fun _ _ _ _ _ _ us hl => match us, hl with | [_, _], _ => rfl, .nil⟩⟩
theorem d_struck (T : Top K mg) (c_in_one_row : C8.Cal R.prog w K mg base 1 "in_one_row" (sp_in_one_row K) []) (c_struck_up_to : C8.Cal R.prog w K mg base 4 "struck_up_to" (sp_struck_up_to K) []) (hr : Room 4 (A.deeper (envOfC "struck" (defScope s_struck) s.heap.objs.size f cdv))) :
    PSs (cxOf C8.CX0 R.prog w K mg base ["office", "numbers", "row"] "struck" (defScope s_struck) f cdv A outer s H E).nox (defBody s_struck) (t_struck K) := by
  have nd := sc_struck.nd
  have hu := hu_of hr
  exact (pss_one (ps_ret (pe_op op_cat (pe_lst (pa_cons pe_int pa_nil)) (C8.pe_c c_in_one_row hr (by decide) rfl (pa_cons (C8.pe_c c_struck_up_to hr (by decide) rfl (pa_cons (pv 0) (pa_cons (pe_ix ix_list (pv 1) pe_int (fun _ _ => rfl)) pa_nil))) pa_nil)))))
theorem ct_struck (T : Top K mg) : C8.Cal R.prog w K mg base 5 "struck" (sp_struck K) [] := by
  obtain ⟨fd, F⟩ := T.d_struck
  have F := fun_of F
  exact ⟨⟨_, fd, ["office", "numbers", "row"], [], F.ok sc_struck (fun vs H Q E h => by
    unfold sp_struck at h
    unfold sp_deed at h
    repeat (first | (obtain ⟨hv, _⟩ := h; rw [hv]; done) | (obtain ⟨hv, _⟩ := h; rw [hv]; rfl) | (obtain ⟨_, h⟩ := h))) (fun cdv A outer s H vs Q E hr h => ⟨t_struck K, d_struck T (ct_in_one_row T) (ct_struck_up_to T) hr, p_struck T vs H Q E h⟩), T.g_struck, F.kp, F.binds (ps := ["office", "numbers", "row"]) fun _ _ _ _ _ _ us hl => match us, hl with | [_, _, _], _ => rfl, .nil⟩⟩
theorem d_whatif (T : Top K mg) (c_least_losses : C8.Cal R.prog w K mg base 4 "least_losses" (sp_least_losses K) []) (c_left_jobs : C8.Cal R.prog w K mg base 3 "left_jobs" (sp_left_jobs K) []) (hr : Room 4 (A.deeper (envOfC "whatif" (defScope s_whatif) s.heap.objs.size f cdv))) :
    PSs (cxOf C8.CX0 R.prog w K mg base ["office", "numbers", "row"] "whatif" (defScope s_whatif) f cdv A outer s H E).nox (defBody s_whatif) (t_whatif K) := by
  have nd := sc_whatif.nd
  have hu := hu_of hr
  exact (pss_one (ps_ret (pe_lst (pa_cons pe_int (pa_cons (pe_ix ix_list (C8.pe_c c_least_losses hr (by decide) rfl (pa_cons (pv 0) (pa_cons (pe_ix ix_list (pv 1) pe_int (fun _ _ => rfl)) (pa_cons (C8.pe_c c_left_jobs hr (by decide) rfl (pa_cons (pv 0) pa_nil)) pa_nil)))) pe_int (fun _ _ => rfl)) pa_nil)))))
theorem ct_whatif (T : Top K mg) : C8.Cal R.prog w K mg base 5 "whatif" (sp_whatif K) [] := by
  obtain ⟨fd, F⟩ := T.d_whatif
  have F := fun_of F
  exact ⟨⟨_, fd, ["office", "numbers", "row"], [], F.ok sc_whatif (fun vs H Q E h => by
    unfold sp_whatif at h
    unfold sp_deed at h
    repeat (first | (obtain ⟨hv, _⟩ := h; rw [hv]; done) | (obtain ⟨hv, _⟩ := h; rw [hv]; rfl) | (obtain ⟨_, h⟩ := h))) (fun cdv A outer s H vs Q E hr h => ⟨t_whatif K, d_whatif T (ct_least_losses T) (ct_left_jobs T) hr, p_whatif T vs H Q E h⟩), T.g_whatif, F.kp, F.binds (ps := ["office", "numbers", "row"]) fun _ _ _ _ _ _ us hl => match us, hl with | [_, _, _], _ => rfl, .nil⟩⟩
theorem d_answer_of (T : Top K mg) (c_fits : C8.Cal R.prog w K mg base 2 "fits" (sp_fits K) []) (c_net : C8.Cal R.prog w K mg base 3 "net" (sp_net K) []) {S : Addr → Option Sp} (hS : ∀ f sp, S f = some sp → Held R.prog w K mg base 7 f sp) (hr : Room 7 (A.deeper (envOfC "answer_of" (defScope s_answer_of) s.heap.objs.size f cdv))) :
    PSs (cxOf C8.CX0 R.prog w K mg base ["line", "call", "numbers", "row", "deed"] "answer_of" (defScope s_answer_of) f cdv A outer s H E).nox (defBody s_answer_of) (t_answer_of K S) := by
  have nd := sc_answer_of.nd
  have hu := hu_of hr
  exact (pss_cons (ps_if (pt_not (pt_val (C8.pe_c c_fits hr (by decide) rfl (pa_cons (pv 1) (pa_cons (pv 2) (pa_cons (pv 3) pa_nil)))))) (pss_one (ps_ret (pe_lst (pa_cons (C8.pe_gc rfl T.c_OUT_OF_RANGE) pa_nil)))) pss_nil)
    (pss_cons (ps_if (pt_cmpR op_eq (pv 1) (C8.pe_gc rfl T.c_NET_CALL) (nomark _)) (pss_one (ps_ret (C8.pe_c c_net hr (by decide) rfl (pa_cons (pv 0) (pa_cons (pv 2) pa_nil))))) pss_nil)
    (pss_cons (ps_if (pt_cmpR op_isN1 (pe_fld (pv 0) rfl) pe_non (nomark _)) (pss_one (ps_ret (pe_lst (pa_cons (C8.pe_gc rfl T.c_NOT_THERE) pa_nil)))) pss_nil)
    (pss_cons (ps_set (i := 4) nd rfl (Or.inl rfl) (pe_ix ix_tup (C8.pe_gc rfl T.c_DEEDS) (pe_op op_sub (pv 1) pe_int) (fun _ _ => rfl)))
    (pss_one (ps_ret (pe_callA hS hr rfl (Or.inl rfl) (pa_cons (pe_fld (pv 0) rfl) (pa_cons (pv 2) (pa_cons (pv 3) pa_nil))))))))))
theorem heldS (T : Top K mg) : ∀ f sp, deedS K f = some sp → Held R.prog w K mg base 7 f sp := by
  intro f sp h
  unfold deedS at h
  obtain ⟨nm, h1, h2⟩ := Option.bind_eq_some_iff.mp h
  split at h2
  · rename_i hf
    obtain ⟨i, hi, rfl⟩ := Option.map_eq_some_iff.mp h2
    rw [hf]
    unfold List.idxOf? at hi
    obtain ⟨hlt, hp, _⟩ := List.findIdx?_eq_some_iff_getElem.mp hi
    have hp : deedNames[i] = nm := eq_of_beq hp
    have hp : deedNames[i]? = some nm := by rw [List.getElem?_eq_getElem hlt, hp]
    have hlt : i < 20 := hlt
    clear h h1 h2 hi hf
    match i, hlt, hp with
    | 0, _, hp => obtain rfl := Option.some.inj hp; exact held_of T.g_way (ct_way T) (by decide)
    | 1, _, hp => obtain rfl := Option.some.inj hp; exact held_of T.g_wood (ct_wood T) (by decide)
    | 2, _, hp => obtain rfl := Option.some.inj hp; exact held_of T.g_table (ct_table T) (by decide)
    | 3, _, hp => obtain rfl := Option.some.inj hp; exact held_of T.g_beetle (ct_beetle T) (by decide)
    | 4, _, hp => obtain rfl := Option.some.inj hp; exact held_of T.g_done (ct_done T) (by decide)
    | 5, _, hp => obtain rfl := Option.some.inj hp; exact held_of T.g_undo (ct_undo T) (by decide)
    | 6, _, hp => obtain rfl := Option.some.inj hp; exact held_of T.g_state (ct_state T) (by decide)
    | 7, _, hp => obtain rfl := Option.some.inj hp; exact held_of T.g_left (ct_left T) (by decide)
    | 8, _, hp => obtain rfl := Option.some.inj hp; exact held_of T.g_reached (ct_reached T) (by decide)
    | 9, _, hp => obtain rfl := Option.some.inj hp; exact held_of T.g_near (ct_near T) (by decide)
    | 10, _, hp => obtain rfl := Option.some.inj hp; exact held_of T.g_must (ct_must T) (by decide)
    | 11, _, hp => obtain rfl := Option.some.inj hp; exact held_of T.g_least (ct_least T) (by decide)
    | 12, _, hp => obtain rfl := Option.some.inj hp; exact held_of T.g_try_jobs (ct_try_jobs T) (by decide)
    | 13, _, hp => obtain rfl := Option.some.inj hp; exact held_of T.g_best (ct_best T) (by decide)
    | 14, _, hp => obtain rfl := Option.some.inj hp; exact held_of T.g_prove (ct_prove T) (by decide)
    | 15, _, hp => obtain rfl := Option.some.inj hp; exact held_of T.g_check (ct_check T) (by decide)
    | 16, _, hp => obtain rfl := Option.some.inj hp; exact held_of T.g_due (ct_due T) (by decide)
    | 17, _, hp => obtain rfl := Option.some.inj hp; exact held_of T.g_save (ct_save T) (by decide)
    | 18, _, hp => obtain rfl := Option.some.inj hp; exact held_of T.g_struck (ct_struck T) (by decide)
    | 19, _, hp => obtain rfl := Option.some.inj hp; exact held_of T.g_whatif (ct_whatif T) (by decide)
  · cases h2

theorem ct_answer_of (T : Top K mg) : C8.Cal R.prog w K mg base 8 "answer_of" (sp_answer_of K) [] := by
  obtain ⟨fd, F⟩ := T.d_answer_of
  have F := fun_of F
  exact ⟨⟨_, fd, ["line", "call", "numbers", "row"], [], F.ok sc_answer_of (fun vs H Q E h => by
    unfold sp_answer_of at h
    skip
    repeat (first | (obtain ⟨hv, _⟩ := h; rw [hv]; done) | (obtain ⟨hv, _⟩ := h; rw [hv]; rfl) | (obtain ⟨_, h⟩ := h))) (fun cdv A outer s H vs Q E hr h => ⟨t_answer_of K (deedS K), d_answer_of T (ct_fits T) (ct_net T) (heldS T) hr, p_answer_of T vs H Q E h⟩), T.g_answer_of, F.kp, F.binds (ps := ["line", "call", "numbers", "row"]) fun _ _ _ _ _ _ us hl => match us, hl with | [_, _, _, _], _ => rfl, .nil⟩⟩
theorem d_answers (T : Top K mg) (c_Line__init__ : C8.Mak R.prog w K mg base 1 "Line" (He.ga K "Line") (sp_Line__init__ K) []) (c_how_many_numbers : C8.Cal R.prog w K mg base 1 "how_many_numbers" (sp_how_many_numbers K) []) (c_row_from : C8.Cal R.prog w K mg base 2 "row_from" (sp_row_from K) []) (c_answer_of : C8.Cal R.prog w K mg base 8 "answer_of" (sp_answer_of K) []) (hr : Room 8 (A.deeper (envOfC "answers" (defScope s_answers) s.heap.objs.size f cdv))) :
    PSs (cxOf C8.CX0 R.prog w K mg base ["calls", "line", "given", "at", "call", "behind_numbers", "row", "behind", "answer"] "answers" (defScope s_answers) f cdv A outer s H E).nox (defBody s_answers) (t_answers K) := by
  have nd := sc_answers.nd
  have hu := hu_of hr
  exact (pss_cons (ps_set (i := 1) nd rfl (Or.inl rfl) (pe_mk0 c_Line__init__ hr (by decide) rfl))
    (pss_cons (ps_set (i := 2) nd rfl (Or.inl rfl) (pe_lst pa_nil))
    (pss_cons (ps_set (i := 3) nd rfl (Or.inl rfl) pe_int)
    (pss_cons (ps_while PassesOwn.never (pt_cmpR op_lt (pv 3) (pe_callB call_len_seq rfl T.f_len (by decide +kernel) (pa_cons (pv 0) pa_nil)) (nomark _)) (pss_cons (ps_set (i := 4) nd rfl (Or.inl rfl) (pe_ix ix_list (pv 0) (pv 3) (fun _ _ => rfl)))
    (pss_cons (ps_set (i := 5) nd rfl (Or.inl rfl) (pe_op op_add (pe_op op_add (pv 3) pe_int) (C8.pe_c c_how_many_numbers hr (by decide) rfl (pa_cons (pv 4) pa_nil))))
    (pss_cons (ps_asg (C8.pe_c c_row_from hr (by decide) rfl (pa_cons (pv 0) (pa_cons (pv 4) (pa_cons (pv 5) pa_nil)))) (pg_tup rfl (pgs_cons (pg_name (i := 6) nd rfl (Or.inl rfl)) (pgs_cons (pg_name (i := 7) nd rfl (Or.inl rfl)) pgs_nil))))
    (pss_cons (ps_set (i := 8) nd rfl (Or.inl rfl) (C8.pe_c c_answer_of hr (by decide) rfl (pa_cons (pv 1) (pa_cons (pv 4) (pa_cons (pe_slice sl_list (pv 0) (po_some (pe_op op_add (pv 3) pe_int)) (po_some (pv 5))) (pa_cons (pv 6) pa_nil))))))
    (pss_cons (ps_expr (pe_bm PySem.F.plainAttrs_list PySem.F.slot_list_append PySem.F.type_list_append mt_append (pv 2) (pa_cons (pe_callB call_len_seq rfl T.f_len (by decide +kernel) (pa_cons (pv 8) pa_nil)) pa_nil)))
    (pss_cons (ps_expr (pe_bm PySem.F.plainAttrs_list PySem.F.slot_list_extend PySem.F.type_list_extend mt_extend (pv 2) (pa_cons (pv 8) pa_nil)))
    (pss_one (ps_set (i := 3) nd rfl (Or.inl rfl) (pv 7))))))))))
    (pss_one (ps_ret (pv 2)))))))
theorem ct_answers (T : Top K mg) : C8.Cal R.prog w K mg base 9 "answers" (sp_answers K) [] := by
  obtain ⟨fd, F⟩ := T.d_answers
  have F := fun_of F
  exact ⟨⟨_, fd, ["calls"], [], F.ok sc_answers (fun vs H Q E h => by
    unfold sp_answers at h
    skip
    repeat (first | (obtain ⟨hv, _⟩ := h; rw [hv]; done) | (obtain ⟨hv, _⟩ := h; rw [hv]; rfl) | (obtain ⟨_, h⟩ := h))) (fun cdv A outer s H vs Q E hr h => ⟨t_answers K, d_answers T (ct_Line__init__ T) (ct_how_many_numbers T) (ct_row_from T) (ct_answer_of T) hr, p_answers T vs H Q E h⟩), T.g_answers, F.kp, F.binds (ps := ["calls"]) fun _ _ _ _ _ _ us hl => match us, hl with | [_], _ => rfl, .nil⟩⟩
end
end Sc
end

section
set_option Elab.async false
set_option linter.all false
set_option maxRecDepth 100000
set_option maxHeartbeats 4000000
namespace Sc
open PySem PySem.Spec PyProof.Rows L2
open PySem.W (Codec WalkOS WData)
theorem dw_all {K : PySem.W.Frag} {H : Hp} {xs : List V} {l : List Int} (hO : OnlyF H) (hx : DwAll K H xs [.list (l.map WData.int)]) : ∃ r, xs = [.ref r] ∧ CalAt K H r (l.map V.int) := by
  cases hx with
  | cons h1 h2 =>
    cases h2
    cases h1 with
    | lst hs ha =>
      have e := L2.ints_dw l _ ha
      subst e
      refine ⟨_, rfl, ?_⟩
      rcases hs with (h | ⟨o, h⟩) | h
      · rcases hO _ with z | ⟨o, u, z⟩
        · rw [h] at z; cases z
        · rw [h] at z; cases z
      · exact .inl ⟨o, h⟩
      · exact .inr fun _ => .inr h
theorem call_ok : WalkOS qv namesAll (PySem.W.XL qv []) hk.says R (HandSHeadRun.topDef R.prog 119) [] fun f vs => PySem.call f vs := by
  refine walk_hk (k := 9) (ps := ["calls"]) (sp := sp_answers) (by decide +kernel) rfl ⟨rfl, by decide, by decide⟩ (fun w mg fa h K KX hS hmgl hmg => ?_) (fun K H xs a hO hwi hask hx => ?_)
  · have T : Top K mg := ⟨⟨h, w, KX, hmgl, hS⟩⟩
    have hfa : fa = He.ga K "answers" := Value.ref.inj (Option.some.inj (hmg.symm.trans T.g_answers))
    subst hfa
    obtain ⟨fd, F⟩ := T.d_answers
    have F' := fun_of F
    refine ⟨fd, fun s us hu => ?_, fun base _ _ => ?_⟩
    · obtain ⟨oc, od, kV, doc, pm, an, cdv, ct, osl, rfl, _⟩ := F'.ex
      match us, hu with
      | [_], _ => exact .of_eq rfl
    · exact F'.ok sc_answers (fun vs H Q E h => by
        unfold sp_answers at h
        obtain ⟨r, ks, rfl, _⟩ := h
        rfl) (fun cdv A outer s H vs Q E hr h => ⟨t_answers K, d_answers T (ct_Line__init__ T) (ct_how_many_numbers T) (ct_row_from T) (ct_answer_of T) hr, p_answers T vs H Q E h⟩)
  · obtain ⟨l, u⟩ := a
    obtain ⟨r, rfl, hc⟩ := dw_all (l := l) hO hx
    obtain ⟨ks, h1, h2, h3, h4⟩ := request (show PyWrtist.answers_asked l = true from hask)
    refine ⟨r, ks, rfl, by rw [← h1]; exact hc, h4, h3, fun p H2 h => ?_⟩
    show Dw K H2 (.ref p) (.list ((PyWrtist.answers l).map WData.int))
    rw [h2]
    exact .lst (L2.SqL.of h) (L2.dw_ints _)
end Sc
end
set_option maxRecDepth 100000 in
set_option maxHeartbeats 8000000 in
theorem PySem.Challenge.cw_stormclear_s01_answers_holds : PySem.Challenge.rw_stormclear_s01_answers.Holds := by
  exact holdsX Sc.call_ok
#print axioms PySem.Challenge.cw_stormclear_s01_answers_holds
