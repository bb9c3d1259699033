import PyProof.Rows.All
import Wide.All
import OpenK.AllK
import Wide.FinOn
import HandS.ForMost
import HandS.TupMul
import HandS.TupAny
import KE.KTupSum
import KE.GoesNewDict
import KE.GoesMore
import HandS.Zip
import HandS.Walk
import KE.GoesEnum
import KE.SortData
import HandS.Conv
import KE.KDictPairs
import HandS.DictComp
import HandS.Evl
import HandS.Codes
import HandS.IsInst
import HandS.Defaults
import HandS.Flow
import KE.KStateDown
import HandS.Base
import HandS.Call
import HandS.Ends
import HandS.More
import HandS.Words
import HandS.WordsExc
import HandS.Head0
import HandS.Head1
import HandS.Head2
import HandS.HeadEnd
import HandS.HeadHook1
import HandS.HeadHook2
import PySem.Challenge.RW_anyhands_k68_whole_late_and_done
set_option Elab.async false
set_option linter.all false
set_option maxRecDepth 100000
set_option maxHeartbeats 0
/-! K1: the plain mathematics of lots, calendars and lateness. Core Lean only. -/
namespace K68
abbrev Win := Nat × Nat
abbrev Er := Win × Int

/-! ### sums -/
theorem sum_perm {l m : List Int} (h : l.Perm m) : l.sum = m.sum := by
  induction h with
  | nil => rfl
  | cons a _ ih => rw [List.sum_cons, List.sum_cons, ih]
  | swap a b l => rw [List.sum_cons, List.sum_cons, List.sum_cons, List.sum_cons]; omega
  | trans _ _ h1 h2 => exact h1.trans h2
theorem sum_nonneg : ∀ {l : List Int}, (∀ x ∈ l, 0 ≤ x) → 0 ≤ l.sum
  | [], _ => Int.le_refl 0
  | a :: l, h => by
    have h1 := h a (List.mem_cons_self ..)
    have h2 := sum_nonneg (l := l) fun x hx => h x (List.mem_cons_of_mem _ hx)
    rw [List.sum_cons]; omega
theorem sum_app (l m : List Int) : (l ++ m).sum = l.sum + m.sum := by
  induction l with
  | nil => simp
  | cons a l ih => rw [List.cons_append, List.sum_cons, List.sum_cons, ih]; omega

/-! ### the work of the errands with some windows -/
def fs (E : List Er) (P : Win → Bool) : Int := (E.map fun e => if P e.1 then e.2 else 0).sum
theorem fs_nil (P : Win → Bool) : fs [] P = 0 := rfl
theorem fs_cons (e : Er) (E : List Er) (P : Win → Bool) : fs (e :: E) P = (if P e.1 then e.2 else 0) + fs E P := by
  unfold fs; rw [List.map_cons, List.sum_cons]
theorem fs_app (E F : List Er) (P : Win → Bool) : fs (E ++ F) P = fs E P + fs F P := by
  unfold fs; rw [List.map_append, sum_app]
theorem fs_perm {E F : List Er} (h : E.Perm F) (P : Win → Bool) : fs E P = fs F P := sum_perm (h.map _)
theorem fs_filter (P : Win → Bool) : ∀ E : List Er, ((E.filter fun e => P e.1).map (·.2)).sum = fs E P
  | [] => rfl
  | e :: E => by
    have ih := fs_filter P E
    rw [fs_cons, List.filter_cons]
    by_cases h : P e.1 = true
    · rw [if_pos h, if_pos h, List.map_cons, List.sum_cons, ih]
    · rw [if_neg h, if_neg h, ih]; omega
theorem fs_le {P Q : Win → Bool} : ∀ {E : List Er}, (∀ e ∈ E, 0 ≤ e.2) → (∀ e ∈ E, P e.1 = true → Q e.1 = true) → fs E P ≤ fs E Q
  | [], _, _ => Int.le_refl 0
  | e :: E, h, k => by
    have ih := fs_le (P := P) (Q := Q) (E := E) (fun x hx => h x (List.mem_cons_of_mem _ hx)) fun x hx => k x (List.mem_cons_of_mem _ hx)
    have h1 := h e (List.mem_cons_self ..)
    have h2 := k e (List.mem_cons_self ..)
    rw [fs_cons, fs_cons]
    by_cases hp : P e.1 = true
    · rw [if_pos hp, if_pos (h2 hp)]; omega
    · rw [if_neg hp]; split <;> omega
theorem fs_congr {P Q : Win → Bool} {E : List Er} (k : ∀ e ∈ E, P e.1 = Q e.1) : fs E P = fs E Q := by
  unfold fs
  congr 1
  exact List.map_congr_left fun e he => by rw [k e he]
theorem fs_nonneg {P : Win → Bool} {E : List Er} (h : ∀ e ∈ E, 0 ≤ e.2) : 0 ≤ fs E P := sum_nonneg fun x hx => by
  obtain ⟨e, he, rfl⟩ := List.mem_map.mp hx
  have := h e he
  split <;> omega
theorem fs_split {P Q R : Win → Bool} : ∀ {E : List Er}, (∀ e ∈ E, (R e.1 = (P e.1 || Q e.1)) ∧ ¬ (P e.1 = true ∧ Q e.1 = true)) → fs E R = fs E P + fs E Q
  | [], _ => rfl
  | e :: E, h => by
    have ih := fs_split (P := P) (Q := Q) (R := R) (E := E) fun x hx => h x (List.mem_cons_of_mem _ hx)
    obtain ⟨h1, h2⟩ := h e (List.mem_cons_self ..)
    rw [fs_cons, fs_cons, fs_cons, ih, h1]
    cases hp : P e.1 <;> cases hq : Q e.1 <;> simp [hp, hq] at h2 ⊢ <;> omega
theorem fs_false (E : List Er) {P : Win → Bool} (h : ∀ e ∈ E, P e.1 = false) : fs E P = 0 := by
  induction E with
  | nil => rfl
  | cons e E ih =>
    rw [fs_cons, ih fun x hx => h x (List.mem_cons_of_mem _ hx), h e (List.mem_cons_self ..)]; simp
theorem fs_mem_le {P : Win → Bool} {E : List Er} (h : ∀ e ∈ E, 0 ≤ e.2) {e : Er} (he : e ∈ E) (hp : P e.1 = true) : e.2 ≤ fs E P := by
  induction E with
  | nil => cases he
  | cons a E ih =>
    rw [fs_cons]
    rcases List.mem_cons.mp he with rfl | hm
    · rw [if_pos hp]
      have := fs_nonneg (P := P) fun x hx => h x (List.mem_cons_of_mem _ hx)
      omega
    · have h1 := ih (fun x hx => h x (List.mem_cons_of_mem _ hx)) hm
      have h2 := h a (List.mem_cons_self ..)
      split <;> omega
theorem fs_bound {P : Win → Bool} {E : List Er} {B : Int} (hB : 0 ≤ B) (h : ∀ e ∈ E, e.2 ≤ B) : fs E P ≤ B * E.length := by
  induction E with
  | nil => simp [fs]
  | cons a E ih =>
    have h1 := ih fun x hx => h x (List.mem_cons_of_mem _ hx)
    have h2 := h a (List.mem_cons_self ..)
    rw [fs_cons, List.length_cons]
    have e : B * ((E.length + 1 : Nat) : Int) = B * (E.length : Int) + B := by
      rw [Int.natCast_add, Int.mul_add]; simp
    rw [e]
    split <;> omega
/-- so many times the work -/
theorem fs_times (k : Int) (P : Win → Bool) : ∀ E : List Er, fs (E.map fun e => (e.1, k * e.2)) P = k * fs E P
  | [] => by simp [fs]
  | e :: E => by
    rw [List.map_cons, fs_cons, fs_cons, fs_times k P E, Int.mul_add]
    split <;> simp
/-- windows moved -/
theorem fs_moved (g : Win → Win) (P : Win → Bool) : ∀ E : List Er, fs (E.map fun e => (g e.1, e.2)) P = fs E fun w => P (g w)
  | [] => rfl
  | e :: E => by
    rw [List.map_cons, fs_cons, fs_cons, fs_moved g P E]

/-! ### what a stretch asks -/
def inW (f l : Nat) (w : Win) : Bool := decide (f ≤ w.1) && decide (w.2 ≤ l)
theorem inW_iff {f l : Nat} {w : Win} : inW f l w = true ↔ f ≤ w.1 ∧ w.2 ≤ l := by simp [inW]
def asks (E : List Er) (f l : Nat) : Int := fs E (inW f l)
def allW (E : List Er) : Int := (E.map (·.2)).sum
theorem allW_fs (E : List Er) : allW E = fs E fun _ => true := by unfold allW fs; simp

structure LotOk (T : Nat) (E : List Er) : Prop where
  pos : 1 ≤ T
  le8 : T ≤ 8
  win : ∀ e ∈ E, e.1.1 ≤ e.1.2 ∧ e.1.2 < T
  one : ∀ e ∈ E, 1 ≤ e.2
  few : E.length ≤ 36
theorem LotOk.nn {T : Nat} {E : List Er} (h : LotOk T E) : ∀ e ∈ E, 0 ≤ e.2 := fun e he => by have := h.one e he; omega
theorem asks_nonneg {T : Nat} {E : List Er} (h : LotOk T E) (f l : Nat) : 0 ≤ asks E f l := fs_nonneg h.nn
theorem asks_le_all {T : Nat} {E : List Er} (h : LotOk T E) (f l : Nat) : asks E f l ≤ allW E := by
  rw [allW_fs]; exact fs_le h.nn fun _ _ _ => rfl
theorem asks_mono {T : Nat} {E : List Er} (h : LotOk T E) {f l l' : Nat} (hl : l ≤ l') : asks E f l ≤ asks E f l' := fs_le h.nn fun e _ k => by
  rw [inW_iff] at k ⊢; exact ⟨k.1, Nat.le_trans k.2 hl⟩

/-! ### hands -/
def csum (c : List Int) (f n : Nat) : Int := ((c.drop f).take (n - f)).sum
theorem csum_self (c : List Int) {f n : Nat} (h : n ≤ f) : csum c f n = 0 := by
  unfold csum; rw [Nat.sub_eq_zero_of_le h, List.take_zero]; rfl
theorem take_succ_sum : ∀ (l : List Int) (k : Nat), (l.take (k + 1)).sum = (l.take k).sum + l.getD k 0
  | [], k => by simp
  | a :: l, 0 => by simp
  | a :: l, k + 1 => by
    have ih := take_succ_sum l k
    rw [List.take_succ_cons, List.take_succ_cons, List.sum_cons, List.sum_cons, ih]
    simp; omega
theorem csum_succ (c : List Int) {f n : Nat} (h : f ≤ n) : csum c f (n + 1) = csum c f n + c.getD n 0 := by
  unfold csum
  have e : n + 1 - f = n - f + 1 := by omega
  rw [e, take_succ_sum]
  congr 1
  rw [List.getD_eq_getElem?_getD, List.getD_eq_getElem?_getD, List.getElem?_drop]
  congr 2; omega
def Nn (c : List Int) : Prop := ∀ x ∈ c, 0 ≤ x
theorem Nn.getD {c : List Int} (h : Nn c) (n : Nat) : 0 ≤ c.getD n 0 := by
  rw [List.getD_eq_getElem?_getD]
  cases e : c[n]? with
  | none => exact Int.le_refl 0
  | some x => exact h x (List.mem_of_getElem? e)
theorem csum_mono {c : List Int} (h : Nn c) (f : Nat) {n m : Nat} (hm : n ≤ m) : csum c f n ≤ csum c f m := by
  induction m with
  | zero => have : n = 0 := by omega
            subst this; exact Int.le_refl _
  | succ m ih =>
    by_cases e : n = m + 1
    · subst e; exact Int.le_refl _
    · have h1 := ih (by omega)
      by_cases hf : f ≤ m
      · have h2 := csum_succ c hf
        have h3 := h.getD m
        omega
      · have h4 := csum_self c (f := f) (n := m + 1) (by omega)
        have h5 := csum_self c (f := f) (n := m) (by omega)
        omega
theorem csum_nonneg {c : List Int} (h : Nn c) (f n : Nat) : 0 ≤ csum c f n := by
  have h1 := csum_mono h f (Nat.zero_le n)
  have h2 := csum_self c (f := f) (n := 0) (Nat.zero_le f)
  omega
theorem csum_long (c : List Int) (f : Nat) {n : Nat} (h : c.length ≤ n) : csum c f n = csum c f c.length := by
  unfold csum
  rw [List.take_of_length_le (by rw [List.length_drop]; omega), List.take_of_length_le (by rw [List.length_drop]; omega)]
theorem csum_le {c d : List Int} (f n : Nat) (h : ∀ i, c.getD i 0 ≤ d.getD i 0) : csum c f n ≤ csum d f n := by
  induction n with
  | zero => rw [csum_self c (Nat.zero_le f), csum_self d (Nat.zero_le f)]; exact Int.le_refl _
  | succ n ih =>
    by_cases hf : f ≤ n
    · rw [csum_succ c hf, csum_succ d hf]; have := h n; omega
    · rw [csum_self c (by omega), csum_self d (by omega)]; exact Int.le_refl _
theorem csum_eq {c d : List Int} (f n : Nat) (h : ∀ i, f ≤ i → i < n → c.getD i 0 = d.getD i 0) : csum c f n = csum d f n := by
  induction n with
  | zero => rw [csum_self c (Nat.zero_le f), csum_self d (Nat.zero_le f)]
  | succ n ih =>
    by_cases hf : f ≤ n
    · rw [csum_succ c hf, csum_succ d hf, ih fun i h1 h2 => h i h1 (by omega), h n hf (by omega)]
    · rw [csum_self c (by omega), csum_self d (by omega)]
theorem csum_times (k : Int) (c : List Int) (f n : Nat) : csum (c.map fun x => k * x) f n = k * csum c f n := by
  induction n with
  | zero => rw [csum_self _ (Nat.zero_le f), csum_self c (Nat.zero_le f)]; simp
  | succ n ih =>
    by_cases hf : f ≤ n
    · rw [csum_succ _ hf, csum_succ c hf, ih, Int.mul_add]
      congr 1
      rw [List.getD_eq_getElem?_getD, List.getD_eq_getElem?_getD, List.getElem?_map]
      cases c[n]? <;> simp
    · rw [csum_self _ (by omega), csum_self c (by omega)]; simp

/-- the hands of the hours f to n - 1, the hours behind the last one too -/
def D (c : List Int) (a : Int) (f n : Nat) : Int := csum c f n + a * ((n - c.length : Nat) : Int)
theorem D_in {c : List Int} {a : Int} {f n : Nat} (h : n ≤ c.length) : D c a f n = csum c f n := by
  unfold D; rw [Nat.sub_eq_zero_of_le h]; simp
theorem mul_nn {a b : Int} (h : 0 ≤ a) (k : 0 ≤ b) : 0 ≤ a * b := Int.mul_nonneg h k
theorem D_mono {c : List Int} {a : Int} (hc : Nn c) (ha : 0 ≤ a) (f : Nat) {n m : Nat} (h : n ≤ m) : D c a f n ≤ D c a f m := by
  have h1 := csum_mono hc f h
  have h2 : a * ((n - c.length : Nat) : Int) ≤ a * ((m - c.length : Nat) : Int) := Int.mul_le_mul_of_nonneg_left (by omega) ha
  unfold D; omega
theorem D_nonneg {c : List Int} {a : Int} (hc : Nn c) (ha : 0 ≤ a) (f n : Nat) : 0 ≤ D c a f n := by
  have h1 := csum_nonneg hc f n
  have h2 : 0 ≤ a * ((n - c.length : Nat) : Int) := mul_nn ha (by omega)
  unfold D; omega
theorem D_le {c d : List Int} {a b : Int} (hl : c.length = d.length) (h : ∀ i, c.getD i 0 ≤ d.getD i 0) (hab : a ≤ b) (f n : Nat) : D c a f n ≤ D d b f n := by
  have h1 := csum_le f n h
  have h2 : a * ((n - c.length : Nat) : Int) ≤ b * ((n - c.length : Nat) : Int) := Int.mul_le_mul_of_nonneg_right hab (by omega)
  unfold D; rw [← hl]; omega
theorem D_times (k : Int) (c : List Int) (a : Int) (f n : Nat) : D (c.map fun x => k * x) (k * a) f n = k * D c a f n := by
  unfold D; rw [csum_times, List.length_map, Int.mul_add, Int.mul_assoc]

/-! ### the least number from which on something is so -/
structure Thr (P : Nat → Prop) (r : Option Nat) : Prop where
  iff : ∀ m, (∃ w, r = some w ∧ w ≤ m) ↔ P m
theorem Thr.unique {P : Nat → Prop} {r s : Option Nat} (h : Thr P r) (k : Thr P s) : r = s := by
  cases r with
  | none =>
    cases s with
    | none => rfl
    | some b =>
      obtain ⟨w, e, _⟩ := (h.iff b).mpr ((k.iff b).mp ⟨b, rfl, Nat.le_refl _⟩)
      cases e
  | some a =>
    cases s with
    | none =>
      obtain ⟨w, e, _⟩ := (k.iff a).mpr ((h.iff a).mp ⟨a, rfl, Nat.le_refl _⟩)
      cases e
    | some b =>
      obtain ⟨w, e, h1⟩ := (h.iff b).mpr ((k.iff b).mp ⟨b, rfl, Nat.le_refl _⟩)
      cases e
      obtain ⟨w, e, h2⟩ := (k.iff a).mpr ((h.iff a).mp ⟨a, rfl, Nat.le_refl _⟩)
      cases e
      congr 1; omega
theorem Thr.none_iff {P : Nat → Prop} {r : Option Nat} (h : Thr P r) : r = none ↔ ∀ m, ¬ P m := by
  constructor
  · intro e m hm
    obtain ⟨w, e', _⟩ := (h.iff m).mpr hm
    rw [e] at e'; cases e'
  · intro k
    cases r with
    | none => rfl
    | some a => exact absurd ((h.iff a).mp ⟨a, rfl, Nat.le_refl _⟩) (k a)
theorem Thr.some_at {P : Nat → Prop} {a : Nat} (h : Thr P (some a)) : P a := (h.iff a).mp ⟨a, rfl, Nat.le_refl _⟩
theorem Thr.below {P : Nat → Prop} {a m : Nat} (h : Thr P (some a)) (hm : m < a) : ¬ P m := fun hp => by
  obtain ⟨w, e, k⟩ := (h.iff m).mpr hp
  cases e; omega
theorem Thr.zero_iff {P : Nat → Prop} {r : Option Nat} (h : Thr P r) : r = some 0 ↔ P 0 := by
  rw [← h.iff 0]
  constructor
  · intro e; exact ⟨0, e, Nat.le_refl _⟩
  · rintro ⟨w, e, k⟩
    have : w = 0 := by omega
    rw [e, this]
theorem Thr.congr {P Q : Nat → Prop} {r : Option Nat} (h : Thr P r) (k : ∀ m, P m ↔ Q m) : Thr Q r := ⟨fun m => (h.iff m).trans (k m)⟩
theorem Thr.of_least {P : Nat → Prop} {a : Nat} (h : P a) (up : ∀ m n, m ≤ n → P m → P n) (k : ∀ m, m < a → ¬ P m) : Thr P (some a) := ⟨fun m => by
  constructor
  · rintro ⟨w, e, hw⟩
    cases e
    exact up _ _ hw h
  · intro hp
    refine ⟨a, rfl, ?_⟩
    rcases Nat.lt_or_ge m a with q | q
    · exact absurd hp (k m q)
    · exact q⟩
theorem Thr.of_none {P : Nat → Prop} (k : ∀ m, ¬ P m) : Thr P none := ⟨fun m => ⟨fun ⟨_, e, _⟩ => (by cases e), fun hp => absurd hp (k m)⟩⟩
theorem thr_exists {P : Nat → Prop} (up : ∀ m n, m ≤ n → P m → P n) : ∃ r, Thr P r := by
  rcases Classical.em (∃ m, P m) with ⟨m, hm⟩ | h
  · have key : ∀ m, P m → ∃ a, P a ∧ ∀ k, k < a → ¬ P k := by
      intro m
      induction m using Nat.strongRecOn with
      | ind m ih =>
        intro hm
        rcases Classical.em (∃ k, k < m ∧ P k) with ⟨k, hk, hp⟩ | hn
        · exact ih k hk hp
        · exact ⟨m, hm, fun k hk hp => hn ⟨k, hk, hp⟩⟩
    obtain ⟨a, h1, h2⟩ := key m hm
    exact ⟨some a, Thr.of_least h1 up h2⟩
  · exact ⟨none, Thr.of_none fun m hm => h ⟨m, hm⟩⟩
noncomputable def thr (P : Nat → Prop) : Option Nat := open Classical in if h : ∃ r, Thr P r then Classical.choose h else none
theorem thr_is {P : Nat → Prop} (up : ∀ m n, m ≤ n → P m → P n) : Thr P (thr P) := by
  have h := thr_exists up
  unfold thr
  rw [dif_pos h]
  exact Classical.choose_spec h
theorem Thr.eq {P : Nat → Prop} {r : Option Nat} (h : Thr P r) : r = thr P := by
  have k : ∃ r, Thr P r := ⟨r, h⟩
  have : Thr P (thr P) := by
    unfold thr; rw [dif_pos k]; exact Classical.choose_spec k
  exact h.unique this

/-- a lateness above another one, None above all -/
def abv : Option Nat → Option Nat → Bool
  | _, none => false
  | none, some _ => true
  | some a, some b => decide (b < a)
theorem Thr.not_above {P Q : Nat → Prop} {r s : Option Nat} (h : Thr P r) (k : Thr Q s) (pq : ∀ m, Q m → P m) : abv r s = false := by
  cases s with
  | none => cases r <;> rfl
  | some b =>
    obtain ⟨w, e, hw⟩ := (h.iff b).mpr (pq b k.some_at)
    subst e
    simp [abv]; omega
theorem abv_of {r : Option Nat} (h : r ≠ some 0) : abv r (some 0) = true := by
  cases r with
  | none => rfl
  | some a =>
    have : a ≠ 0 := fun e => h (by rw [e])
    simp [abv]; omega
end K68

namespace K68
/-! ### waiting -/
def WP (c : List Int) (a : Int) (f l : Nat) (work : Int) (m : Nat) : Prop := work ≤ D c a f (l + 1 + m)
noncomputable def wait (c : List Int) (a : Int) (f l : Nat) (work : Int) : Option Nat := thr (WP c a f l work)
section
variable {c : List Int} {a : Int} {f l : Nat} {work : Int}
theorem WP_up (hc : Nn c) (ha : 0 ≤ a) : ∀ m n, m ≤ n → WP c a f l work m → WP c a f l work n := fun m n h k => by
  have := D_mono hc ha f (n := l + 1 + m) (m := l + 1 + n) (by omega)
  unfold WP at k ⊢; omega
theorem wait_is (hc : Nn c) (ha : 0 ≤ a) : Thr (WP c a f l work) (wait c a f l work) := thr_is (WP_up hc ha)
/-- the while loop left with the work done -/
theorem wait_in (hc : Nn c) (ha : 0 ≤ a) {h : Nat} (h1 : l ≤ h) (h2 : h < c.length) (hr : work - csum c f (h + 1) ≤ 0) (hb : ∀ k, l + 1 ≤ k → k ≤ h → csum c f k < work) : wait c a f l work = some (h - l) := by
  refine (Thr.of_least ?_ (WP_up hc ha) fun m hm => ?_).eq.symm
  · unfold WP
    rw [show l + 1 + (h - l) = h + 1 by omega, D_in (by omega)]; omega
  · unfold WP
    rw [D_in (by omega)]
    have := hb (l + 1 + m) (by omega) (by omega)
    omega
theorem ceil_iff {r a n : Int} (ha : 0 < a) : -((-r) / a) ≤ n ↔ r ≤ a * n := by
  constructor
  · intro h
    have h1 : -n ≤ (-r) / a := by omega
    have h2 := (Int.le_ediv_iff_mul_le ha).mp h1
    have e : -n * a = -(a * n) := by rw [Int.neg_mul, Int.mul_comm]
    omega
  · intro h
    have e : -n * a = -(a * n) := by rw [Int.neg_mul, Int.mul_comm]
    have h1 : -n ≤ (-r) / a := (Int.le_ediv_iff_mul_le ha).mpr (by omega)
    omega
theorem ceil_pos {r a : Int} (ha : 0 < a) (hr : 0 < r) : 1 ≤ -((-r) / a) := by
  have := (ceil_iff (r := r) (n := 0) ha)
  simp at this
  omega
/-- .. left at the last hour, none behind -/
theorem wait_never (hc : Nn c) (hl : l < c.length) (hr : 0 < work - csum c f c.length) : wait c 0 f l work = none := by
  refine (Thr.of_none fun m => ?_).eq.symm
  unfold WP D
  have h1 := csum_mono hc f (n := l + 1 + m) (m := max (l + 1 + m) c.length) (by omega)
  have h2 := csum_long c f (n := max (l + 1 + m) c.length) (by omega)
  simp; omega
/-- .. and some behind -/
theorem wait_behind (hc : Nn c) (ha : 0 < a) (hl : l < c.length) (hr : 0 < work - csum c f c.length) : wait c a f l work = some (c.length - 1 - l + (-((-(work - csum c f c.length)) / a)).toNat) := by
  have hp := ceil_pos ha hr
  refine (Thr.of_least ?_ (WP_up hc (Int.le_of_lt ha)) fun m hm => ?_).eq.symm
  · unfold WP D
    rw [csum_long c f (by omega)]
    have h1 := (ceil_iff (r := work - csum c f c.length) (n := -((-(work - csum c f c.length)) / a)) ha).mp (Int.le_refl _)
    have e : ((l + 1 + (c.length - 1 - l + (-((-(work - csum c f c.length)) / a)).toNat) - c.length : Nat) : Int) = -((-(work - csum c f c.length)) / a) := by omega
    rw [e]; omega
  · unfold WP D
    have h2 := csum_mono hc f (n := l + 1 + m) (m := max (l + 1 + m) c.length) (by omega)
    have h3 := csum_long c f (n := max (l + 1 + m) c.length) (by omega)
    intro h
    have h4 : work - csum c f c.length ≤ a * ((l + 1 + m - c.length : Nat) : Int) := by omega
    have h5 := (ceil_iff (r := work - csum c f c.length) ha).mpr h4
    omega
theorem wait_zero (hc : Nn c) (ha : 0 ≤ a) (h : work ≤ 0) : wait c a f l work = some 0 := ((wait_is hc ha).zero_iff).mpr (by
  have := D_nonneg hc ha f (l + 1 + 0)
  unfold WP; omega)
end

/-! ### stretches -/
def spans (T : Nat) : List Win := (List.range T).flatMap fun f => (List.range' f (T - f)).map fun l => (f, l)
theorem mem_spans {T : Nat} {w : Win} : w ∈ spans T ↔ w.1 ≤ w.2 ∧ w.2 < T := by
  unfold spans
  rw [List.mem_flatMap]
  constructor
  · rintro ⟨f, hf, hw⟩
    obtain ⟨l, hl, rfl⟩ := List.mem_map.mp hw
    rw [List.mem_range'_1] at hl
    rw [List.mem_range] at hf
    exact ⟨hl.1, by omega⟩
  · rintro ⟨h1, h2⟩
    exact ⟨w.1, List.mem_range.mpr (by omega), List.mem_map.mpr ⟨w.2, List.mem_range'_1.mpr ⟨h1, by omega⟩, rfl⟩⟩
theorem spans_ne {T : Nat} (h : 1 ≤ T) : spans T ≠ [] := fun e => by
  have : ((0, 0) : Win) ∈ spans T := mem_spans.mpr ⟨Nat.le_refl _, by omega⟩
  rw [e] at this; cases this

/-! ### lateness -/
def LP (T : Nat) (E : List Er) (c : List Int) (a : Int) (m : Nat) : Prop := ∀ w ∈ spans T, asks E w.1 w.2 ≤ D c a w.1 (w.2 + 1 + m)
noncomputable def late (T : Nat) (E : List Er) (c : List Int) (a : Int) : Option Nat := thr (LP T E c a)
section
variable {T : Nat} {E : List Er} {c : List Int} {a : Int}
theorem LP_up (hc : Nn c) (ha : 0 ≤ a) : ∀ m n, m ≤ n → LP T E c a m → LP T E c a n := fun m n h k w hw => by
  have := D_mono hc ha w.1 (n := w.2 + 1 + m) (m := w.2 + 1 + n) (by omega)
  have := k w hw
  omega
theorem late_is (hc : Nn c) (ha : 0 ≤ a) : Thr (LP T E c a) (late T E c a) := thr_is (LP_up hc ha)
/-- the waits of all stretches -/
noncomputable def waits (T : Nat) (E : List Er) (c : List Int) (a : Int) : List (Option Nat) := (spans T).map fun w => wait c a w.1 w.2 (asks E w.1 w.2)
theorem late_none (hc : Nn c) (ha : 0 ≤ a) (h : none ∈ waits T E c a) : late T E c a = none := by
  refine (late_is hc ha).none_iff.mpr fun m hm => ?_
  obtain ⟨w, hw, e⟩ := List.mem_map.mp h
  exact (wait_is hc ha).none_iff.mp e m (hm w hw)
theorem late_max (hc : Nn c) (ha : 0 ≤ a) {ns : List Nat} (h : waits T E c a = ns.map some) {M : Nat} (hM : M ∈ ns) (k : ∀ n ∈ ns, n ≤ M) : late T E c a = some M := by
  refine (Thr.of_least (fun w hw => ?_) (LP_up hc ha) fun m hm hp => ?_).eq.symm
  · have hm : wait c a w.1 w.2 (asks E w.1 w.2) ∈ waits T E c a := List.mem_map.mpr ⟨w, hw, rfl⟩
    rw [h] at hm
    obtain ⟨n, hn, e⟩ := List.mem_map.mp hm
    exact ((wait_is hc ha).iff M).mp ⟨n, e.symm, k n hn⟩
  · have hm2 : some M ∈ waits T E c a := by rw [h]; exact List.mem_map.mpr ⟨M, hM, rfl⟩
    obtain ⟨w, hw, e⟩ := List.mem_map.mp hm2
    have e : wait c a w.1 w.2 (asks E w.1 w.2) = some M := e
    obtain ⟨v, e2, hv⟩ := ((wait_is hc ha).iff m).mpr (hp w hw)
    rw [e] at e2; cases e2; omega
theorem all_some {l : List (Option Nat)} (h : none ∉ l) : ∃ ns : List Nat, l = ns.map some := by
  induction l with
  | nil => exact ⟨[], rfl⟩
  | cons x l ih =>
    obtain ⟨ns, e⟩ := ih fun hm => h (List.mem_cons_of_mem _ hm)
    cases x with
    | none => exact absurd (List.mem_cons_self ..) h
    | some n => exact ⟨n :: ns, by rw [e]; rfl⟩

/-- done_late's answer -/
noncomputable def doneL (T : Nat) (E : List Er) (c : List Int) (a : Int) (m : Nat) : Bool := @decide (LP T E c a m) (Classical.propDecidable _)
theorem doneL_iff {m : Nat} : doneL T E c a m = true ↔ LP T E c a m := by unfold doneL; exact @decide_eq_true_iff _ (Classical.propDecidable _)
def leO (r : Option Nat) (m : Nat) : Bool := match r with
  | none => false
  | some w => decide (w ≤ m)
theorem leO_iff {r : Option Nat} {m : Nat} : leO r m = true ↔ ∃ w, r = some w ∧ w ≤ m := by
  cases r with
  | none => simp [leO]
  | some w => simp [leO]
theorem leO_late (hc : Nn c) (ha : 0 ≤ a) (m : Nat) : leO (late T E c a) m = doneL T E c a m := by
  rw [Bool.eq_iff_iff, leO_iff, doneL_iff]; exact (late_is hc ha).iff m

/-! ### longer windows -/
def longE (m : Nat) (E : List Er) : List Er := E.map fun e => ((e.1.1, e.1.2 + m), e.2)
/-- is_done's answer -/
def doneB (T : Nat) (E : List Er) (c : List Int) : Bool := (spans T).all fun w => decide (asks E w.1 w.2 ≤ csum c w.1 (w.2 + 1))
theorem doneB_iff : doneB T E c = true ↔ ∀ w ∈ spans T, asks E w.1 w.2 ≤ csum c w.1 (w.2 + 1) := by simp [doneB]
theorem asks_long (m f l : Nat) (E : List Er) : asks (longE m E) f (l + m) = asks E f l := by
  unfold asks longE
  refine (fs_moved (fun w => (w.1, w.2 + m)) _ E).trans (fs_congr fun e _ => ?_)
  rw [Bool.eq_iff_iff, inW_iff, inW_iff]; simp
theorem asks_long_low {m f l : Nat} (hw : ∀ e ∈ E, e.1.1 ≤ e.1.2) (h : l < f + m) : asks (longE m E) f l = 0 := by
  unfold asks longE
  refine (fs_moved (fun w => (w.1, w.2 + m)) _ E).trans (fs_false E fun e he => ?_)
  rw [← Bool.not_eq_true, inW_iff]
  have := hw e he
  simp; omega
theorem csum_wide (c : List Int) (a : Int) (m f n : Nat) (h : n ≤ c.length + m) (hf : f ≤ c.length) : csum (c ++ List.replicate m a) f n = D c a f n := by
  induction n with
  | zero => rw [csum_self _ (Nat.zero_le f)]; unfold D; rw [csum_self c (Nat.zero_le f)]; simp
  | succ n ih =>
    by_cases hfn : f ≤ n
    · rw [csum_succ _ hfn, ih (by omega)]
      unfold D
      rw [csum_succ c hfn]
      by_cases hn : n < c.length
      · rw [Nat.sub_eq_zero_of_le (show n + 1 ≤ c.length by omega), Nat.sub_eq_zero_of_le (show n ≤ c.length by omega)]
        rw [List.getD_eq_getElem?_getD, List.getD_eq_getElem?_getD, List.getElem?_append_left hn]
        simp
      · have e1 : (c ++ List.replicate m a).getD n 0 = a := by
          rw [List.getD_eq_getElem?_getD, List.getElem?_append_right (by omega), List.getElem?_replicate, if_pos (by omega)]; rfl
        have e2 : c.getD n 0 = 0 := by
          rw [List.getD_eq_getElem?_getD, List.getElem?_eq_none (by omega)]; rfl
        have e3 : ((n + 1 - c.length : Nat) : Int) = ((n - c.length : Nat) : Int) + 1 := by omega
        rw [e1, e2, e3, Int.mul_add]; omega
    · rw [csum_self _ (by omega)]; unfold D; rw [csum_self c (by omega), Nat.sub_eq_zero_of_le (show n + 1 ≤ c.length by omega)]; simp
theorem doneB_long (hE : ∀ e ∈ E, e.1.1 ≤ e.1.2) (hT : c.length = T) (hc : Nn c) (ha : 0 ≤ a) (m : Nat) : doneB (T + m) (longE m E) (c ++ List.replicate m a) = doneL T E c a m := by
  rw [Bool.eq_iff_iff, doneB_iff, doneL_iff]
  have nn : Nn (c ++ List.replicate m a) := fun x hx => by
    rcases List.mem_append.mp hx with h | h
    · exact hc x h
    · rw [List.eq_of_mem_replicate h]; exact ha
  constructor
  · intro h w hw
    obtain ⟨h1, h2⟩ := mem_spans.mp hw
    have k := h (w.1, w.2 + m) (mem_spans.mpr ⟨by show w.1 ≤ w.2 + m; omega, by show w.2 + m < T + m; omega⟩)
    have k : asks (longE m E) w.1 (w.2 + m) ≤ csum (c ++ List.replicate m a) w.1 (w.2 + m + 1) := k
    rw [asks_long, csum_wide c a m w.1 (w.2 + m + 1) (by omega) (by omega)] at k
    rw [show w.2 + 1 + m = w.2 + m + 1 by omega]; exact k
  · intro h w hw
    obtain ⟨h1, h2⟩ := mem_spans.mp hw
    by_cases hl : w.2 < w.1 + m
    · rw [asks_long_low hE hl]; exact csum_nonneg nn _ _
    · have k := h (w.1, w.2 - m) (mem_spans.mpr ⟨by show w.1 ≤ w.2 - m; omega, by show w.2 - m < T; omega⟩)
      have k : asks E w.1 (w.2 - m) ≤ D c a w.1 (w.2 - m + 1 + m) := k
      have e := asks_long m w.1 (w.2 - m) E
      rw [show w.2 - m + m = w.2 by omega] at e
      rw [e, csum_wide c a m w.1 (w.2 + 1) (by omega) (by omega)]
      rw [show w.2 - m + 1 + m = w.2 + 1 by omega] at k; exact k
theorem doneB_zero (hT : c.length = T) : doneB T E c = true ↔ LP T E c a 0 := by
  rw [doneB_iff]
  constructor
  · intro h w hw
    have := (mem_spans.mp hw).2
    rw [D_in (by omega)]; exact h w hw
  · intro h w hw
    have h2 := (mem_spans.mp hw).2
    have k := h w hw
    rw [D_in (by omega)] at k; exact k
end

/-! ### how many hands behind -/
def NP (T : Nat) (E : List Er) (c : List Int) (m : Nat) (n : Nat) : Prop := LP T E c (n : Int) m
noncomputable def need (T : Nat) (E : List Er) (c : List Int) (m : Nat) : Option Nat := thr (NP T E c m)
section
variable {T : Nat} {E : List Er} {c : List Int} {m : Nat}
theorem NP_up : ∀ i j, i ≤ j → NP T E c m i → NP T E c m j := fun i j h k w hw => by
  have h1 := k w hw
  have h2 := D_le (c := c) (d := c) (a := (i : Int)) (b := (j : Int)) rfl (fun _ => Int.le_refl _) (by omega) w.1 (w.2 + 1 + m)
  omega
theorem need_is : Thr (NP T E c m) (need T E c m) := thr_is NP_up
/-- the loop over the stretches: what is found behind some of them -/
def NPs (ws : List Win) (E : List Er) (c : List Int) (m : Nat) (n : Nat) : Prop := ∀ w ∈ ws, asks E w.1 w.2 ≤ D c (n : Int) w.1 (w.2 + 1 + m)
theorem NPs_nil : Thr (NPs [] E c m) (some 0) := Thr.of_least (fun w hw => by cases hw) (fun _ _ _ _ w hw => by cases hw) fun k hk => by omega
theorem NPs_none {ws : List Win} {w : Win} (hw : w ∈ ws) (hr : 0 < asks E w.1 w.2 - csum c w.1 (w.2 + 1 + m)) (hh : (w.2 : Int) + m - ((c.length : Int) - 1) < 1) : Thr (NPs ws E c m) none := Thr.of_none fun n h => by
  have k := h w hw
  rw [D_in (by omega)] at k; omega
theorem NPs_up {ws : List Win} : ∀ i j, i ≤ j → NPs ws E c m i → NPs ws E c m j := fun i j h k w hw => by
  have h1 := k w hw
  have h2 := D_le (c := c) (d := c) (a := (i : Int)) (b := (j : Int)) rfl (fun _ => Int.le_refl _) (by omega) w.1 (w.2 + 1 + m)
  omega
theorem NPs_pass {ws : List Win} {w : Win} {a : Nat} (h : Thr (NPs ws E c m) (some a)) (hr : asks E w.1 w.2 - csum c w.1 (w.2 + 1 + m) ≤ 0) : Thr (NPs (ws ++ [w]) E c m) (some a) := by
  refine h.congr fun n => ⟨fun k v hv => ?_, fun k v hv => k v (List.mem_append_left _ hv)⟩
  rcases List.mem_append.mp hv with hv | hv
  · exact k v hv
  · rw [List.mem_singleton.mp hv]
    unfold D
    have := mul_nn (a := (n : Int)) (b := ((w.2 + 1 + m - c.length : Nat) : Int)) (by omega) (by omega)
    omega
theorem NPs_more {ws : List Win} {w : Win} {a : Nat} (h : Thr (NPs ws E c m) (some a)) (hr : 0 < asks E w.1 w.2 - csum c w.1 (w.2 + 1 + m)) {hh : Int} (eh : hh = (w.2 : Int) + m - ((c.length : Int) - 1)) (h1 : 1 ≤ hh) :
    Thr (NPs (ws ++ [w]) E c m) (some (max a (-((-(asks E w.1 w.2 - csum c w.1 (w.2 + 1 + m))) / hh)).toNat)) := by
  have hp := ceil_pos (r := asks E w.1 w.2 - csum c w.1 (w.2 + 1 + m)) (a := hh) (by omega) hr
  have key : ∀ n : Nat, (asks E w.1 w.2 ≤ D c (n : Int) w.1 (w.2 + 1 + m)) ↔ (-((-(asks E w.1 w.2 - csum c w.1 (w.2 + 1 + m))) / hh)).toNat ≤ n := fun n => by
    have e : ((w.2 + 1 + m - c.length : Nat) : Int) = hh := by omega
    have k := ceil_iff (r := asks E w.1 w.2 - csum c w.1 (w.2 + 1 + m)) (a := hh) (n := (n : Int)) (by omega)
    unfold D
    rw [e, Int.mul_comm]
    omega
  refine Thr.of_least (fun v hv => ?_) NPs_up fun n hn k => ?_
  · rcases List.mem_append.mp hv with hv | hv
    · exact NPs_up a _ (by omega) h.some_at v hv
    · rw [List.mem_singleton.mp hv]
      exact (key _).mpr (by omega)
  · have k1 := (key n).mp (k w (List.mem_append_right _ (List.mem_singleton.mpr rfl)))
    have k2 : NPs ws E c m n := fun v hv => k v (List.mem_append_left _ hv)
    have := h.below (m := n)
    by_cases q : n < a
    · exact this q k2
    · omega
theorem NPs_spans : NPs (spans T) E c m = NP T E c m := rfl
end

/-! ### the last hour if no window ends -/
def FP (T : Nat) (E : List Er) (c : List Int) (a : Int) (k : Nat) : Prop := ∀ f, f < T → asks E f (T - 1) ≤ D c a f k
/-- one behind finish's answer -/
noncomputable def fin1 (T : Nat) (E : List Er) (c : List Int) (a : Int) : Option Nat := thr (FP T E c a)
section
variable {T : Nat} {E : List Er} {c : List Int} {a : Int}
theorem FP_up (hc : Nn c) (ha : 0 ≤ a) : ∀ i j, i ≤ j → FP T E c a i → FP T E c a j := fun i j h k f hf => by
  have := D_mono hc ha f h
  have := k f hf
  omega
theorem fin1_is (hc : Nn c) (ha : 0 ≤ a) : Thr (FP T E c a) (fin1 T E c a) := thr_is (FP_up hc ha)
def FPs (g : Nat) (T : Nat) (E : List Er) (c : List Int) (a : Int) (k : Nat) : Prop := ∀ f, f < g → asks E f (T - 1) ≤ D c a f k
theorem FPs_up {g : Nat} (hc : Nn c) (ha : 0 ≤ a) : ∀ i j, i ≤ j → FPs g T E c a i → FPs g T E c a j := fun i j h k f hf => by
  have := D_mono hc ha f h
  have := k f hf
  omega
theorem FPs_zero : Thr (FPs 0 T E c a) (some 0) := Thr.of_least (fun f hf => by omega) (fun _ _ _ _ f hf => by omega) fun k hk => by omega
theorem FPs_pass {g r : Nat} (hc : Nn c) (ha : 0 ≤ a) (h : Thr (FPs g T E c a) (some r)) (hw : asks E g (T - 1) ≤ 0) : Thr (FPs (g + 1) T E c a) (some r) := by
  refine h.congr fun k => ⟨fun p f hf => ?_, fun p f hf => p f (by omega)⟩
  by_cases e : f = g
  · subst e
    have := D_nonneg hc ha f k
    omega
  · exact p f (by omega)
theorem FPs_none {g : Nat} (hc : Nn c) (ha : 0 ≤ a) (hg : g < T) (h : wait c a g g (asks E g (T - 1)) = none) : Thr (FP T E c a) none := Thr.of_none fun k p => by
  refine (wait_is hc ha).none_iff.mp h k ?_
  have h1 := p g hg
  have h2 := D_mono hc ha g (n := k) (m := g + 1 + k) (by omega)
  unfold WP; omega
theorem FPs_more {g r w : Nat} (hc : Nn c) (ha : 0 ≤ a) (hg : g < c.length) (h : Thr (FPs g T E c a) (some r)) (hw : 0 < asks E g (T - 1)) (e : wait c a g g (asks E g (T - 1)) = some w) : Thr (FPs (g + 1) T E c a) (some (max r (g + 1 + w))) := by
  have hi := wait_is (c := c) (a := a) (f := g) (l := g) (work := asks E g (T - 1)) hc ha
  rw [e] at hi
  refine Thr.of_least (fun f hf => ?_) (FPs_up hc ha) fun k hk p => ?_
  · by_cases q : f = g
    · subst q
      have h1 := hi.some_at
      have h2 := D_mono hc ha f (n := f + 1 + w) (m := max r (f + 1 + w)) (by omega)
      unfold WP at h1; omega
    · exact FPs_up hc ha r _ (by omega) h.some_at f (by omega)
  · have p1 : FPs g T E c a k := fun f hf => p f (by omega)
    have p2 := p g (by omega)
    by_cases q : k < r
    · exact h.below q p1
    · have hk2 : k < g + 1 + w := by omega
      by_cases q2 : k ≤ g
      · have h3 : D c a g k = 0 := by rw [D_in (by omega), csum_self c q2]
        omega
      · have h4 : k - (g + 1) < w := by omega
        refine hi.below h4 ?_
        unfold WP
        rw [show g + 1 + (k - (g + 1)) = k by omega]; exact p2
/-- all windows to the last hour -/
def flatE (T : Nat) (E : List Er) : List Er := E.map fun e => ((e.1.1, T - 1), e.2)
theorem asks_flat {f l : Nat} (hE : ∀ e ∈ E, e.1.2 ≤ T - 1) : asks (flatE T E) f l = if T - 1 ≤ l then asks E f (T - 1) else 0 := by
  unfold asks flatE
  refine (fs_moved (fun w => (w.1, T - 1)) _ E).trans ?_
  by_cases h : T - 1 ≤ l
  · rw [if_pos h]
    refine fs_congr fun e he => ?_
    rw [Bool.eq_iff_iff, inW_iff, inW_iff]
    have := hE e he
    simp; omega
  · rw [if_neg h]
    refine fs_false E fun e _ => ?_
    rw [← Bool.not_eq_true, inW_iff]
    simp; omega
theorem FP_flat (hE : ∀ e ∈ E, e.1.2 ≤ T - 1) (k : Nat) : FP T (flatE T E) c a k ↔ FP T E c a k := by
  unfold FP
  simp only [asks_flat hE, Nat.le_refl, if_true]
theorem fin1_flat (hE : ∀ e ∈ E, e.1.2 ≤ T - 1) : fin1 T (flatE T E) c a = fin1 T E c a := by
  unfold fin1
  congr 1
  funext k
  exact propext (FP_flat hE k)
theorem LP_flat (hT : 1 ≤ T) (hc : Nn c) (ha : 0 ≤ a) (hE : ∀ e ∈ E, e.1.2 ≤ T - 1) (m : Nat) : LP T (flatE T E) c a m ↔ FP T E c a (T + m) := by
  constructor
  · intro h f hf
    have k := h (f, T - 1) (mem_spans.mpr ⟨by show f ≤ T - 1; omega, by show T - 1 < T; omega⟩)
    have k : asks (flatE T E) f (T - 1) ≤ D c a f (T - 1 + 1 + m) := k
    rw [asks_flat hE, if_pos (Nat.le_refl _), show T - 1 + 1 + m = T + m by omega] at k
    exact k
  · intro h w hw
    obtain ⟨h1, h2⟩ := mem_spans.mp hw
    rw [asks_flat hE]
    by_cases q : T - 1 ≤ w.2
    · rw [if_pos q]
      have e : w.2 + 1 + m = T + m := by omega
      rw [e]; exact h w.1 (by omega)
    · rw [if_neg q]; exact D_nonneg hc ha _ _
/-- finish, above or at the last hour -/
theorem late_flat_low {r : Nat} (hT : 1 ≤ T) (hc : Nn c) (ha : 0 ≤ a) (hE : ∀ e ∈ E, e.1.2 ≤ T - 1) (h : fin1 T E c a = some r) (hr : r ≤ T) : late T (flatE T E) c a = some 0 := by
  refine (late_is hc ha).zero_iff.mpr ((LP_flat hT hc ha hE 0).mpr ?_)
  have hi := fin1_is (T := T) (E := E) hc ha
  rw [h] at hi
  exact FP_up hc ha r _ (by omega) hi.some_at
theorem late_flat_high {r : Nat} (hT : 1 ≤ T) (hc : Nn c) (ha : 0 ≤ a) (hE : ∀ e ∈ E, e.1.2 ≤ T - 1) (h : fin1 T E c a = some r) (hr : T ≤ r) : late T (flatE T E) c a = some (r - T) := by
  have hi := fin1_is (T := T) (E := E) hc ha
  rw [h] at hi
  refine (Thr.of_least ((LP_flat hT hc ha hE _).mpr ?_) (LP_up hc ha) fun m hm p => ?_).eq.symm
  · rw [show T + (r - T) = r by omega]; exact hi.some_at
  · exact hi.below (m := T + m) (by omega) ((LP_flat hT hc ha hE m).mp p)
/-- the lot itself is as late at least -/
theorem late_ge {r : Nat} (hT : 1 ≤ T) (hc : Nn c) (ha : 0 ≤ a) (h : fin1 T E c a = some r) {v : Nat} (hv : late T E c a = some v) : r ≤ T + v := by
  have hi := fin1_is (T := T) (E := E) hc ha
  rw [h] at hi
  have hl := late_is (T := T) (E := E) hc ha
  rw [hv] at hl
  have p : FP T E c a (T + v) := fun f hf => by
    have k := hl.some_at (f, T - 1) (mem_spans.mpr ⟨by show f ≤ T - 1; omega, by show T - 1 < T; omega⟩)
    have k : asks E f (T - 1) ≤ D c a f (T - 1 + 1 + v) := k
    rw [show T - 1 + 1 + v = T + v by omega] at k; exact k
  obtain ⟨w, e, hw⟩ := (hi.iff _).mpr p
  cases e; exact hw
theorem fin_late_none (ok : LotOk T E) (hT : c.length = T) (hc : Nn c) (ha : 0 ≤ a) : fin1 T E c a = none ↔ late T E c a = none := by
  rw [(fin1_is hc ha).none_iff, (late_is hc ha).none_iff]
  have hp := ok.pos
  constructor
  · intro h m hm
    refine h (T + m) fun f hf => ?_
    have k := hm (f, T - 1) (mem_spans.mpr ⟨by show f ≤ T - 1; omega, by show T - 1 < T; omega⟩)
    have k : asks E f (T - 1) ≤ D c a f (T - 1 + 1 + m) := k
    rw [show T - 1 + 1 + m = T + m by omega] at k; exact k
  · intro h k hk
    refine h (k) fun w hw => ?_
    obtain ⟨h1, h2⟩ := mem_spans.mp hw
    have h3 := hk w.1 (by omega)
    have h4 := asks_mono ok (f := w.1) (l := w.2) (l' := T - 1) (by omega)
    have h5 := D_mono hc ha w.1 (n := k) (m := w.2 + 1 + k) (by omega)
    omega
/-- no work at all -/
theorem fin1_zero (ok : LotOk T E) (hT : c.length = T) (hc : Nn c) (ha : 0 ≤ a) : fin1 T E c a = some 0 ↔ E = [] := by
  rw [(fin1_is hc ha).zero_iff]
  have hp := ok.pos
  constructor
  · intro h
    cases E with
    | nil => rfl
    | cons e E =>
      have h1 := h 0 (by omega)
      rw [D_in (by omega), csum_self c (Nat.le_refl 0)] at h1
      have h2 := fs_mem_le (P := inW 0 (T - 1)) ok.nn (List.mem_cons_self (a := e) (l := E)) (inW_iff.mpr ⟨Nat.zero_le _, by have := (ok.win e (List.mem_cons_self ..)).2; omega⟩)
      have h3 := ok.one e (List.mem_cons_self ..)
      unfold asks at h1; omega
  · rintro rfl f _
    have h0 : asks [] f (T - 1) = 0 := rfl
    rw [h0]; exact D_nonneg hc ha f 0
end

/-! ### mates -/
def notMore (T : Nat) (E F : List Er) : Bool := (spans T).all fun w => decide (asks E w.1 w.2 ≤ asks F w.1 w.2)
theorem notMore_iff {T : Nat} {E F : List Er} : notMore T E F = true ↔ ∀ w ∈ spans T, asks E w.1 w.2 ≤ asks F w.1 w.2 := by simp [notMore]
theorem never_above {T : Nat} {E F : List Er} {c : List Int} {a : Int} (hc : Nn c) (ha : 0 ≤ a) (h : notMore T E F = true) : abv (late T E c a) (late T F c a) = false :=
  (late_is hc ha).not_above (late_is hc ha) fun m k w hw => by
    have h1 := notMore_iff.mp h w hw
    have h2 := k w hw
    omega
theorem more_hands {T : Nat} {E : List Er} {c d : List Int} {a b : Int} (hc : Nn c) (ha : 0 ≤ a) (hd : Nn d) (hb : 0 ≤ b) (hl : c.length = d.length) (h : ∀ i, c.getD i 0 ≤ d.getD i 0) (hab : a ≤ b) : abv (late T E d b) (late T E c a) = false :=
  (late_is hd hb).not_above (late_is hc ha) fun m k w hw => by
    have h1 := D_le hl h hab w.1 (w.2 + 1 + m)
    have h2 := k w hw
    omega
def timesE (k : Int) (E : List Er) : List Er := E.map fun e => (e.1, k * e.2)
theorem late_times {T : Nat} {E : List Er} {c : List Int} {a k : Int} (hk : 0 < k) : late T (timesE k E) (c.map fun x => k * x) (k * a) = late T E c a := by
  unfold late
  congr 1
  funext m
  refine propext ⟨fun h w hw => ?_, fun h w hw => ?_⟩
  · have q := h w hw
    unfold asks timesE at q
    rw [fs_times, D_times] at q
    exact Int.le_of_mul_le_mul_left q hk
  · unfold asks timesE
    rw [fs_times, D_times]
    exact Int.mul_le_mul_of_nonneg_left (h w hw) (Int.le_of_lt hk)

/-! ### the calendar that shows it -/
def Bq (F : List Er) (l h : Nat) : Int := fs F fun w => decide (w.1 = h) && decide (w.2 ≤ l)
def laterH (T : Nat) (F : List Er) (f l : Nat) (p : Int) : List Int := (List.range T).map fun h => if f ≤ h ∧ h ≤ l then Bq F l h else p
section
variable {T : Nat} {F : List Er} {f l : Nat} {p : Int}
theorem laterH_len : (laterH T F f l p).length = T := by simp [laterH]
theorem laterH_at {h : Nat} (hh : h < T) : (laterH T F f l p).getD h 0 = if f ≤ h ∧ h ≤ l then Bq F l h else p := by
  unfold laterH
  rw [List.getD_eq_getElem?_getD, List.getElem?_map, List.getElem?_range hh]; rfl
theorem laterH_nn (ok : LotOk T F) (hp : 0 ≤ p) : Nn (laterH T F f l p) := fun x hx => by
  obtain ⟨h, _, rfl⟩ := List.mem_map.mp hx
  split
  · exact fs_nonneg ok.nn
  · exact hp
/-- within the stretch the hands are those of the windows that begin there and end in it -/
theorem laterH_sum {g n : Nat} (hl : l < T) (hg : f ≤ g) (hgn : g ≤ n) (hn : n ≤ l + 1) : csum (laterH T F f l p) g n = fs F fun w => (decide (g ≤ w.1) && decide (w.1 < n)) && decide (w.2 ≤ l) := by
  induction n with
  | zero =>
    rw [csum_self _ (Nat.zero_le g)]
    exact (fs_false F fun e _ => by simp).symm
  | succ n ih =>
    by_cases q : g ≤ n
    · rw [csum_succ _ q, ih q (by omega), laterH_at (by omega), if_pos ⟨by omega, by omega⟩]
      unfold Bq
      refine (fs_split fun e _ => ⟨?_, ?_⟩).symm
      · rw [Bool.eq_iff_iff]; simp; omega
      · simp; omega
    · rw [csum_self _ (by omega)]
      exact (fs_false F fun e _ => by simp; omega).symm
theorem laterH_own (ok : LotOk T F) (hfl : f ≤ l) (hl : l < T) : csum (laterH T F f l p) f (l + 1) = asks F f l := by
  rw [laterH_sum hl (Nat.le_refl f) (by omega) (Nat.le_refl _)]
  refine fs_congr fun e he => ?_
  have := ok.win e he
  rw [Bool.eq_iff_iff, inW_iff]; simp; omega
theorem csum_ge {c : List Int} (hc : Nn c) {f n h : Nat} (h1 : f ≤ h) (h2 : h < n) : c.getD h 0 ≤ csum c f n := by
  have k1 := csum_mono hc f (n := h + 1) (m := n) (by omega)
  have k2 := csum_succ c h1
  have k3 := csum_nonneg hc f h
  omega
theorem laterH_does (ok : LotOk T F) (hfl : f ≤ l) (hl : l < T) (hp : allW F ≤ p) (b : Int) : LP T F (laterH T F f l p) b 0 := fun w hw => by
  obtain ⟨h1, h2⟩ := mem_spans.mp hw
  rw [D_in (by rw [laterH_len]; omega)]
  have hp0 : 0 ≤ p := Int.le_trans (by rw [allW_fs]; exact fs_nonneg ok.nn) hp
  have nn := laterH_nn (f := f) (l := l) ok hp0
  have all := asks_le_all ok w.1 w.2
  by_cases q : f ≤ w.1 ∧ w.2 ≤ l
  · rw [laterH_sum hl q.1 (by omega) (by omega)]
    refine fs_le ok.nn fun e he k => ?_
    rw [inW_iff] at k
    have := ok.win e he
    simp; omega
  · by_cases q1 : f ≤ w.1
    · -- the last hour lies outside
      have k := csum_ge nn (f := w.1) (n := w.2 + 1) (h := w.2) h1 (by omega)
      rw [laterH_at h2, if_neg (by omega)] at k
      show asks F w.1 w.2 ≤ csum (laterH T F f l p) w.1 (w.2 + 1)
      omega
    · have k := csum_ge nn (f := w.1) (n := w.2 + 1) (h := w.1) (Nat.le_refl _) (by omega)
      rw [laterH_at (by omega), if_neg (by omega)] at k
      show asks F w.1 w.2 ≤ csum (laterH T F f l p) w.1 (w.2 + 1)
      omega
theorem laterH_shows {E : List Er} (ok : LotOk T F) (hfl : f ≤ l) (hl : l < T) (hp : allW F ≤ p) (more : asks F f l < asks E f l) {b : Int} (hb : 0 ≤ b) :
    abv (late T E (laterH T F f l p) b) (late T F (laterH T F f l p) b) = true := by
  have hp0 : 0 ≤ p := Int.le_trans (by rw [allW_fs]; exact fs_nonneg ok.nn) hp
  have nn := laterH_nn (f := f) (l := l) ok hp0
  rw [((late_is (T := T) (E := F) nn hb).zero_iff).mpr (laterH_does ok hfl hl hp b)]
  refine abv_of fun e => ?_
  have k := (late_is (T := T) (E := E) nn hb).zero_iff.mp e (f, l) (mem_spans.mpr ⟨hfl, hl⟩)
  have k : asks E f l ≤ D (laterH T F f l p) b f (l + 1 + 0) := k
  rw [D_in (by rw [laterH_len]; omega), Nat.add_zero, laterH_own ok hfl hl] at k
  omega
end
end K68

namespace K68
section
variable {T : Nat} {E : List Er} {c : List Int} {a : Int} {m : Nat}
theorem late_mem (h1 : 1 ≤ T) (hc : Nn c) (ha : 0 ≤ a) : late T E c a ∈ waits T E c a := by
  by_cases h : none ∈ waits T E c a
  · rw [late_none hc ha h]; exact h
  · obtain ⟨ns, hns⟩ := all_some h
    have hne : ns ≠ [] := fun z => by
      rw [z] at hns
      unfold waits at hns
      exact spans_ne h1 (List.map_eq_nil_iff.mp hns)
    have hmax : ∀ {ns : List Nat}, ns ≠ [] → ∃ M ∈ ns, ∀ n ∈ ns, n ≤ M := by
      intro ns
      induction ns with
      | nil => intro h; exact absurd rfl h
      | cons x xs ih =>
        intro _
        cases xs with
        | nil => exact ⟨x, List.mem_cons_self .., fun n hn => by simp at hn; omega⟩
        | cons y ys =>
          obtain ⟨M, q1, q2⟩ := ih (by simp)
          by_cases hx : x ≤ M
          · exact ⟨M, List.mem_cons_of_mem _ q1, fun n hn => by
              rcases List.mem_cons.mp hn with q | q
              · omega
              · exact q2 n q⟩
          · refine ⟨x, List.mem_cons_self .., fun n hn => ?_⟩
            rcases List.mem_cons.mp hn with q | q
            · omega
            · have := q2 n q; omega
    obtain ⟨M, q1, q2⟩ := hmax hne
    rw [late_max hc ha hns q1 q2, hns]
    exact List.mem_map.mpr ⟨M, q1, rfl⟩
theorem doneB_late (hT : c.length = T) (hc : Nn c) (ha : 0 ≤ a) : doneB T E c = decide (late T E c a = some 0) := by
  rw [Bool.eq_iff_iff, decide_eq_true_iff, doneB_zero (a := a) hT]
  exact ((late_is hc ha).zero_iff).symm
theorem need_done {r : Nat} (hc : Nn c) (h : need T E c m = some r) : leO (late T E c (r : Int)) m = true := by
  rw [leO_late hc (by omega), doneL_iff]
  have := need_is (T := T) (E := E) (c := c) (m := m)
  rw [h] at this
  exact this.some_at
theorem need_less {r : Nat} (hc : Nn c) (h : need T E c m = some r) (hr : 0 < r) : leO (late T E c ((r : Int) - 1)) m = false := by
  rw [show (r : Int) - 1 = ((r - 1 : Nat) : Int) by omega, leO_late hc (by omega), ← Bool.not_eq_true, doneL_iff]
  have := need_is (T := T) (E := E) (c := c) (m := m)
  rw [h] at this
  exact this.below (by omega)
theorem need_none (hc : Nn c) (ok : LotOk T E) (h : need T E c m = none) : leO (late T E c (allW E)) m = false := by
  have h0 : 0 ≤ allW E := by rw [allW_fs]; exact fs_nonneg ok.nn
  rw [leO_late hc h0, ← Bool.not_eq_true, doneL_iff]
  have := need_is (T := T) (E := E) (c := c) (m := m)
  rw [h] at this
  have k := this.none_iff.mp rfl (allW E).toNat
  unfold NP at k
  rwa [Int.toNat_of_nonneg h0] at k
theorem need_le {r : Nat} (hc : Nn c) (ok : LotOk T E) (h : need T E c m = some r) : (r : Int) ≤ allW E := by
  have h0 : 0 ≤ allW E := by rw [allW_fs]; exact fs_nonneg ok.nn
  have hi := need_is (T := T) (E := E) (c := c) (m := m)
  rw [h] at hi
  have hp : NP T E c m r := hi.some_at
  have : NP T E c m (allW E).toNat := fun w hw => by
    have h1 := hp w hw
    have h2 := asks_le_all ok w.1 w.2
    rw [Int.toNat_of_nonneg h0]
    unfold D at h1 ⊢
    have h3 := csum_nonneg hc w.1 (w.2 + 1 + m)
    generalize hz : ((w.2 + 1 + m - c.length : Nat) : Int) = z at h1 ⊢
    have hz0 : 0 ≤ z := by omega
    by_cases z0 : z = 0
    · rw [z0] at h1 ⊢
      simp at h1 ⊢
      exact h1
    · have h4 : allW E * 1 ≤ allW E * z := Int.mul_le_mul_of_nonneg_left (by omega) h0
      omega
  obtain ⟨w, e, hw⟩ := (hi.iff _).mpr this
  cases e
  omega
end
end K68

namespace K68
open PySem PySem.Spec PyProof.Rows L2
section
variable {X : Cx} {a b c d : Expr} {ta tb tc td : TE} {pos : Pos}
/-- a < b < c < d as a test -/
def tCh3 (r1 r2 r3 : R2) (ta tb tc td : TE) : TT := fun σ H Q => ta σ H fun x H1 => tb σ H1 fun y H2 => r1 x y H2 fun z H3 => ∃ k, z = .bl k ∧
  if k = true then tc σ H3 fun u H4 => r2 y u H4 fun z2 H5 => ∃ k2, z2 = .bl k2 ∧ if k2 = true then td σ H5 fun v H6 => r3 u v H6 fun z3 H7 => ∃ k3, z3 = .bl k3 ∧ Q k3 H7 else Q false H5 else Q false H3
theorem pt_ch3 {o1 o2 o3 : CmpOp} {r1 r2 r3 : R2} (h1 : OpR X (compareOp o1) r1) (h2 : OpR X (compareOp o2) r2) (h3 : OpR X (compareOp o3) r3) (ha : PE X a ta) (hb : PE X b tb) (hc : PE X c tc) (hd : PE X d td)
    (hm : lastMarks [o1, o2, o3] [b, c, d] = false := by with_unfolding_all rfl) : PT X (.Compare a [o1, o2, o3] [b, c, d] pos) (tCh3 r1 r2 r3 ta tb tc td) := by
  constructor
  intro pins s σ H Q I h
  refine isTrue_chain (thn (ha.run pins s σ H _ I h) fun va s1 ha1 => ?_) hm
  obtain ⟨x, H1, I1, rx, q1⟩ := ha1
  refine test_link (thn (hb.run pins s1 σ H1 _ I1 q1) fun vb s2 hb1 => ?_)
  obtain ⟨y, H2, I2, ry, q2⟩ := hb1
  refine thn (h1 pins s2 σ H2 x y va vb _ I2 rx ry q2) fun e s3 he => ?_
  obtain ⟨z, H3, I3, rz, k, ez, q3⟩ := he
  subst ez
  cases rz
  refine wpAny_truthy_bool ?_
  cases k
  · exact ite_ff ⟨H3, I3, q3⟩
  refine ite_tt (test_link (thn (hc.run pins s3 σ H3 _ I3 q3) fun vc s4 hc1 => ?_))
  obtain ⟨u, H4, I4, ru, q4⟩ := hc1
  refine thn (h2 pins s4 σ H4 y u vb vc _ I4 ry ru q4) fun e2 s5 he2 => ?_
  obtain ⟨z2, H5, I5, rz2, k2, ez2, q5⟩ := he2
  subst ez2
  cases rz2
  refine wpAny_truthy_bool ?_
  cases k2
  · exact ite_ff ⟨H5, I5, q5⟩
  refine ite_tt (test_last (thn (hd.run pins s5 σ H5 _ I5 q5) fun vd s6 hd1 => ?_))
  obtain ⟨v, H6, I6, rv, q6⟩ := hd1
  refine thn (h3 pins s6 σ H6 u v vc vd _ I6 ru rv q6) fun e3 s7 he3 => ?_
  obtain ⟨z3, H7, I7, rz3, k3, ez3, q7⟩ := he3
  subst ez3
  cases rz3
  exact wpAny_truthy_bool ⟨H7, I7, q7⟩
/-- sum of a tuple of ints -/
def rSumT (K : PySem.W.Frag) : List V → Hp → VK → Prop := fun vs H Q => ∃ (p : Addr) (ns : List Int), vs = [V.ref p] ∧ SqT K H p (ns.map V.int) ∧ Q (.int ns.sum) H
theorem cr_sumT (hc : X.calm = true) : CallR X (.builtin "sum") (rSumT X.K) := by
  intro pins s σ H vs us Q I r h
  obtain ⟨p, ns, rfl, ht, q⟩ := h
  obtain ⟨its, rv, hp, _⟩ := I.tuple ht
  rw [Vals.ref1 r]
  have hi := rv.ints
  obtain ⟨xs, e⟩ := hi.allInts.items
  have hn : numsOf (intItems xs).toList = ns := by rw [← e]; exact hi.numsOf
  rw [nums_intItems] at hn
  have hp2 : s.heap.IsTuple p its.toArray := hp
  rw [e] at hp2
  refine PySem.W.ktm_sumG (I.ok.hd hc) hp2 fun h' tk t' hk => ?_
  rw [preSum_eq, List.take_of_length_le (by simp), hn]
  exact ⟨V.int ns.sum, H, I.kept hk, ⟨_, rfl⟩, q⟩
end
end K68

namespace K68
open PySem PySem.Spec PyProof.Rows L2
/-- a walk whose items are new tuples -/
def ItN (go stop : Nat → Hp → Prop) (yv : Nat → Hp → List V → Prop) : It :=
  ⟨go, fun i H v H' => ∃ T xs, v = .ref T ∧ H T = none ∧ H' = upd H T (.tup xs) ∧ yv i H xs, stop⟩
theorem turn_new {P : Program} {w : World} {K : PySem.W.Frag} {elts : List Expr} {kk : Nat} {tpos : Pos} {fp : List Addr} {it : Addr} {tn : Nat → Heap → Prop} {go stop : Nat → Hp → Prop} {yv : Nat → Hp → List V → Prop}
    (mem : it ∈ fp) (obj : ∀ i h, tn i h → ∀ b ∈ fp, ∃ o, h.get? b = some o ∧ ∀ v, o.data ≠ .cell v)
    (keep : ∀ i h h', tn i h → (∀ b ∈ fp, ∀ o, h.get? b = some o → h'.get? b = some o) → tn i h')
    (item : ∀ (X : Cx), X.prog = P → X.w = w → X.K = K → X.calm = true → ∀ (i : Nat) (pins : List (Addr × Obj)) (s : Shared) (σ : L2.St) (H : Hp), Inv X pins σ H s → (∀ b ∈ fp, H b = none) → tn i s.heap → go i H →
      ∃ (n : Nat) (Y : Nat → Heap → Value → Heap → Prop) (S : Nat → Heap → Prop) (fpg wr : List Addr), GoesN P w X.A (.Tuple elts kk tpos) it fpg wr n Y S ∧ i < n ∧ S i s.heap ∧ (∀ b ∈ wr, b ∈ fp) ∧
        ∀ v h', Y i s.heap v h' → S (i + 1) h' → (∀ b o, b ∉ wr → s.heap.get? b = some o → h'.get? b = some o) → tn (i + 1) h' ∧ ∃ T xs us, v = .ref T ∧ s.heap.objs.size ≤ T ∧ IsTup h' T (List.toArray us) ∧ Vals xs us ∧ xs.length ≤ sizeLine ∧ yv i H xs)
    (done : ∀ (X : Cx), X.prog = P → X.w = w → X.K = K → X.calm = true → ∀ (i : Nat) (pins : List (Addr × Obj)) (s : Shared) (σ : L2.St) (H : Hp), Inv X pins σ H s → (∀ b ∈ fp, H b = none) → tn i s.heap → stop i H →
      ∃ (n : Nat) (Y : Nat → Heap → Value → Heap → Prop) (S : Nat → Heap → Prop) (fpg wr : List Addr), GoesN P w X.A (.Tuple elts kk tpos) it fpg wr n Y S ∧ S n s.heap ∧ (∀ b ∈ wr, b ∈ fp))
    (self : ∀ (A : Around) (i : Nat) (s : Shared) (Q : Value → Shared → Prop) (E : Value → Shared → Prop), tn i s.heap → Q (.ref it) s → wpAny (model P w) A (pyIter (.ref it)) Q E s) :
    Turn P w K (.Tuple elts kk tpos) (ItN go stop yv) fp it tn where
  mem := mem
  obj := obj
  keep := keep
  item := by
    intro X hP hw hK hc i pins s σ H E I hf st hg
    obtain ⟨n, Y, S, fpg, wr, G, hi, hS, hwr, rest⟩ := item X hP hw hK hc i pins s σ H I (fun b hb => (hf b hb).1) st hg
    subst hP hw
    refine wpAny_mono (G.goes i s (fun v s2 => ∃ x H', Inv X pins σ H' s2 ∧ RelV x v ∧ (ItN go stop yv).yld i H x H' ∧ tn (i + 1) s2.heap ∧ ∀ b ∈ fp, H' b = none) E hi hS fun v h' tk hY hS' hk htk => ?_) (fun r s1 hr => ?_) fun _ _ e => e
    · obtain ⟨tn', T, xs, us, ev, hT, hI, rv, hl, hy⟩ := rest v h' hY hS' hk
      subst ev
      have hn : H T = none := I.hok.fresh hT
      have new : ObjOk X.prog X.w (upd H T (.tup xs)) h' T (.tup xs) := ⟨hl, us, rv, hI⟩
      have I1 : Inv X pins σ (upd H T (.tup xs)) { s with heap := h', toks := tk } := I.turnedNew (t' := tk) (ch := fp) (fun b o hb e => hk b o (fun q => hb (hwr b q)) e) hf hT new
      refine ⟨.ref T, _, I1, rfl, ⟨T, xs, rfl, hn, rfl, hy⟩, tn', fun b hb => ?_⟩
      obtain ⟨o, e, _⟩ := obj i s.heap st b hb
      rw [upd_ne (Nat.ne_of_lt (Nat.lt_of_lt_of_le (Heap.lt_size e) hT))]
      exact (hf b hb).1
    · obtain ⟨v, ev, hv⟩ := hr
      exact ⟨v, ev, wpAny_mono hv (fun _ _ q => q) fun _ _ e => e⟩
  done := by
    intro X hP hw hK hc i pins s σ H E I hf st hs
    obtain ⟨n, Y, S, fpg, wr, G, hS, hwr⟩ := done X hP hw hK hc i pins s σ H I (fun b hb => (hf b hb).1) st hs
    subst hP hw
    exact G.stops s _ E hS fun h' tk hk _ => I.turnedL (t' := tk) (ch := fp) (fun b o hb e => hk b o (fun q => hb (hwr b q)) e) hf
  self := self
end K68

namespace K68
open PySem PySem.Spec PyProof.Rows L2
/-! ### d.items() of a dict with tuple keys; the dict stays locked -/
def ItIT (d : Addr) (o : Obj) (kvs : List (List Key × V)) : It :=
  ItN (fun i H => H d = some (.frz o (.dT kvs)) ∧ i < kvs.length) (fun i H => H d = some (.frz o (.dT kvs)) ∧ i = kvs.length)
    fun i H xs => ∃ (k : List Key) (v : V) (q : Addr), kvs[i]? = some (k, v) ∧ xs = [.ref q, v] ∧ H q = some (.tup (k.map kV))
theorem frzT_all {X : Cx} {pins : List (Addr × Obj)} {σ : L2.St} {H : Hp} {s : Shared} {d : Addr} {o : Obj} {kvs : List (List Key × V)} (I : Inv X pins σ H s) (h : H d = some (.frz o (.dT kvs))) {es : Array DictEntry} {ep : Nat} (hd : o.data = .dict es ep) :
    (d == sysModules) = false ∧ s.heap.DictRaw d es ep ∧ es.size = kvs.length ∧ ∀ (i : Nat) (k : List Key) (v : V), kvs[i]? = some (k, v) → ∃ (en : DictEntry) (q : Addr), es[i]? = some en ∧ en.key = .ref q ∧ H q = some (.tup (k.map kV)) ∧ RelV v en.val := by
  obtain ⟨hg, z, hs, xs, pr, o', es', ep', ho, hx, hdt, he, _⟩ := I.hok d _ h
  rw [hg] at ho
  cases ho
  rw [hd] at hdt
  cases hdt
  refine ⟨hs, ⟨o, hg, hx, hd⟩, ?_, fun i k v e => ?_⟩
  · have l1 : es.size = xs.length := size_of_entries he
    have l2 := Paired.length pr
    omega
  · obtain ⟨b, hb, e1, e2, e3⟩ := paired_get pr e
    have q := entry_at he i
    rw [hb] at q
    exact ⟨_, b.2.1, q, rfl, e2, e3⟩
theorem turn_itemsT {P : Program} {w : World} {K : PySem.W.Frag} {elts : List Expr} {kk : Nat} {tpos : Pos} {d it : Addr} {o : Obj} {kvs : List (List Key × V)} {es : Array DictEntry} {ep : Nat} (hd : o.data = .dict es ep) :
    Turn P w K (.Tuple elts kk tpos) (ItIT d o kvs) [it] it (fun i h => ∃ ok ov, IsItemIter h it d i kvs.length ep ok ov) := by
  refine turn_new (by simp) (fun i h st b hb => ?_) (fun i h h' st k => ?_) (fun X hP hw hK hc i pins s σ H I hf st hg => ?_) (fun X hP hw hK hc i pins s σ H I hf st hs => ?_) (fun A i s Q E st h => ?_)
  · obtain ⟨ok, ov, e⟩ := st
    rw [List.mem_singleton.mp hb]
    exact ⟨_, e, fun v z => nomatch z⟩
  · obtain ⟨ok, ov, e⟩ := st
    exact ⟨ok, ov, k it (by simp) _ e⟩
  · obtain ⟨hk, hi⟩ := hg
    obtain ⟨hs, raw, hz, ent⟩ := frzT_all I hk hd
    have hne : d ≠ it := fun e => by
      have := hf it (by simp)
      rw [← e, hk] at this
      cases this
    obtain ⟨⟨k, v⟩, hkv⟩ : ∃ p, kvs[i]? = some p := ⟨kvs[i], List.getElem?_eq_getElem hi⟩
    obtain ⟨en, q, hen, e1, e2, e3⟩ := ent i k v hkv
    refine ⟨es.size, _, _, _, _, GoesN.rawItems (prog := P) (w := w) (A := X.A) (elts := elts) (x1 := kk) (pos := tpos) (I.ok.hd hc) it d hne es ep, by omega, ⟨by rw [hz]; exact st, raw⟩, fun b hb => hb, fun u h' hY hS hk' => ⟨?_, ?_⟩⟩
    · obtain ⟨⟨ok, ov, e⟩, _⟩ := hS
      rw [hz] at e
      exact ⟨ok, ov, e⟩
    · obtain ⟨T, hi', ev, hT, hI⟩ := hY
      have he : es[i] = en := by
        rw [Array.getElem?_eq_getElem hi'] at hen
        exact Option.some.inj hen
      rw [he, e1] at hI
      exact ⟨T, [.ref q, v], [.ref q, en.val], ev, hT, hI, .cons rfl (.cons e3 .nil), (by show 2 ≤ sizeLine; decide), k, v, q, hkv, rfl, e2⟩
  · obtain ⟨hk, hi⟩ := hs
    obtain ⟨hs, raw, hz, ent⟩ := frzT_all I hk hd
    have hne : d ≠ it := fun e => by
      have := hf it (by simp)
      rw [← e, hk] at this
      cases this
    have G := GoesN.rawItems (prog := P) (w := w) (A := X.A) (elts := elts) (x1 := kk) (pos := tpos) (I.ok.hd hc) it d hne es ep
    refine ⟨_, _, _, _, _, G, ⟨?_, raw⟩, fun b hb => hb⟩
    rw [hz, ← hi]
    rw [← hi] at st
    exact st
  · obtain ⟨ok, ov, e⟩ := st
    exact PySem.W.kcp_self e h
def iItemsT (td : TE) : TI := fun σ H R => td σ H fun x H1 => ∃ d kvs, x = .ref d ∧ H1 d = some (.dT kvs) ∧ ∀ o, R (ItIT d o kvs) (upd H1 d (.frz o (.dT kvs)))
theorem pi_itemsT {X : Cx} {e : Expr} {td : TE} {apos cpos tpos : Pos} {elts : List Expr} {kk : Nat} (he : PE X e td) (hbase : attributeBase e "items" X.env (eval e X.env) = eval e X.env := by rfl) (hline : (apos.endLine == cpos.line) = true := by rfl) :
    PI X (.Tuple elts kk tpos) (.Call (.Attribute e "items" apos) [] [] cpos) (iItemsT td) := by
  constructor
  intro pins s σ H R I h
  refine wpAny_Call_method (T := "dict") (id := "dict.items") hbase rfl hline F.plainAttrs_dict F.slot_dict_items F.type_dict_items (thn (he.run pins s σ H _ I h) fun u s1 hu => ?_)
  obtain ⟨x, H1, I1, rx, d, kvs, ex, hd, q⟩ := hu
  subst ex
  obtain rfl : u = Value.ref d := rx
  obtain ⟨o, I2⟩ := I1.lock hd True.intro
  have hk : (upd H1 d (.frz o (.dT kvs))) d = some (.frz o (.dT kvs)) := upd_same
  obtain ⟨hs, hgd, hx, es, ep, hdt, hz, _⟩ := I2.frzT hk
  have raw : s1.heap.DictRaw d es ep := ⟨o, hgd, hx, hdt⟩
  refine ⟨raw.typeIs, ?_, ?_⟩
  · intro a ea
    cases ea
    exact ⟨o, hgd, hx.2.1⟩
  · have I3 : Inv X pins σ (upd H1 d (.frz o (.dT kvs))) { s1 with heap := s1.heap.push { cls := .type "dict_items", data := .fields #[.ref d] } } := I2.kept (t' := s1.toks) fun b ob q => Heap.get?_push_of_some _ q
    have fin : wpAny (model X.prog X.w) X.A (pyIter (.ref s1.heap.objs.size)) (PIE X pins σ (.Tuple elts kk tpos) R) X.xe { s1 with heap := s1.heap.push { cls := .type "dict_items", data := .fields #[.ref d] } } := by
      refine wpAny_pyIter_items_raw (d := d) (es := es) (ep := ep) ⟨_, Heap.get?_push_size _ rfl, rfl, rfl⟩ (raw.at fun _ e => Heap.get?_push_of_some _ e) (pi_one (tk := s1.toks) I3 _ (turn_itemsT hdt) ⟨.none, .none, ?_⟩ (q o))
      rw [← hz]
      exact Heap.get?_push_size _ rfl
    show wpAny _ _ (callWith cpos (.builtin "dict.items") [.ref d] [] []) _ X.xe s1
    exact method_meetsIn F.slot_dict_items F.entry_dict_items rfl (PySem.evalArgs_none ⟨rfl, raw.typeIs, F.args_dict_items_1 _, _, meets_dict_items_raw d hs, ⟨⟨es, ep, raw⟩, fin⟩⟩)
end K68

namespace K68
open PySem PySem.Spec PyProof.Rows L2
/-! ### zip of a list and two tuples -/
def It3 (a b c : Addr) : It :=
  ItN (fun i H => ∃ xs ys zs, H a = some (.lst xs) ∧ H b = some (.tup ys) ∧ H c = some (.tup zs) ∧ i < xs.length ∧ i < ys.length ∧ i < zs.length)
    (fun i H => ∃ xs ys zs, H a = some (.lst xs) ∧ H b = some (.tup ys) ∧ H c = some (.tup zs) ∧ i = min (min xs.length ys.length) zs.length)
    fun i H vs => ∃ xs ys zs x y z, H a = some (.lst xs) ∧ H b = some (.tup ys) ∧ H c = some (.tup zs) ∧ xs[i]? = some x ∧ ys[i]? = some y ∧ zs[i]? = some z ∧ vs = [x, y, z]
theorem turn_zip3 {P : Program} {w : World} {K : PySem.W.Frag} {elts : List Expr} {kk : Nat} {tpos : Pos} {N a b c : Nat} (ha : a < N) (hb : b < N) (hc : c < N) :
    Turn P w K (.Tuple elts kk tpos) (It3 a b c) [N + 5, N + 3, N + 4, N, N + 1, N + 2] (N + 5) (fun i h => IsZip h (N + 5) (N + 3) (N + 4) .none ∧ IsTupOf3 h (N + 3) (.ref N) (.ref (N + 1)) (.ref (N + 2)) ∧
      (∃ a1 a2 a3, IsTupOf3 h (N + 4) a1 a2 a3) ∧ h.IsListIter N a i ∧ h.IsTupleIter (N + 1) b i ∧ h.IsTupleIter (N + 2) c i) := by
  have sep : ZipSep3 (N + 5) (N + 3) (N + 4) N (N + 1) (N + 2) [N, a] [N + 1, b] [N + 2, c] := zip_sep3 (fp1 := [a]) (fp2 := [b]) (fp3 := [c])
    (fun x hx => by rw [List.mem_singleton.mp hx]; exact ha) (fun x hx => by rw [List.mem_singleton.mp hx]; exact hb) (fun x hx => by rw [List.mem_singleton.mp hx]; exact hc)
  have wr_in : ∀ x ∈ [N + 5, N + 4, N, N + 1, N + 2], x ∈ [N + 5, N + 3, N + 4, N, N + 1, N + 2] := fun x hx => by
    simp at hx ⊢
    rcases hx with q | q | q | q | q <;> simp [q]
  refine turn_new (by simp) (fun i h st x hx => ?_) (fun i h h' st k => ?_) (fun X hP hw hK hcl i pins s σ H I hf st hg => ?_) (fun X hP hw hK hcl i pins s σ H I hf st hs => ?_) (fun A i s Q E st h => wpAny_pyIter_zip st.1 h)
  · obtain ⟨hz, hTI, ⟨_, _, _, hTO⟩, ⟨o1, e1, _, d1⟩, ⟨o2, e2, _, d2⟩, ⟨o3, e3, _, d3⟩⟩ := st
    have e' : x = N + 5 ∨ x = N + 3 ∨ x = N + 4 ∨ x = N ∨ x = N + 1 ∨ x = N + 2 := by simpa using hx
    rcases e' with q | q | q | q | q | q
    · rw [q]; exact ⟨_, hz, fun v q => nomatch q⟩
    · rw [q]; exact ⟨_, hTI, fun v q => nomatch q⟩
    · rw [q]; exact ⟨_, hTO, fun v q => nomatch q⟩
    · exact ⟨o1, by rw [q]; exact e1, fun v q => by rw [d1] at q; cases q⟩
    · exact ⟨o2, by rw [q]; exact e2, fun v q => by rw [d2] at q; cases q⟩
    · exact ⟨o3, by rw [q]; exact e3, fun v q => by rw [d3] at q; cases q⟩
  · obtain ⟨hz, hTI, ⟨a1, a2, a3, hTO⟩, ⟨o1, e1, r1⟩, ⟨o2, e2, r2⟩, ⟨o3, e3, r3⟩⟩ := st
    exact ⟨k _ (by simp) _ hz, k _ (by simp) _ hTI, ⟨a1, a2, a3, k _ (by simp) _ hTO⟩, ⟨o1, k _ (by simp) _ e1, r1⟩, ⟨o2, k _ (by simp) _ e2, r2⟩, ⟨o3, k _ (by simp) _ e3, r3⟩⟩
  · obtain ⟨xs, ys, zs, h1, h2, h3, l1, l2, l3⟩ := hg
    obtain ⟨is1, rv1, p1, _⟩ := I.list (SqL.of h1)
    obtain ⟨is2, rv2, p2, _⟩ := I.tuple (SqT.of h2)
    obtain ⟨is3, rv3, p3, _⟩ := I.tuple (SqT.of h3)
    have n1 := rv1.length
    have n2 := rv2.length
    have n3 := rv3.length
    have hh := I.ok.hd hcl
    have G := GoesN.zip3 (prog := P) (w := w) (A := X.A) (elts := elts) (x1 := kk) (pos := tpos) sep (Draws.list (A := X.A.in1) hh N a (Nat.ne_of_lt ha) is1.toArray) (Draws.tuple (A := X.A.in1) hh (N + 1) b (show b ≠ N + 1 by omega) is2.toArray) (Draws.tuple (A := X.A.in1) hh (N + 2) c (show c ≠ N + 2 by omega) is3.toArray)
    obtain ⟨hz, hTI, hTO, t1, t2, t3⟩ := st
    refine ⟨_, _, _, _, _, G, by simp; omega, ⟨hz, hTI, hTO, ⟨t1, p1.isList⟩, ⟨t2, p2⟩, ⟨t3, p3⟩⟩, wr_in, fun v h' hY hS _ => ⟨?_, ?_⟩⟩
    · obtain ⟨q1, q2, q3, q4, q5, q6⟩ := hS
      exact ⟨q1, q2, q3, q4.1, q5.1, q6.1⟩
    · obtain ⟨T, x, y, u, ev, hT, hx, hy, hu, hI⟩ := hY
      obtain ⟨x', e1⟩ : ∃ x', xs[i]? = some x' := ⟨_, List.getElem?_eq_getElem l1⟩
      obtain ⟨y', e2⟩ : ∃ x', ys[i]? = some x' := ⟨_, List.getElem?_eq_getElem l2⟩
      obtain ⟨z', e3⟩ : ∃ x', zs[i]? = some x' := ⟨_, List.getElem?_eq_getElem l3⟩
      obtain ⟨u1, g1, r1⟩ := rv1.get e1
      obtain ⟨u2, g2, r2⟩ := rv2.get e2
      obtain ⟨u3, g3, r3⟩ := rv3.get e3
      have c1 : u1 = x := Option.some.inj (g1.symm.trans (by simpa using hx))
      have c2 : u2 = y := Option.some.inj (g2.symm.trans (by simpa using hy))
      have c3 : u3 = u := Option.some.inj (g3.symm.trans (by simpa using hu))
      subst c1 c2 c3
      exact ⟨T, [x', y', z'], [u1, u2, u3], ev, hT, hI, .cons r1 (.cons r2 (.cons r3 .nil)), (by show 3 ≤ sizeLine; decide), xs, ys, zs, x', y', z', h1, h2, h3, e1, e2, e3, rfl⟩
  · obtain ⟨xs, ys, zs, h1, h2, h3, ei⟩ := hs
    obtain ⟨is1, rv1, p1, _⟩ := I.list (SqL.of h1)
    obtain ⟨is2, rv2, p2, _⟩ := I.tuple (SqT.of h2)
    obtain ⟨is3, rv3, p3, _⟩ := I.tuple (SqT.of h3)
    have n1 := rv1.length
    have n2 := rv2.length
    have n3 := rv3.length
    have hh := I.ok.hd hcl
    have G := GoesN.zip3 (prog := P) (w := w) (A := X.A) (elts := elts) (x1 := kk) (pos := tpos) sep (Draws.list (A := X.A.in1) hh N a (Nat.ne_of_lt ha) is1.toArray) (Draws.tuple (A := X.A.in1) hh (N + 1) b (show b ≠ N + 1 by omega) is2.toArray) (Draws.tuple (A := X.A.in1) hh (N + 2) c (show c ≠ N + 2 by omega) is3.toArray)
    obtain ⟨hz, hTI, hTO, t1, t2, t3⟩ := st
    have ei' : i = min (min is1.toArray.size is2.toArray.size) is3.toArray.size := by simp; omega
    refine ⟨_, _, _, _, _, G, ?_, wr_in⟩
    rw [← ei']
    exact ⟨hz, hTI, hTO, ⟨t1, p1.isList⟩, ⟨t2, p2⟩, ⟨t3, p3⟩⟩
def iZip3 (ta : TA) : TI := fun σ H R => ta σ H fun vs H1 => ∃ a b c xs ys zs, vs = [.ref a, .ref b, .ref c] ∧ H1 a = some (.lst xs) ∧ H1 b = some (.tup ys) ∧ H1 c = some (.tup zs) ∧ R (It3 a b c) H1
theorem pi_zip3 {X : Cx} {e1 e2 e3 : Expr} {ta : TA} {p pos tpos : Pos} {elts : List Expr} {kk : Nat} (hg : Gl X "zip") (hm : X.mg "zip" = none) (ha : PA X [e1, e2, e3] ta)
    (hs : starEach [e1, e2, e3] X.env = (false, eval e1 X.env) :: starEach [e2, e3] X.env := by rfl) (hpl : (backTo pos (starEach [e2, e3] X.env)).any (·.1) = false := by rfl) :
    PI X (.Tuple elts kk tpos) (.Call (.Name "zip" p) [e1, e2, e3] [] pos) (iZip3 ta) := by
  constructor
  intro pins s σ H R I h
  refine Call_ (ld_blt I hg hm PyProof.Rows.boot_zip (PyProof.Rows.callWith_type1 (thn (ha.run pos pins s σ H _ I h) fun us s1 hu => ?_) hs hpl))
  obtain ⟨vs, H1, I1, r1, a, b, c, xs, ys, zs, ex, h1, h2, h3, q⟩ := hu
  subst ex
  obtain ⟨is1, rv1, p1, _⟩ := I1.list (SqL.of h1)
  obtain ⟨is2, rv2, p2, _⟩ := I1.tuple (SqT.of h2)
  obtain ⟨is3, rv3, p3, _⟩ := I1.tuple (SqT.of h3)
  cases r1 with
  | cons k1 r1 => cases r1 with
    | cons k2 r1 => cases r1 with
      | cons k3 r1 =>
        cases r1
        cases k1
        cases k2
        cases k3
        have la : a < s1.heap.objs.size := p1.lt
        have lb : b < s1.heap.objs.size := p2.lt
        have lc : c < s1.heap.objs.size := p3.lt
        refine zip_begins3 (begins_list a is1.toArray) (begins_tuple b is2.toArray) (begins_tuple c is3.toArray) p1.isList p2 p3 fun h' hz hTI hTO g1 g2 g3 hsz hk => wpAny_pyIter_zip hz ?_
        have I2 : Inv X pins σ H1 { s1 with heap := h' } := I1.kept (t' := s1.toks) hk
        refine ⟨s1.heap.objs.size + 5, _, _, _, H1, rfl, I2, turn_zip3 la lb lc, ⟨hz, hTI, ⟨_, _, _, hTO⟩, ⟨_, g1, rfl, rfl⟩, ⟨_, g2, rfl, rfl⟩, ⟨_, g3, rfl, rfl⟩⟩, fun x hx => ?_, q⟩
        have hle : s1.heap.objs.size ≤ x := by
          have e' : x = s1.heap.objs.size + 5 ∨ x = s1.heap.objs.size + 3 ∨ x = s1.heap.objs.size + 4 ∨ x = s1.heap.objs.size ∨ x = s1.heap.objs.size + 1 ∨ x = s1.heap.objs.size + 2 := by simpa using hx
          rcases e' with q | q | q | q | q | q <;> rw [q]
          · exact Nat.le_add_right _ _
          · exact Nat.le_add_right _ _
          · exact Nat.le_add_right _ _
          · exact Nat.le_refl _
          · exact Nat.le_add_right _ _
          · exact Nat.le_add_right _ _
        exact I1.fpOk hle (I1.hok.fresh hle)
end K68

namespace K68
open PySem PySem.Spec PyProof.Rows L2
/-! ### enumerate of a tuple -/
theorem enum_new1 {v : Value} {o : Obj} {G : Heap → Prop} (B : Begins v o G) : Meets (Builtin.«enumerate.__new__» ⟨[.type "enumerate", v], []⟩) (fun _ R s => G s.heap ∧
    R (.ok (.ret (.ref (s.heap.push o).objs.size))) { s with heap := (s.heap.push o).push { cls := .type "enumerate", data := .fields #[.none, .bool false, .ref s.heap.objs.size, rawInt 0, .none, .none] } }) := by
  refine .of_wp fun prog w A R s h => ?_
  obtain ⟨hp, g, d, tk, os⟩ := s
  obtain ⟨h1, h⟩ := h
  have sb := sub_enumerate
  have q1 : ∀ {A' : Around} {E : Value → Shared → Prop} {Q : Value → Shared → Prop}, Q (.ref hp.objs.size) ⟨hp.push o, g, d, tk, os⟩ → wpAny (model prog w) A' (pyIter v) Q E ⟨hp, g, d, tk, os⟩ := fun q => B.iter prog w _ _ _ _ h1 q
  wp_walk using q1
  refine wpAny_stack_any fun st => wpAny_pure ?_
  split
  · rename_i c _ _ _ _ _
    cases (c == Value.type "enumerate") <;> (wp_walk using q1; exact ⟨_, rfl, h⟩)
  · wp_walk using q1
    exact ⟨_, rfl, h⟩
def ItE (a : Addr) : It :=
  ItN (fun i H => ∃ xs, H a = some (.tup xs) ∧ i < xs.length) (fun i H => ∃ xs, H a = some (.tup xs) ∧ i = xs.length) fun i H vs => ∃ xs x, H a = some (.tup xs) ∧ xs[i]? = some x ∧ vs = [.int (i : Nat), x]
theorem turn_enumT {P : Program} {w : World} {K : PySem.W.Frag} {elts : List Expr} {kk : Nat} {tpos : Pos} {N a : Nat} (ha : a < N) :
    Turn P w K (.Tuple elts kk tpos) (ItE a) [N + 1, N] (N + 1) (fun i h => (∃ old, IsEnum h (N + 1) N (0 + (i : Int)) old) ∧ h.IsTupleIter N a i) := by
  have hN : N + 1 ∉ [N, a] := by simp; omega
  have mk : ∀ (X : Cx), X.calm = true → ∀ (i : Nat) (pins : List (Addr × Obj)) (s : Shared) (σ : L2.St) (H : Hp) (its : List Value), Inv X pins σ H s → GoesN P w X.A (.Tuple elts kk tpos) (N + 1) [N + 1, N, a] [N + 1, N] its.toArray.size
      (fun i h₀ v h => ∃ T t x, v = .ref T ∧ h₀.objs.size ≤ T ∧ its.toArray[i]? = some x ∧ h.IsTuple T #[.int (0 + (i : Int)) t, x]) (fun i h => (∃ old, IsEnum h (N + 1) N (0 + (i : Int)) old) ∧ h.IsTupleIter N a i ∧ h.IsTuple a its.toArray) :=
    fun X hcl i pins s σ H its I => GoesN.enumFrom (prog := P) (w := w) (A := X.A) 0 (Draws.tuple (A := X.A.in1) (I.ok.hd hcl) N a (Nat.ne_of_lt ha) its.toArray) (N + 1) (Nat.succ_ne_self N) hN (by simp)
  refine turn_new (by simp) (fun i h st x hx => ?_) (fun i h h' st k => ?_) (fun X hP hw hK hcl i pins s σ H I hf st hg => ?_) (fun X hP hw hK hcl i pins s σ H I hf st hs => ?_) (fun A i s Q E st h => ?_)
  · obtain ⟨⟨old, e⟩, ⟨o1, e1, _, d1⟩⟩ := st
    have e' : x = N + 1 ∨ x = N := by simpa using hx
    rcases e' with q | q
    · rw [q]; exact ⟨_, e, fun v q => nomatch q⟩
    · rw [q]; exact ⟨o1, e1, fun v q => by rw [d1] at q; cases q⟩
  · obtain ⟨⟨old, e⟩, ⟨o1, e1, r1⟩⟩ := st
    exact ⟨⟨old, k _ (by simp) _ e⟩, ⟨o1, k _ (by simp) _ e1, r1⟩⟩
  · obtain ⟨xs, h1, l1⟩ := hg
    obtain ⟨its, rv, p, _⟩ := I.tuple (SqT.of h1)
    have n1 := rv.length
    refine ⟨_, _, _, _, _, mk X hcl i pins s σ H its I, by simp; omega, ⟨st.1, st.2, p⟩, fun b hb => hb, fun v h' hY hS _ => ⟨⟨hS.1, hS.2.1⟩, ?_⟩⟩
    obtain ⟨T, t, x, ev, hT, hx, hI⟩ := hY
    obtain ⟨x', e1⟩ : ∃ x', xs[i]? = some x' := ⟨_, List.getElem?_eq_getElem l1⟩
    obtain ⟨u, g1, r1⟩ := rv.get e1
    have c1 : u = x := Option.some.inj (g1.symm.trans (by simpa using hx))
    subst c1
    exact ⟨T, [.int (i : Nat), x'], [.int (0 + (i : Int)) t, u], ev, hT, hI, .cons ⟨t, by rw [Int.zero_add]⟩ (.cons r1 .nil), (by show 2 ≤ sizeLine; decide), xs, x', h1, e1, rfl⟩
  · obtain ⟨xs, h1, ei⟩ := hs
    obtain ⟨its, rv, p, _⟩ := I.tuple (SqT.of h1)
    have n1 := rv.length
    have ei' : i = its.toArray.size := by simp; omega
    refine ⟨_, _, _, _, _, mk X hcl i pins s σ H its I, ?_, fun b hb => hb⟩
    rw [← ei']
    exact ⟨st.1, st.2, p⟩
  · obtain ⟨⟨old, e⟩, _⟩ := st
    exact wpAny_pyIter_enum e h
def iEnumT (ta : TA) : TI := fun σ H R => ta σ H fun vs H1 => ∃ a xs, vs = [.ref a] ∧ H1 a = some (.tup xs) ∧ R (ItE a) H1
theorem pi_enumT {X : Cx} {e : Expr} {ta : TA} {p pos tpos : Pos} {elts : List Expr} {kk : Nat} (hg : Gl X "enumerate") (hm : X.mg "enumerate" = none) (ha : PA X [e] ta) (hs : starEach [e] X.env = [(false, eval e X.env)] := by rfl) :
    PI X (.Tuple elts kk tpos) (.Call (.Name "enumerate" p) [e] [] pos) (iEnumT ta) := by
  constructor
  intro pins s σ H R I h
  refine Call_ (ld_blt I hg hm boot_enumerate (PyProof.Rows.callWith_type1 (thn (ha.run pos pins s σ H _ I h) fun us s1 hu => ?_) hs rfl))
  obtain ⟨vs, H1, I1, r1, a, xs, ex, h1, q⟩ := hu
  subst ex
  obtain ⟨its, rv, p1, _⟩ := I1.tuple (SqT.of h1)
  rw [Vals.ref1 r1]
  have la : a < s1.heap.objs.size := p1.lt
  have hz : (s1.heap.push { cls := .type "tuple_iterator", data := .fields #[.ref a, .int 0 0] }).objs.size = s1.heap.objs.size + 1 := Heap.size_push ..
  refine callType_new F.called_enumerate (by decide) (F.typeCall_enumerate_1 _) (F.newCall_enumerate_1 _) (fun obj => F.args_object_init_2 obj _) F.entry_enumerate_new (enum_new1 (begins_tuple a its.toArray)) ⟨p1, ?_⟩
  show _ ∧ _
  rw [hz]
  have he := Heap.get?_push_size (s1.heap.push { cls := .type "tuple_iterator", data := .fields #[.ref a, .int 0 0] }) (o := { cls := .type "enumerate", data := .fields #[.none, .bool false, .ref s1.heap.objs.size, rawInt 0, .none, .none] }) rfl
  rw [hz] at he
  refine ⟨⟨_, he, rfl⟩, wpAny_pyIter_enum he ?_⟩
  refine ⟨s1.heap.objs.size + 1, _, _, _, H1, rfl, I1.kept (t' := s1.toks) fun b o x => Heap.get?_push_of_some _ (Heap.get?_push_of_some _ x), turn_enumT la, ⟨⟨_, he⟩, ⟨_, Heap.get?_push_of_some _ (Heap.get?_push_size _ rfl), rfl, rfl⟩⟩, fun x hx => ?_, q⟩
  have hle : s1.heap.objs.size ≤ x := by
    have e' : x = s1.heap.objs.size + 1 ∨ x = s1.heap.objs.size := by simpa using hx
    rcases e' with q | q <;> rw [q]
    · exact Nat.le_add_right _ _
    · exact Nat.le_refl _
  exact I1.fpOk hle (I1.hok.fresh hle)
end K68

namespace K68
open PySem PySem.Spec PyProof.Rows L2
open AutoSeq1 (wpAny_loadPart')
/-! ### t * 0 and t * 1 of a tuple -/
theorem mul_none (l : Addr) (items : Array Value) (n : Nat) (dd : Option Addr) (sl : Array (Option Value)) (u : Tok) (he : items.isEmpty = false) :
    Meets (Builtin.«tuple.__mul__» ⟨[.ref l, .int 0 u], []⟩) (fun _ R s => s.heap.get? l = some { cls := .type "tuple", dict := dd, data := .seq items n, slots := sl } ∧
      R (.ok (.ret (Value.ref s.heap.objs.size))) { s with heap := s.heap.push { cls := Value.type "tuple", data := Data.seq #[] }, toks := s.toks }) := by
  refine .of_wp fun prog w A R s h => ?_
  obtain ⟨hp, g, d, tk, os⟩ := s
  obtain ⟨hl, h⟩ := h
  have f1 := AutoSeq1.idx_int
  wp_walk using wpAny_loadPart' hl
  exact ⟨_, rfl, h⟩
theorem mul_one (l : Addr) (items : Array Value) (n : Nat) (dd : Option Addr) (sl : Array (Option Value)) (u : Tok) (he : items.isEmpty = false) :
    Meets (Builtin.«tuple.__mul__» ⟨[.ref l, .int 1 u], []⟩) (fun _ R s => s.heap.get? l = some { cls := .type "tuple", dict := dd, data := .seq items n, slots := sl } ∧ R (.ok (.ret (Value.ref l))) s) := by
  refine .of_wp fun prog w A R s h => ?_
  obtain ⟨hp, g, d, tk, os⟩ := s
  obtain ⟨hl, h⟩ := h
  have f1 := AutoSeq1.idx_int
  wp_walk using wpAny_loadPart' hl
  exact ⟨_, rfl, h⟩
def rRep01 : R2 := fun x y H Q => ∃ l xs, x = .ref l ∧ H l = some (.tup xs) ∧ xs ≠ [] ∧ ((y = .int 0 ∧ ∀ p, H p = none → Q (.ref p) (upd H p (.tup []))) ∨ (y = .int 1 ∧ Q (.ref l) H))
theorem op_rep01 {X : Cx} : OpR X (binaryOp .Mult) rRep01 := by
  intro pins s σ H x y v u Q I rx ry h
  obtain ⟨l, xs, rfl, hT, hne, h⟩ := h
  cases rx
  obtain ⟨its, r, ⟨⟨cls, dd, data, sl⟩, ho, hc, n, hd⟩, hs⟩ := I.tuple (SqT.of hT)
  simp only at hc hd
  subst hc hd
  have hi : its.toArray.isEmpty = false := by
    cases its with
    | nil =>
      have := r.length
      exact absurd (List.eq_nil_of_length_eq_zero this) hne
    | cons a b => rfl
  rcases h with ⟨rfl, q⟩ | ⟨rfl, q⟩
  · obtain ⟨t, rfl⟩ := ry
    refine wpAny_binaryOp_repeat_ref (T := "tuple") (U := "int") (by decide) ⟨_, ho, rfl⟩ (fun s' => typeIs_int s' 0 t) noFill_tuple_mul F.fills_int_mul F.slot_int_rmul repeat_tuple F.slot_int_index.lookup
      (call_meets F.slot_int_rmul (typeIs_int s 0 t) F.entry_int_rmul (F.args_int_rmul_2 _ _) (int_rmul_tuple 0 t l its.toArray n dd sl) ⟨ho, rfl, ⟨_, ho, rfl⟩, ?_⟩)
    refine call_meets F.slot_tuple_mul ⟨_, ho, rfl⟩ F.entry_tuple_mul (F.args_tuple_mul_2 _ _) (mul_none l its.toArray n dd sl t hi) ⟨ho, ?_⟩
    refine ⟨.ref s.heap.objs.size, _, I.laid (t' := s.toks) (o := .tup []) (fun b ob q => Heap.get?_push_of_some _ q) (Nat.le_refl _) ?_, rfl, q _ (I.hok.fresh (Nat.le_refl _))⟩
    exact ⟨Nat.zero_le _, [], .nil, IsTup.new _ _⟩
  · obtain ⟨t, rfl⟩ := ry
    refine wpAny_binaryOp_repeat_ref (T := "tuple") (U := "int") (by decide) ⟨_, ho, rfl⟩ (fun s' => typeIs_int s' 1 t) noFill_tuple_mul F.fills_int_mul F.slot_int_rmul repeat_tuple F.slot_int_index.lookup
      (call_meets F.slot_int_rmul (typeIs_int s 1 t) F.entry_int_rmul (F.args_int_rmul_2 _ _) (int_rmul_tuple 1 t l its.toArray n dd sl) ⟨ho, rfl, ⟨_, ho, rfl⟩, ?_⟩)
    refine call_meets F.slot_tuple_mul ⟨_, ho, rfl⟩ F.entry_tuple_mul (F.args_tuple_mul_2 _ _) (mul_one l its.toArray n dd sl t hi) ⟨ho, ?_⟩
    exact ⟨.ref l, H, I, rfl, q⟩
end K68

namespace K68
open PySem PySem.Spec PyProof.Rows L2
/-! ### data without lists: None, bools, ints, tuples that are tracked -/
mutual
inductive Tp (H : Hp) : V → PyData → Prop
  | non : Tp H .non .none
  | bl (b : Bool) : Tp H (.bl b) (.bool b)
  | int (i : Int) : Tp H (.int i) (.int i)
  | tup {a : Addr} {xs : List V} {ds : List PyData} : H a = some (.tup xs) → TpAll H xs ds → Tp H (.ref a) (.tuple ds)
inductive TpAll (H : Hp) : List V → List PyData → Prop
  | nil : TpAll H [] []
  | cons {v : V} {vs : List V} {d : PyData} {ds : List PyData} : Tp H v d → TpAll H vs ds → TpAll H (v :: vs) (d :: ds)
end
/-- the tuples stay -/
def TEx (H H' : Hp) : Prop := ∀ a xs, H a = some (.tup xs) → H' a = some (.tup xs)
mutual
theorem Tp.mono {H H' : Hp} (e : TEx H H') : ∀ {d : PyData} {v : V}, Tp H v d → Tp H' v d
  | .none, _, h => by cases h; exact .non
  | .bool b, _, h => by cases h; exact .bl b
  | .int i, _, h => by cases h; exact .int i
  | .str x, _, h => by cases h
  | .list ds, _, h => by cases h
  | .tuple ds, _, h => by
    cases h with
    | tup h1 h2 => exact .tup (e _ _ h1) (TpAll.mono e h2)
  | .dict _, _, h => by cases h
theorem TpAll.mono {H H' : Hp} (e : TEx H H') : ∀ {ds : List PyData} {vs : List V}, TpAll H vs ds → TpAll H' vs ds
  | [], _, h => by cases h; exact .nil
  | d :: ds, _, h => by
    cases h with
    | cons h1 h2 => exact .cons (Tp.mono e h1) (TpAll.mono e h2)
end
mutual
theorem Tp.dp {K : PySem.W.Frag} {H : Hp} : ∀ {d : PyData} {v : V}, Tp H v d → Dp K H v d
  | .none, _, h => by cases h; exact .non
  | .bool b, _, h => by cases h; exact .bl b
  | .int i, _, h => by cases h; exact .int i
  | .str x, _, h => by cases h
  | .list ds, _, h => by cases h
  | .tuple ds, _, h => by
    cases h with
    | tup h1 h2 => exact .tup (SqT.of h1) (TpAll.dp h2)
  | .dict _, _, h => by cases h
theorem TpAll.dp {K : PySem.W.Frag} {H : Hp} : ∀ {ds : List PyData} {vs : List V}, TpAll H vs ds → DpAll K H vs ds
  | [], _, h => by cases h; exact .nil
  | d :: ds, _, h => by
    cases h with
    | cons h1 h2 => exact .cons (Tp.dp h1) (TpAll.dp h2)
end
section
variable {X : Cx} {pins : List (Addr × Obj)} {σ : L2.St} {H : Hp} {s : Shared}
mutual
theorem Tp.reads (I : Inv X pins σ H s) : ∀ (d : PyData) (v : V) (u : Value), Tp H v d → RelV v u → Reads s.heap u d []
  | .none, _, _, h, r => by cases h; cases r; exact .none
  | .bool b, _, _, h, r => by cases h; cases r; exact .bool b
  | .int i, _, _, h, r => by cases h; obtain ⟨t, rfl⟩ := r; exact .int i t
  | .str x, _, _, h, _ => by cases h
  | .list ds, _, _, h, _ => by cases h
  | .tuple ds, _, _, h, r => by
    cases h with
    | tup h1 h2 =>
      cases r
      obtain ⟨its, rv, ⟨o, ho, hc, n, hd⟩, _⟩ := I.tuple (SqT.of h1)
      exact .tuple ho hc hd (TpAll.reads I ds _ its h2 rv)
  | .dict _, _, _, h, _ => by cases h
theorem TpAll.reads (I : Inv X pins σ H s) : ∀ (ds : List PyData) (vs : List V) (us : List Value), TpAll H vs ds → Vals vs us → ReadsAll s.heap us ds []
  | [], _, _, h, r => by cases h; cases r; exact .nil
  | d :: ds, _, _, h, r => by
    cases h with
    | cons h1 h2 =>
      cases r with
      | cons r1 r2 => exact .cons (Tp.reads I d _ _ h1 r1) (TpAll.reads I ds _ _ h2 r2)
end
/-! ### sorted -/
open PySem.W in
theorem each_of : ∀ {bs : List (V × PyData)} {us : List Value}, Vals (bs.map (·.1)) us → EachIs (fun v b => RelV b.1 v) us bs
  | [], _, r => by cases r; exact .nil
  | b :: bs, _, r => by
    cases r with
    | cons r1 r2 => exact .cons r1 (each_of r2)
open PySem.W in
theorem of_each : ∀ {bs : List (V × PyData)} {us : List Value}, EachIs (fun v (b : V × PyData) => RelV b.1 v) us bs → Vals (bs.map (·.1)) us
  | [], _, r => by cases r; exact .nil
  | b :: bs, _, r => by
    cases r with
    | cons r1 r2 => exact .cons r1 (of_each r2)
open PySem.W in
theorem each_reads (I : Inv X pins σ H s) : ∀ {bs : List (V × PyData)} {us : List Value}, Vals (bs.map (·.1)) us → (∀ b ∈ bs, Tp H b.1 b.2) → EachIs (fun v (b : V × PyData) => Reads s.heap v b.2 []) us bs
  | [], _, r, _ => by cases r; exact .nil
  | b :: bs, _, r, h => by
    cases r with
    | cons r1 r2 => exact .cons (Tp.reads I _ _ _ (h b (List.mem_cons_self ..)) r1) (each_reads I r2 fun x hx => h x (List.mem_cons_of_mem _ hx))
end
/-- what may be sorted -/
structure Srtb (H : Hp) (bs : List (V × PyData)) : Prop where
  tp : ∀ b ∈ bs, Tp H b.1 b.2
  al : PySem.W.AllAlike (bs.map (·.2))
  so : PySem.W.Sortable (bs.map (·.2))
  few : bs.length ≤ 1000
  dp : ∀ b ∈ bs, b.2.depth ≤ 10
theorem small1k {n : Nat} (h : n ≤ 1000) : n ≤ sizeLine := Nat.le_trans h (by decide)
/-- sorted of a list: some arrangement -/
def rSortD : List V → Hp → VK → Prop := fun vs H Q => ∃ (a : Addr) (bs : List (V × PyData)), vs = [.ref a] ∧ H a = some (.lst (bs.map (·.1))) ∧ Srtb H bs ∧ ∀ ys : List (V × PyData), ys.Perm bs → ∀ p, H p = none → Q (.ref p) (upd H p (.lst (ys.map (·.1))))
open PySem.W in
theorem cr_sortD {X : Cx} (hu : X.A.units + 64 < cLine) : CallR X (.builtin "sorted") rSortD := by
  intro pins s σ H vs us Q I r h
  obtain ⟨a, bs, rfl, hl, S, q⟩ := h
  obtain ⟨its, rv, hp, _⟩ := I.list (SqL.of hl)
  rw [Vals.ref1 r]
  refine sorted_data (R := fun v (b : V × PyData) => RelV b.1 v) (enc := fun b => b.2) hp.isList (each_of rv) ((each_reads I rv S.tp).mono fun _ _ h => ⟨_, h⟩) S.al S.so (small1k S.few) (fun b hb => by have := S.dp b hb; omega) fun out ho eo => ?_
  have pm : (bs.mergeSort (dataLe false fun b => b.2)).Perm bs := List.mergeSort_perm ..
  obtain ⟨e, he⟩ := sortedAll_at s.heap its (List.toArray out)
  have fresh : s.heap.objs.size ≤ s.heap.objs.size + 1 := Nat.le_succ _
  refine ⟨.ref (s.heap.objs.size + 1), _, I.laid (t' := s.toks) (o := .lst ((bs.mergeSort (dataLe false fun b => b.2)).map (·.1))) (fun b ob q => sortedAll_old q) fresh ?_, rfl, q _ pm _ (I.hok.fresh fresh)⟩
  refine ⟨?_, out, e, of_each eo, he⟩
  rw [List.length_map, pm.length_eq]
  exact small1k S.few
/-- sorted of a dict with tuple keys -/
def rSortK : List V → Hp → VK → Prop := fun vs H Q => ∃ (a : Addr) (kvs : List (List Key × V)), vs = [.ref a] ∧ H a = some (.dT kvs) ∧ ∀ ks, IsKeys H kvs ks → ∃ ds : List PyData, ds.length = ks.length ∧ Srtb H ((ks.map V.ref).zip ds) ∧
  ∀ ys : List (V × PyData), ys.Perm ((ks.map V.ref).zip ds) → ∀ p, H p = none → Q (.ref p) (upd H p (.lst (ys.map (·.1))))
open PySem.W in
theorem cr_sortK {X : Cx} (hc : X.calm = true) (hu : X.A.units + 64 < cLine) : CallR X (.builtin "sorted") rSortK := by
  intro pins s σ H vs us Q I r h
  obtain ⟨a, kvs, rfl, hl, h⟩ := h
  rw [Vals.ref1 r]
  obtain ⟨z, hs, ks, pr, o, es, ep, ho, hx, hdt, he, hn⟩ := (show ObjOk X.prog X.w H s.heap a (.dT kvs) from I.hok a _ hl)
  have l1 : es.size = ks.length := size_of_entries he
  have l2 : kvs.length = ks.length := Paired.length pr
  obtain ⟨ds, hds, S, q⟩ := h _ (isKeys_of pr)
  refine Calls.call_function_entry PyProof.Rows.kind_sorted PyProof.Rows.plain_sorted PyProof.Rows.entry_sorted (PyProof.Rows.args_sorted1 _) ?_
  unfold Builtin.«sorted»
  refine wpAny_bind (m := checkCount "sorted" 1 1 _) (wpAny_pure ?_)
  refine wpAny_bind (kdu_collect (A := X.A.in1) (kdl_raw hs hx hdt) (I.ok.hd hc) ho (by omega) fun h' tk acc hk hacc => ?_)
  have ea : acc.toList = (ks.map fun x => x.2.1).map Value.ref := by
    have hl : acc.toList.length = ks.length := by rw [Array.length_toList, hacc.1]; exact l1
    refine List.ext_getElem? fun j => ?_
    rw [List.getElem?_map, List.getElem?_map]
    cases hj : acc.toList[j]? with
    | none =>
      have h1 := List.getElem?_eq_none_iff.mp hj
      rw [List.getElem?_eq_none (l := ks) (by omega)]
      rfl
    | some v =>
      obtain ⟨en, hen, hv⟩ := hacc.2 j v (by rw [← Array.getElem?_toList]; exact hj)
      have qe := entry_at he j
      rw [hen] at qe
      cases hb : ks[j]? with
      | none =>
        rw [hb] at qe
        cases qe
      | some b =>
        rw [hb] at qe
        have e2 : en = entryOfKey (tupleKind (mixKind X.prog X.w)) b := Option.some.inj qe
        rw [hv, e2]
        rfl
  generalize hbs : ((ks.map fun x => x.2.1).map V.ref).zip ds = bs at S q
  have hb1 : bs.map (·.1) = (ks.map fun x => x.2.1).map V.ref := by
    rw [← hbs]
    exact List.map_fst_zip (by rw [List.length_map]; omega)
  have rv : Vals (bs.map (·.1)) acc.toList := by rw [ea, hb1]; exact vals_refs _
  have I1 : Inv X pins σ H { s with heap := h', toks := tk } := I.kept hk
  have hlen : acc.toList.length = bs.length := by rw [← rv.length, List.length_map]
  refine wpAny_bind (wpAny_newList ?_ (by rw [hlen]; exact small1k S.few))
  have hoL : (h'.push (seqObj "list" acc.toList.toArray 0)).get? h'.objs.size = some (seqObj "list" acc.toList.toArray 0) := Heap.get?_push_size _ rfl
  show wpAny _ _ _ _ _ { s with heap := h'.push (seqObj "list" acc.toList.toArray 0), toks := tk }
  have I2 : Inv X pins σ H { s with heap := h'.push (seqObj "list" acc.toList.toArray 0), toks := tk } := I1.kept (t' := tk) fun b ob q => Heap.get?_push_of_some _ q
  refine wpAny_bind (wpAny_holding (list_sort_data (R := fun v (b : V × PyData) => RelV b.1 v) (enc := fun b => b.2) (s := { s with heap := h'.push (seqObj "list" acc.toList.toArray 0), toks := tk }) hoL (each_of rv)
    ((each_reads I2 rv S.tp).mono fun _ _ h => ⟨[], h, List.not_mem_nil⟩) S.al S.so (small1k S.few) (fun b hb => by have h1 := S.dp b hb; have h2 : X.A.in1.units ≤ X.A.units + 1 := Nat.le_refl _; omega) fun out ho' eo => ?_))
  have pm : (bs.mergeSort (dataLe false fun b => b.2)).Perm bs := List.mergeSort_perm ..
  obtain ⟨e', he'⟩ := PyProof.Rows.sortedHeap_at (vs := acc.toList) (out := List.toArray out) hoL
  refine wpAny_pure ⟨_, rfl, .ref h'.objs.size, upd H h'.objs.size (.lst ((bs.mergeSort (dataLe false fun b => b.2)).map (·.1))), I1.laid (t' := tk) (fun b u e => ?_) (Nat.le_refl _) ?_, rfl, q _ pm _ (I1.hok.fresh (Nat.le_refl _))⟩
  · have hb : b < h'.objs.size := Heap.lt_size e
    rw [PyProof.Rows.sortedHeap_old (Nat.ne_of_lt hb) (by rw [Heap.size_push]; exact Nat.lt_succ_of_lt hb)]
    exact Heap.get?_push_of_some _ e
  · refine ⟨?_, out, e', of_each eo, he'⟩
    rw [List.length_map, pm.length_eq]
    exact small1k S.few
end K68

namespace K68
open PySem PySem.Spec PyProof.Rows L2
/-! ### dict(a list of pairs), the keys tuples -/
/-- a pair: its own tuple, the key's tuple, the key, the value -/
structure PRow where
  t : Addr
  q : Addr
  k : List Key
  v : V
def PRow.At (H : Hp) (r : PRow) : Prop := H r.t = some (.tup [.ref r.q, r.v]) ∧ H r.q = some (.tup (r.k.map kV))
def pk (z : PRow × Value) : List Key × Addr × Value := (z.1.k, z.1.q, z.2)
def pw (z : PRow × Value) : Value × Value := (.ref z.1.q, z.2)
def putAll (kvs : List (List Key × V)) : List (List Key × V) := kvs.foldl (fun acc p => putK acc p.1 p.2) []
def rDictP : List V → Hp → VK → Prop := fun vs H Q => ∃ (a : Addr) (rows : List PRow), vs = [.ref a] ∧ H a = some (.lst (rows.map fun r => V.ref r.t)) ∧ (∀ r ∈ rows, r.At H) ∧ rows.length ≤ 1000 ∧
  ∀ p, H p = none → Q (.ref p) (upd H p (.dT (putAll (rows.map fun r => (r.k, r.v)))))
section
variable {X : Cx} {pins : List (Addr × Obj)} {σ : L2.St} {H : Hp} {s : Shared}
theorem rows_vals (I : Inv X pins σ H s) : ∀ rows : List PRow, (∀ r ∈ rows, r.At H) → ∃ us : List Value, us.length = rows.length ∧ ∀ (j : Nat) (r : PRow), rows[j]? = some r → ∃ u, us[j]? = some u ∧ RelV r.v u ∧ s.heap.IsTuple r.t #[.ref r.q, u]
  | [], _ => ⟨[], rfl, fun j r e => by simp at e⟩
  | r :: rows, h => by
    obtain ⟨us, hl, hu⟩ := rows_vals I rows fun x hx => h x (List.mem_cons_of_mem _ hx)
    obtain ⟨h1, h2⟩ := h r (List.mem_cons_self ..)
    obtain ⟨its, rv, p, _⟩ := I.tuple (SqT.of h1)
    obtain ⟨u1, u2, rfl, r1, r2⟩ := vals2 rv
    cases r1
    refine ⟨u2 :: us, by simp [hl], fun j r' e => ?_⟩
    cases j with
    | zero =>
      have : r = r' := Option.some.inj e
      subst this
      exact ⟨u2, rfl, r2, p⟩
    | succ j =>
      obtain ⟨u, e1, e2⟩ := hu j r' (by simpa using e)
      exact ⟨u, by simpa using e1, e2⟩
theorem stored_kt : ∀ (rows : List PRow) (us : List Value), us.length = rows.length → (∀ (j : Nat) (r : PRow), rows[j]? = some r → ∃ u, us[j]? = some u ∧ RelV r.v u) → (∀ r ∈ rows, r.At H) → ∀ (kvs : List (List Key × V)) (xs : List (List Key × Addr × Value)), KT H kvs xs →
    KT H ((rows.map fun r => (r.k, r.v)).foldl (fun acc p => putK acc p.1 p.2) kvs) (storedAllH xs ((rows.zip us).map pk))
  | [], us, _, _, _, kvs, xs, h => by simpa [storedAllH] using h
  | r :: rows, [], hl, _, _, _, _, _ => by simp at hl
  | r :: rows, u :: us, hl, hv, ha, kvs, xs, h => by
    obtain ⟨u', e1, rv⟩ := hv 0 r rfl
    have : u = u' := Option.some.inj e1
    subst this
    obtain ⟨h1, h2⟩ := ha r (List.mem_cons_self ..)
    refine stored_kt rows us (by simpa using hl) (fun j r' e => ?_) (fun x hx => ha x (List.mem_cons_of_mem _ hx)) _ _ (h.put r.k h2 rv)
    obtain ⟨u, e1, e2⟩ := hv (j + 1) r' (by simpa using e)
    exact ⟨u, by simpa using e1, e2⟩
end
theorem cr_dictP {X : Cx} (hc : X.calm = true) (hu : X.A.units + 64 < cLine) : CallR X (.type "dict") rDictP := by
  intro pins s σ H vs us0 Q I r h
  obtain ⟨a, rows, rfl, hl, hat, hz, q⟩ := h
  rw [Vals.ref1 r]
  obtain ⟨its, rv, ⟨o, n, ho, hcl, hdn, hd⟩, hz2⟩ := I.list (SqL.of hl)
  obtain ⟨us, hul, hus⟩ := rows_vals I rows hat
  have hits : its = rows.map fun r => Value.ref r.t := by
    have e : rows.map (fun r => V.ref r.t) = (rows.map PRow.t).map V.ref := by rw [List.map_map]; rfl
    rw [e] at rv
    rw [refs_at rv, List.map_map]
    rfl
  have zof : ∀ (i : Nat) (r : PRow) (u : Value), (rows.zip us)[i]? = some (r, u) → rows[i]? = some r ∧ us[i]? = some u := fun i r u e => List.getElem?_zip_eq_some.mp e
  have zl : (rows.zip us).length = rows.length := by rw [List.length_zip]; omega
  have items : PairItems s.heap its.toArray (fun j => (rows.map PRow.t).getD j 0) ((rows.zip us).map pw) := by
    refine ⟨by rw [hits]; simp [zl], fun j k v e => ?_⟩
    rw [List.getElem?_map] at e
    cases ez : (rows.zip us)[j]? with
    | none => rw [ez] at e; cases e
    | some z =>
      rw [ez] at e
      cases e
      obtain ⟨e1, e2⟩ := zof j z.1 z.2 ez
      obtain ⟨u, e3, _, e4⟩ := hus j z.1 e1
      have : u = z.2 := Option.some.inj (e3.symm.trans e2)
      subst this
      refine ⟨by rw [hits]; simp [e1], .inl ?_⟩
      have et : (rows.map PRow.t).getD j 0 = z.1.t := by rw [List.getD_eq_getElem?_getD, List.getElem?_map, e1]; rfl
      show s.heap.IsTuple ((rows.map PRow.t).getD j 0) _
      rw [et]
      exact e4
  have src := PairArg.list (prog := X.prog) (w := X.w) a its.toArray (fun j => (rows.map PRow.t).getD j 0) ((rows.zip us).map pw)
  have keyis : ∀ h' : Heap, (∀ b o, b ≠ s.heap.objs.size → b ∉ ([] : List Addr) → s.heap.get? b = some o → h'.get? b = some o) → ∀ x ∈ (rows.zip us).map pk, (tupleKind (mixKind X.prog X.w)).is h' x.1 x.2.1 := by
    intro h' hk x hx
    obtain ⟨z, hzm, rfl⟩ := List.mem_map.mp hx
    have hr : z.1 ∈ rows := (List.of_mem_zip hzm).1
    obtain ⟨o, its, n, e, r⟩ := key_of I.hok (hat z.1 hr).2
    exact ⟨o, its, n, hk _ _ (Nat.ne_of_lt (Heap.lt_size e)) List.not_mem_nil e, r⟩
  refine call_dict_pairsH (knd := tupleKind (mixKind X.prog X.w)) (ps := (rows.zip us).map pk) src (I.ok.hd hc) (by show X.A.units + 1 + 1 < cLine; omega) ⟨⟨o, n, ho, hcl, hdn, hd⟩, items⟩ ⟨by simp, fun i key v e => ?_⟩ keyis (by rw [List.length_map, zl]; exact small1k hz) fun h' tk hd' hk => ?_
  · have e : ((rows.zip us).map pw)[i]? = some (key, v) := e
    rw [List.getElem?_map] at e ⊢
    cases ez : (rows.zip us)[i]? with
    | none => rw [ez] at e; cases e
    | some z =>
      rw [ez] at e
      cases e
      exact ⟨_, _, rfl, rfl⟩
  · have kt := stored_kt (H := H) rows us hul (fun j r e => let ⟨u, e1, e2, _⟩ := hus j r e; ⟨u, e1, e2⟩) hat [] [] .nil
    have I1 : Inv X pins σ H { s with heap := h', toks := tk } := I.kept fun b o e => hk b o List.not_mem_nil e
    have fr : H s.heap.objs.size = none := I.hok.fresh (Nat.le_refl _)
    obtain ⟨od, es, ep, e1, e2, e3, e4, _, e5⟩ := hd'
    have big : sysModules < s.heap.objs.size := I.big
    have hb : (s.heap.objs.size == sysModules) = false := beq_eq_false_iff_ne.mpr (Nat.ne_of_gt big)
    have lput : ∀ (l kvs : List (List Key × V)), (l.foldl (fun acc p => putK acc p.1 p.2) kvs).length ≤ kvs.length + l.length := by
      intro l
      induction l with
      | nil => intro kvs; exact Nat.le_refl _
      | cons p l ih =>
        intro kvs
        have := ih (putK kvs p.1 p.2)
        have := length_putK kvs p.1 p.2
        rw [List.foldl_cons, List.length_cons]
        omega
    have hlen : (putAll (rows.map fun r => (r.k, r.v))).length ≤ 1000 := by
      have := lput (rows.map fun r => (r.k, r.v)) []
      rw [List.length_map, List.length_nil] at this
      unfold putAll
      omega
    refine ⟨.ref s.heap.objs.size, _, I.laid (t' := tk) (o := .dT (putAll (rows.map fun r => (r.k, r.v)))) (fun b o e => hk b o List.not_mem_nil e) (Nat.le_refl _) ?_, rfl, q _ fr⟩
    exact ⟨small1k hlen, hb, _, KT.keeps kt (fun b ys e => by rw [upd_ne (ne_of_none e fr)]; exact e), od, es, ep, e1, e2, e3, e4, e5⟩
end K68

namespace K68
open PySem PySem.Spec PyProof.Rows L2
/-! ### {(a, b): v for ..}: a dict comprehension whose keys are tuples -/
theorem put_dT {X : Cx} {pins : List (Addr × Obj)} {σ : L2.St} {H : Hp} {s : Shared} {E : Value → Shared → Prop} {D b : Addr} {kvs : List (List Key × V)} {k : List Key} {v : V} {r : Value} {Q : Unit → Shared → Prop} (hu : X.A.units + 64 < cLine) (I : Inv X pins σ H s) (hD : H D = some (.dT kvs))
    (few : kvs.length < sizeLine) (hb : H b = some (.tup (k.map kV))) (rv : RelV v r) (h : ∀ s', Inv X pins σ (upd H D (.dT (putK kvs k v))) s' → Q () s') : wpAny (model X.prog X.w) X.A (dictSet D (.ref b) r) Q E s := by
  obtain ⟨z, hd, xs, rel, dd⟩ := dt_of I.hok hD
  have hl : (putK kvs k v).length ≤ sizeLine := by have := length_putK kvs k v; omega
  refine wpAny_dictSet_heap (hsz := by rw [← Paired.length rel]; exact z) (show X.A.units < cLine by omega) (key_of I.hok hb) dd fun h' dd' hs => h _ ?_
  obtain ⟨ob, es, ep, e1, e2, e3, e4, _, e5⟩ := dd'
  have rel' := (rel.put k hb rv).keeps (H' := upd H D (.dT (putK kvs k v))) fun c ys ec => by
    rw [upd_ne (ne_of ec hD (fun q => nomatch q))]
    exact ec
  exact d_write I (by rw [hD]; exact True.intro) hs ⟨ob, e1⟩ ⟨hl, hd, _, rel', ob, es, ep, e1, e2, e3, e4, e5⟩
section
variable {X : Cx}
/-- W by the turn and a measure; D the new dict -/
def tDcT (wi : TI) (g : TG) (tk tv : TE) (own : List Nat) : TE := fun σ H Q => wi σ H fun J H1 => ∀ D, H1 D = none → ∃ W : Nat → Nat → Hp → Prop, (∃ m, W 0 m (upd H1 D (.dT []))) ∧ ∀ i m H, W i m H →
  (J.stop i H ∧ Q (.ref D) H) ∨ (J.go i H ∧ ∃ Nx : Hp → Prop, (∀ H', Nx H' → ∃ m', m' < m ∧ W (i + 1) m' H') ∧ ∀ x H', J.yld i H x H' → g x (wipe σ own) H' fun σ2 H2 => wipe σ2 own = wipe σ own ∧
    tk σ2 H2 fun y H3 => tv σ2 H3 fun z H4 => ∃ (b : Addr) (kvs : List (List Key × V)) (k : List Key), y = .ref b ∧ H4 b = some (.tup (k.map kV)) ∧ H4 D = some (.dT kvs) ∧ kvs.length < sizeLine ∧ Nx (upd H4 D (.dT (putK kvs k z))))
theorem pe_dcT {kx vx tg iter : Expr} {scope : Scope} {own : List (Str × Nat)} {pos : Pos} {wi : TI} {g : TG} {tk tv : TE} (hu : X.A.units + 64 < cLine) (calm : X.calm = true) (nd : X.N.Nodup) (walk : PI X tg iter wi) (blk : BlkOk X.N X.env.scope scope own)
    (hg : ∀ (s : Shared) (H : Hp) (C : Addr) (cl : List (Str × Addr)) (fp : List Addr), PG (X.blk s H scope (compEnvC scope cl C X.env) fp) tg g)
    (hk : ∀ (s : Shared) (H : Hp) (C : Addr) (cl : List (Str × Addr)) (fp : List Addr), PE (X.blk s H scope (compEnvC scope cl C X.env) fp) kx tk)
    (hv : ∀ (s : Shared) (H : Hp) (C : Addr) (cl : List (Str × Addr)) (fp : List Addr), PE (X.blk s H scope (compEnvC scope cl C X.env) fp) vx tv) (plain : ∀ x, foldedSetIterable iter X.env x = pure x := by intro _; rfl) :
    PE X (.DictComp kx vx [⟨tg, iter, [], 0⟩] scope pos) (tDcT wi g tk tv (own.map (·.2))) := by
  constructor
  intro pins s σ H Q I h
  rw [arm_eval_DictComp]
  have caught : ∀ y ∈ scope.names, y.2 = .free → ∃ c, X.env.cells.lookup y.1 = some c := fun y hy e => (blk.free y hy e).elim (fun k => I.ok.has _ (.inl k)) fun k => I.ok.has _ (.inr k)
  refine wpAny_comprehension_free (use := none) rfl plain (closure_ok caught) blk.kind (fun y hy e => by rw [blk.uniq y hy, e]) (thn (walk.run pins s σ H _ I h) fun _ s1 hx => thn hx fun _ s2 h2 => ?_)
  obtain ⟨it, fp, tn, J, H2, rfl, I2, T, at0, free2, rest⟩ := h2
  refine wpAny_newObj_type (newEnv_comp ?_)
  have untr : H2 s2.heap.objs.size = none := I2.hok.fresh (Nat.le_refl _)
  obtain ⟨W, ⟨m0, w0⟩, turn⟩ := rest _ untr
  generalize hD : s2.heap.objs.size = D at *
  generalize e3 : ({ s2 with heap := s2.heap.push { cls := .type "dict", data := .dict #[] } } : Shared) = s3
  have heap3 : s3.heap = s2.heap.push { cls := .type "dict", data := .dict #[] } := by rw [← e3]
  have I3 : Inv X pins σ (upd H2 D (.dT [])) s3 := by
    rw [← e3]
    refine I2.laid (t' := s2.toks) (fun b o e => Heap.get?_push_of_some _ e) (by rw [hD]; exact Nat.le_refl _) ?_
    rw [← hD]
    exact dt_empty s2.heap I2.big
  have low : ∀ b ∈ fp, b < D := fun b hb => by
    obtain ⟨o, e, _⟩ := T.obj _ _ at0 b hb
    rw [← hD]
    exact Heap.lt_size e
  have free3 : ∀ b ∈ fp, FpOk X pins (upd H2 D (.dT [])) b ∧ b < s3.heap.objs.size := fun b hb => by
    refine ⟨⟨?_, (free2 b hb).2⟩, ?_⟩
    · rw [upd_ne (Nat.ne_of_lt (low b hb))]
      exact (free2 b hb).1
    · rw [heap3, Heap.size_push, hD]
      exact Nat.lt_succ_of_lt (low b hb)
  have at3 : tn 0 s3.heap := T.keep _ _ _ at0 fun b _ o e => by rw [heap3]; exact Heap.get?_push_of_some _ e
  have I4 := block_start I3 blk nd free3
  generalize hcs : cellsFrom (s3.heap.objs.size + 1) scope.names (cloFrom X.env.cells scope.names []) = cs at I4
  have PGt := hg s3 (upd H2 D (.dT [])) s3.heap.objs.size cs fp
  have PKt := hk s3 (upd H2 D (.dT [])) s3.heap.objs.size cs fp
  have PVt := hv s3 (upd H2 D (.dT [])) s3.heap.objs.size cs fp
  show codeAny _ _ (.compStart (.DictComp kx vx [⟨tg, iter, [], 0⟩] scope pos) 0 (.ref it) (.ref D) (compEnvC scope cs s3.heap.objs.size X.env)) (compPost (model X.prog X.w) X.A X.xe none (EP X pins σ Q) (.ref D) s3.heap.objs.size) { s3 with heap := pushCells (s3.heap.push { cls := .type "dict", data := .dict #[] }) scope.names }
  generalize hce : compEnvC scope cs s3.heap.objs.size X.env = ce at I4 PGt PKt PVt ⊢
  have cloc : ce.locals = s3.heap.objs.size := by subst hce; rfl
  generalize hH3 : upd H2 D (.dT []) = H3 at I3 I4 PGt PKt PVt w0 free3
  generalize e4 : ({ s3 with heap := pushCells (s3.heap.push { cls := .type "dict", data := .dict #[] }) scope.names } : Shared) = s4 at I4 ⊢
  have at4 : tn 0 s4.heap := T.keep _ _ _ at3 fun b _ o e => by rw [← e4]; exact pushCells_keeps _ _ _ _ (Heap.get?_push_of_some _ e)
  have inBlk : ∀ {σ' : L2.St} {H' : Hp} {s' : Shared}, Inv (X.blk s3 H3 scope ce fp) [] σ' H' s' → (∀ b ∈ fp, H' b = none) → ∀ b ∈ fp, FpOk (X.blk s3 H3 scope ce fp) [] H' b := by
    intro σ' H' s' I' hn b hb
    refine ⟨hn b hb, (I'.ok.exf b hb).1, I'.ok.exfs b hb, .inl hb, fun x c e => (I'.ok.exf b hb).2 x c e, fun p hp => ?_⟩
    have hp' : p ∈ ([] : List (Addr × Obj)) ++ [] := hp
    simp at hp'
  refine codeAny_compStart_dict ?loop (T.self X.A 0 _ _ _ at4 ?loop)
  case loop =>
    refine compLoop_anyD (fun n s' => ∃ i H', Inv (X.blk s3 H3 scope ce fp) [] (wipe σ (own.map (·.2))) H' s' ∧ tn i s'.heap ∧ (∀ b ∈ fp, H' b = none) ∧ W i n H') ?_ m0 ⟨0, H3, I4, at4, fun b hb => (free3 b hb).1.1, w0⟩
    intro n s5 hs5
    obtain ⟨i, H5, I5, at5, n5, w5⟩ := hs5
    rcases turn i n H5 w5 with ⟨stop, fine⟩ | ⟨go, Nx, back, step⟩
    · refine thnF (T.done (X.blk s3 H3 scope ce fp) rfl rfl rfl calm i [] s5 _ H5 (fun _ _ => False) I5 (inBlk I5 n5) at5 stop) fun r s6 hr => ?_
      obtain ⟨rfl, I6⟩ := hr
      have I7 : Inv X pins σ H5 s6 := I3.call' (ch := fp) I6.os I6.base I6.hok I6.bare fun b hb => ⟨(free3 b hb).1.2.2.2.1, (free3 b hb).1.2.1, (free3 b hb).1.2.2.2.2.1, (free3 b hb).1.2.2.2.2.2⟩
      have untrC : H5 s3.heap.objs.size = none := by rw [← cloc]; exact I6.free
      obtain ⟨m, hm, _⟩ := I6.loc
      have hm : s6.heap.Ns ce.locals m := hm
      rw [cloc] at hm
      obtain ⟨f0, f1, f2, f3, f4, f5⟩ := I3.fpOk (Nat.le_refl s3.heap.objs.size) untrC
      exact ⟨m, hm, fun h3 sb => ⟨.ref D, H5, I7.turned (t' := s6.toks) (fun b o hb e => (sb.2 b hb).trans e) f0 f1 f3 f4 f5, rfl, fine⟩⟩
    · refine thnF (T.item (X.blk s3 H3 scope ce fp) rfl rfl rfl calm i [] s5 _ H5 (fun _ _ => False) I5 (inBlk I5 n5) at5 go) fun r s6 hr => ?_
      obtain ⟨u, rfl, h6⟩ := hr
      refine thnF h6 fun _ s7 h7 => ?_
      obtain ⟨x, H7, I7, r7, y7, at7, n7⟩ := h7
      have held := I7.pinned (inBlk I7 n7) (T.obj _ _ at7)
      refine thnF (PGt.run _ s7 _ H7 x u _ held r7 (step x H7 y7)) fun _ s8 h8 => ?_
      obtain ⟨σ8, H8, I8, same8, q8⟩ := h8
      show wpAny _ _ (pure true) _ _ _
      refine wpAny_pure ?_
      rw [if_pos rfl]
      refine thnF (PKt.run _ s8 σ8 H8 _ I8 q8) fun kv s9 h9 => ?_
      obtain ⟨yk, H9, I9, r9, q9⟩ := h9
      refine thnF (PVt.run _ s9 σ8 H9 _ I9 q9) fun vv s10 h10 => ?_
      obtain ⟨yv, H10, I10, r10, b, kvs, k, rfl, hb, hD10, few, nx⟩ := h10
      cases r9
      refine put_dT (X := X.blk s3 H3 scope ce fp) hu I10 hD10 few hb r10 fun s11 I11 => ?_
      obtain ⟨m', lt, w'⟩ := back _ nx
      have pin : ∀ b ∈ fp, ∀ o, s7.heap.get? b = some o → s11.heap.get? b = some o ∧ (upd H10 D (.dT (putK kvs k yv))) b = none := fun b hb o e =>
        ⟨(I11.pin (b, o) (List.mem_append_right _ (List.mem_append_right _ (mem_pinsAt hb e)))).1, (I11.pin (b, o) (List.mem_append_right _ (List.mem_append_right _ (mem_pinsAt hb e)))).2.1⟩
      refine ⟨m', lt, i + 1, _, (I11.unpinned (pins := [])).weak (by rw [← same8, wipe_length]) (fun j v e => ?_), T.keep _ _ _ at7 fun b hb o e => (pin b hb o e).1, fun b hb => ?_, w'⟩
      · rw [← same8] at e
        exact (wipe_some e).1
      · obtain ⟨o, e, _⟩ := T.obj _ _ at7 b hb
        exact (pin b hb o e).2
end
end K68

namespace K68
open PySem PySem.Spec PyProof.Rows L2
open Evl (Ex)
/-! ### what a value stands for -/
def keyOf : PyData → Key
  | .int i => .inl i
  | _ => .inl 0
def keysOf : PyData → List Key
  | .tuple ds => ds.map keyOf
  | _ => []
def valOf : PyData → V
  | .int i => .int i
  | .bool b => .bl b
  | _ => .non
def rowOf (p : PyData × PyData) : List Key × V := (keysOf p.1, valOf p.2)
/-- v stands for d: a list is one object of flat data, a dict has tuple keys and ints -/
def Hv (H : Hp) (v : V) : PyData → Prop
  | .list ds => ∃ (a : Addr) (xs : List V), v = .ref a ∧ H a = some (.lst xs) ∧ TpAll H xs ds
  | .dict kvs => ∃ a : Addr, v = .ref a ∧ H a = some (.dT (kvs.map rowOf))
  | d => Tp H v d
theorem Ex.tex {H H' : Hp} (e : Ex H H') : TEx H H' := fun a xs h => e a _ h
theorem Hv.up {H H' : Hp} (e : Ex H H') : ∀ {d : PyData} {v : V}, Hv H v d → Hv H' v d
  | .none, _, h => Tp.mono (Ex.tex e) h
  | .bool b, _, h => Tp.mono (Ex.tex e) h
  | .int i, _, h => Tp.mono (Ex.tex e) h
  | .str x, _, h => Tp.mono (Ex.tex e) h
  | .tuple ds, _, h => Tp.mono (Ex.tex e) h
  | .list ds, _, h => by
    obtain ⟨a, xs, e1, e2, e3⟩ := h
    exact ⟨a, xs, e1, e _ _ e2, e3.mono (Ex.tex e)⟩
  | .dict kvs, _, h => by
    obtain ⟨a, e1, e2⟩ := h
    exact ⟨a, e1, e _ _ e2⟩
theorem Tp.hv {H : Hp} : ∀ {d : PyData} {v : V}, Tp H v d → Hv H v d
  | .none, _, h => h
  | .bool b, _, h => h
  | .int i, _, h => h
  | .str x, _, h => h
  | .tuple ds, _, h => h
  | .list ds, _, h => by cases h
  | .dict kvs, _, h => by cases h
/-- no list, no dict -/
def NoL (d : PyData) : Prop := ∀ H v, Hv H v d → Tp H v d
def NoLs : List PyData → Prop
  | [] => True
  | d :: ds => NoL d ∧ NoLs ds
def HvAll (H : Hp) : List V → List PyData → Prop
  | [], [] => True
  | v :: vs, d :: ds => Hv H v d ∧ HvAll H vs ds
  | _, _ => False
theorem HvAll.up {H H' : Hp} (e : Ex H H') : ∀ {vs : List V} {ds : List PyData}, HvAll H vs ds → HvAll H' vs ds
  | [], [], _ => True.intro
  | v :: vs, d :: ds, h => ⟨h.1.up e, HvAll.up e h.2⟩
  | [], _ :: _, h => h.elim
  | _ :: _, [], h => h.elim
theorem HvAll.len {H : Hp} : ∀ {vs : List V} {ds : List PyData}, HvAll H vs ds → vs.length = ds.length
  | [], [], _ => rfl
  | v :: vs, d :: ds, h => by simp [HvAll.len h.2]
  | [], _ :: _, h => h.elim
  | _ :: _, [], h => h.elim
theorem HvAll.tp {H : Hp} : ∀ {vs : List V} {ds : List PyData}, HvAll H vs ds → NoLs ds → TpAll H vs ds
  | [], [], _, _ => .nil
  | v :: vs, d :: ds, h, n => .cons (n.1 H v h.1) (HvAll.tp h.2 n.2)
  | [], _ :: _, h, _ => h.elim
  | _ :: _, [], h, _ => h.elim
theorem TpAll.len {H : Hp} : ∀ {vs : List V} {ds : List PyData}, TpAll H vs ds → vs.length = ds.length
  | _, [], h => by cases h; rfl
  | _, d :: ds, h => by
    cases h with
    | cons h1 h2 => simp [TpAll.len h2]
theorem TpAll.get {H : Hp} : ∀ {vs : List V} {ds : List PyData} {i : Nat} {d : PyData}, TpAll H vs ds → ds[i]? = some d → ∃ v, vs[i]? = some v ∧ Tp H v d
  | _, [], i, d, _, e => by simp at e
  | _, d' :: ds, i, d, h, e => by
    cases h with
    | cons h1 h2 =>
      cases i with
      | zero =>
        have : d' = d := Option.some.inj e
        subst this
        exact ⟨_, rfl, h1⟩
      | succ i =>
        obtain ⟨v, e1, e2⟩ := TpAll.get h2 (show ds[i]? = some d by simpa using e)
        exact ⟨v, by simpa using e1, e2⟩
theorem TpAll.get' {H : Hp} {vs : List V} {ds : List PyData} {i : Nat} {v : V} (h : TpAll H vs ds) (e : vs[i]? = some v) : ∃ d, ds[i]? = some d ∧ Tp H v d := by
  have hl := h.len
  have hi : i < ds.length := by rw [← hl]; exact (List.getElem?_eq_some_iff.mp e).1
  obtain ⟨v', e1, e2⟩ := h.get (List.getElem?_eq_getElem hi)
  rw [e] at e1
  cases e1
  exact ⟨_, List.getElem?_eq_getElem hi, e2⟩
theorem TpAll.snoc {H : Hp} : ∀ {vs : List V} {ds : List PyData} {v : V} {d : PyData}, TpAll H vs ds → Tp H v d → TpAll H (vs ++ [v]) (ds ++ [d])
  | _, [], v, d, h, t => by cases h; exact .cons t .nil
  | _, d' :: ds, v, d, h, t => by
    cases h with
    | cons h1 h2 => exact .cons h1 (TpAll.snoc h2 t)
theorem TpAll.app {H : Hp} : ∀ {vs ws : List V} {ds es : List PyData}, TpAll H vs ds → TpAll H ws es → TpAll H (vs ++ ws) (ds ++ es)
  | _, ws, [], es, h, t => by cases h; exact t
  | _, ws, d' :: ds, es, h, t => by
    cases h with
    | cons h1 h2 => exact .cons h1 (TpAll.app h2 t)
theorem TpAll.ints {H : Hp} : ∀ {vs : List V} {ns : List Int}, TpAll H vs (ns.map .int) → vs = ns.map V.int
  | _, [], h => by cases h; rfl
  | _, n :: ns, h => by
    cases h with
    | cons h1 h2 => cases h1; rw [TpAll.ints h2]; rfl
theorem TpAll.ofInts {H : Hp} : ∀ ns : List Int, TpAll H (ns.map V.int) (ns.map .int)
  | [] => .nil
  | n :: ns => .cons (.int n) (TpAll.ofInts ns)
theorem TpAll.bools {H : Hp} : ∀ {vs : List V} {ns : List Bool}, TpAll H vs (ns.map .bool) → vs = ns.map V.bl
  | _, [], h => by cases h; rfl
  | _, n :: ns, h => by
    cases h with
    | cons h1 h2 => cases h1; rw [TpAll.bools h2]; rfl
theorem TpAll.take {H : Hp} : ∀ {vs : List V} {ds : List PyData} (n : Nat), TpAll H vs ds → TpAll H (vs.take n) (ds.take n)
  | _, _, 0, _ => by simp; exact .nil
  | _, [], n + 1, h => by cases h; exact .nil
  | _, d :: ds, n + 1, h => by
    cases h with
    | cons h1 h2 => exact .cons h1 (TpAll.take n h2)
theorem TpAll.drop {H : Hp} : ∀ {vs : List V} {ds : List PyData} (n : Nat), TpAll H vs ds → TpAll H (vs.drop n) (ds.drop n)
  | _, _, 0, h => h
  | _, [], n + 1, h => by cases h; exact .nil
  | _, d :: ds, n + 1, h => by
    cases h with
    | cons h1 h2 => exact TpAll.drop n h2

/-! ### the slots -/
abbrev Env := List (Option PyData)
def Sl (σ : L2.St) (H : Hp) (ρ : Env) : Prop := σ.length = ρ.length ∧ ∀ (i : Nat) (d : PyData), ρ[i]? = some (some d) → ∃ v, σ[i]? = some (some v) ∧ Hv H v d
theorem Sl.up {σ : L2.St} {H H' : Hp} {ρ : Env} (e : Ex H H') (h : Sl σ H ρ) : Sl σ H' ρ := ⟨h.1, fun i d q => let ⟨v, e1, e2⟩ := h.2 i d q; ⟨v, e1, e2.up e⟩⟩
theorem Sl.set {σ : L2.St} {H : Hp} {ρ : Env} {v : V} {d : PyData} (h : Sl σ H ρ) (j : Nat) (hv : Hv H v d) : Sl (σ.set j (some v)) H (ρ.set j (some d)) := by
  refine ⟨by rw [List.length_set, List.length_set]; exact h.1, fun i d' q => ?_⟩
  by_cases e : j = i
  · subst e
    have hj : j < ρ.length := by
      have := (List.getElem?_eq_some_iff.mp q).1
      rwa [List.length_set] at this
    rw [List.getElem?_set_self hj] at q
    cases q
    exact ⟨v, List.getElem?_set_self (by rw [h.1]; exact hj), hv⟩
  · rw [List.getElem?_set_ne e] at q
    obtain ⟨v', e1, e2⟩ := h.2 i d' q
    exact ⟨v', by rw [List.getElem?_set_ne e]; exact e1, e2⟩
/-- fewer slots known -/
def Le (ρ ρ' : Env) : Prop := ρ.length = ρ'.length ∧ ∀ (i : Nat) (d : PyData), ρ'[i]? = some (some d) → ρ[i]? = some (some d)
theorem Sl.weak {σ : L2.St} {H : Hp} {ρ ρ' : Env} (h : Sl σ H ρ) (l : Le ρ ρ') : Sl σ H ρ' := ⟨h.1.trans l.1, fun i d q => h.2 i d (l.2 i d q)⟩
def leB : List (Option PyData) → List (Option PyData) → Prop
  | [], [] => True
  | x :: xs, y :: ys => (y = none ∨ x = y) ∧ leB xs ys
  | _, _ => False
theorem le_of : ∀ {ρ ρ' : Env}, leB ρ ρ' → Le ρ ρ'
  | [], [], _ => ⟨rfl, fun _ _ e => e⟩
  | x :: xs, y :: ys, h => by
    obtain ⟨l, k⟩ := le_of h.2
    refine ⟨by simp [l], fun i d e => ?_⟩
    cases i with
    | zero =>
      have e : y = some d := Option.some.inj e
      rcases h.1 with q | q
      · rw [q] at e; cases e
      · rw [← q] at e; rw [e]; rfl
    | succ i => simpa using k i d (by simpa using e)
  | [], _ :: _, h => h.elim
  | _ :: _, [], h => h.elim
theorem Le.refl (ρ : Env) : Le ρ ρ := ⟨rfl, fun _ _ e => e⟩
def wipeD (ρ : Env) : List Nat → Env
  | [] => ρ
  | v :: vs => (wipeD ρ vs).set v none
theorem wipeD_len (ρ : Env) : ∀ vs, (wipeD ρ vs).length = ρ.length
  | [] => rfl
  | v :: vs => by unfold wipeD; rw [List.length_set, wipeD_len ρ vs]
theorem wipe_at (σ : L2.St) (i : Nat) : ∀ vs : List Nat, i ∉ vs → (wipe σ vs)[i]? = σ[i]?
  | [], _ => rfl
  | v :: vs, h => by
    unfold wipe
    rw [List.getElem?_set_ne (fun e => h (by simp [e]))]
    exact wipe_at σ i vs fun q => h (List.mem_cons_of_mem _ q)
theorem wipeD_at (ρ : Env) (i : Nat) (d : PyData) : ∀ vs : List Nat, (wipeD ρ vs)[i]? = some (some d) → ρ[i]? = some (some d) ∧ i ∉ vs
  | [], h => ⟨h, by simp⟩
  | v :: vs, h => by
    unfold wipeD at h
    by_cases hi : v = i
    · subst hi
      by_cases hv : v < (wipeD ρ vs).length
      · rw [List.getElem?_set_self hv] at h; cases h
      · rw [List.getElem?_eq_none (by simpa using hv)] at h; cases h
    · rw [List.getElem?_set_ne hi] at h
      obtain ⟨h1, h2⟩ := wipeD_at ρ i d vs h
      exact ⟨h1, by simp only [List.mem_cons, not_or]; exact ⟨fun e => hi e.symm, h2⟩⟩
theorem Sl.wipe {σ : L2.St} {H : Hp} {ρ : Env} (h : Sl σ H ρ) (vs : List Nat) : Sl (L2.wipe σ vs) H (wipeD ρ vs) := by
  refine ⟨by rw [wipe_length, wipeD_len]; exact h.1, fun i d q => ?_⟩
  obtain ⟨e1, e2⟩ := wipeD_at ρ i d vs q
  obtain ⟨v, e3, e4⟩ := h.2 i d e1
  exact ⟨v, by rw [wipe_at σ i vs e2]; exact e3, e4⟩
theorem wipe_in (σ : L2.St) {i : Nat} (hi : i < σ.length) : ∀ {vs : List Nat}, i ∈ vs → (wipe σ vs)[i]? = some none
  | v :: vs, h => by
    unfold wipe
    by_cases e : v = i
    · subst e
      rw [List.getElem?_set_self (by rw [wipe_length]; exact hi)]
    · rw [List.getElem?_set_ne e]
      rcases List.mem_cons.mp h with q | q
      · exact absurd q.symm e
      · exact wipe_in σ hi q
theorem wipe_set (σ : L2.St) (j : Nat) (x : Option V) {vs : List Nat} (hj : j ∈ vs) : wipe (σ.set j x) vs = wipe σ vs := by
  refine List.ext_getElem? fun i => ?_
  by_cases hi : i < σ.length
  · by_cases hm : i ∈ vs
    · rw [wipe_in _ (by rw [List.length_set]; exact hi) hm, wipe_in _ hi hm]
    · rw [wipe_at _ i vs hm, wipe_at _ i vs hm, List.getElem?_set_ne (fun e => hm (by rw [← e]; exact hj))]
  · rw [List.getElem?_eq_none (by rw [wipe_length, List.length_set]; omega), List.getElem?_eq_none (by rw [wipe_length]; omega)]
theorem wipe_idem (σ : L2.St) (vs : List Nat) : wipe (wipe σ vs) vs = wipe σ vs := by
  refine List.ext_getElem? fun i => ?_
  by_cases hi : i < σ.length
  · by_cases hm : i ∈ vs
    · rw [wipe_in _ (by rw [wipe_length]; exact hi) hm, wipe_in _ hi hm]
    · rw [wipe_at _ i vs hm]
  · rw [List.getElem?_eq_none (by rw [wipe_length, wipe_length]; omega), List.getElem?_eq_none (by rw [wipe_length]; omega)]

/-! ### what evaluates to what data -/
def ET (ρ : Env) (te : TE) (d : PyData) : Prop := ∀ σ H, Sl σ H ρ → ∀ Q : VK, (∀ v H', Ex H H' → Hv H' v d → Q v H') → te σ H Q
def EB (ρ : Env) (tt : TT) (b : Bool) : Prop := ∀ σ H, Sl σ H ρ → ∀ Q : Bool → Hp → Prop, (∀ H', Ex H H' → Q b H') → tt σ H Q
def EA (ρ : Env) (ta : TA) (ds : List PyData) : Prop := ∀ σ H, Sl σ H ρ → ∀ Q : List V → Hp → Prop, (∀ vs H', Ex H H' → HvAll H' vs ds → Q vs H') → ta σ H Q
def Good (J : It) (l : List PyData) (H : Hp) : Prop := ∀ H', Ex H H' → J.stop l.length H' ∧ ∀ (i : Nat) (d : PyData), l[i]? = some d → J.go i H' ∧ ∀ x H'', J.yld i H' x H'' → Ex H' H'' ∧ Hv H'' x d
def IT (ρ : Env) (wi : TI) (l : List PyData) : Prop := ∀ σ H, Sl σ H ρ → ∀ R : It → Hp → Prop, (∀ J H', Ex H H' → Good J l H' → R J H') → wi σ H R
def EG (vs : List Nat) (g : TG) (d : PyData) (ρ ρ2 : Env) : Prop := ∀ σ H x, Sl σ H ρ → Hv H x d → ∀ Q : L2.St → Hp → Prop, (∀ σ2, Sl σ2 H ρ2 → wipe σ2 vs = wipe σ vs → Q σ2 H) → g x σ H Q
def EGs (vs : List Nat) (g : TGs) (ds : List PyData) (ρ ρ2 : Env) : Prop := ∀ σ H xs, Sl σ H ρ → TpAll H xs ds → ∀ Q : L2.St → Hp → Prop, (∀ σ2, Sl σ2 H ρ2 → wipe σ2 vs = wipe σ vs → Q σ2 H) → g xs σ H Q
theorem ET.weak {ρ ρ' : Env} {te : TE} {d : PyData} (h : ET ρ' te d) (l : Le ρ ρ') : ET ρ te d := fun σ H S Q q => h σ H (S.weak l) Q q
section
variable {ρ : Env} {ta tb te : TE} {tt tu : TT} {K : PySem.W.Frag}
theorem et_var {i : Nat} {d : PyData} (h : ρ[i]? = some (some d) := by rfl) : ET ρ (tVar i) d := fun σ H S Q q => by
  obtain ⟨v, e1, e2⟩ := S.2 i d h
  exact ⟨v, e1, q v H (Evl.Ex.refl H) e2⟩
theorem et_int {i : Int} : ET ρ (tC (.int i)) (.int i) := fun σ H S Q q => q _ H (Evl.Ex.refl H) (.int i)
theorem et_non : ET ρ (tC .non) .none := fun σ H S Q q => q _ H (Evl.Ex.refl H) .non
theorem et_bl {b : Bool} : ET ρ (tC (.bl b)) (.bool b) := fun σ H S Q q => q _ H (Evl.Ex.refl H) (.bl b)
theorem hv_int {H : Hp} {v : V} {i : Int} (h : Hv H v (.int i)) : v = .int i := by
  have h : Tp H v (.int i) := h
  cases h
  rfl
theorem hv_bool {H : Hp} {v : V} {i : Bool} (h : Hv H v (.bool i)) : v = .bl i := by
  have h : Tp H v (.bool i) := h
  cases h
  rfl
theorem hv_none {H : Hp} {v : V} (h : Hv H v .none) : v = .non := by
  have h : Tp H v .none := h
  cases h
  rfl
/-- two ints -/
theorem et_two {r : R2} {i j : Int} {d : PyData} (ha : ET ρ ta (.int i)) (hb : ET ρ tb (.int j)) (hr : ∀ H, ∀ Q : VK, (∀ v H', Ex H H' → Hv H' v d → Q v H') → r (.int i) (.int j) H Q) : ET ρ (tOp r ta tb) d := fun σ H S Q q =>
  ha σ H S _ fun x H1 e1 h1 => hb σ H1 (S.up e1) _ fun y H2 e2 h2 => by
    rw [hv_int h1, hv_int h2]
    exact hr H2 Q fun v H' e h => q v H' ((e1.trans e2).trans e) h
theorem et_I0 {g : Int → Int → Int} {i j : Int} (ha : ET ρ ta (.int i)) (hb : ET ρ tb (.int j)) : ET ρ (tOp (rI0 fun i j => .int (g i j)) ta tb) (.int (g i j)) := et_two ha hb fun H Q q => ⟨i, j, rfl, rfl, q _ H (Evl.Ex.refl H) (.int _)⟩
theorem et_B0 {g : Int → Int → Bool} {i j : Int} (ha : ET ρ ta (.int i)) (hb : ET ρ tb (.int j)) : ET ρ (tOp (rI0 fun i j => .bl (g i j)) ta tb) (.bool (g i j)) := et_two ha hb fun H Q q => ⟨i, j, rfl, rfl, q _ H (Evl.Ex.refl H) (.bl _)⟩
theorem et_I {C : Int → Int → Prop} {g : Int → Int → Int} {i j : Int} (ha : ET ρ ta (.int i)) (hb : ET ρ tb (.int j)) (hc : C i j) : ET ρ (tOp (rI C fun i j => .int (g i j)) ta tb) (.int (g i j)) := et_two ha hb fun H Q q => ⟨i, j, rfl, rfl, hc, q _ H (Evl.Ex.refl H) (.int _)⟩
theorem et_U {g : Int → Int} {i : Int} (ha : ET ρ ta (.int i)) : ET ρ (tUn (rU fun i => .int (g i)) ta) (.int (g i)) := fun σ H S Q q => ha σ H S _ fun x H1 e1 h1 => by
  rw [hv_int h1]
  exact ⟨i, rfl, q _ H1 e1 (.int _)⟩
theorem et_eqd {ta tb : TE} {d e : PyData} (ha : ET ρ ta d) (hb : ET ρ tb e) (hd : NoL d) (he : NoL e) (s1 : SeqAt.shaped d = true) (s2 : SeqAt.shaped e = true) : ET ρ (tOp (rEqD K) ta tb) (.bool (PyData.eqv d e)) := fun σ H S Q q =>
  ha σ H S _ fun x H1 e1 h1 => hb σ H1 (S.up e1) _ fun y H2 e2 h2 => ⟨d, e, (hd _ _ (h1.up e2)).dp, (he _ _ h2).dp, s1, s2, q _ H2 (e1.trans e2) (.bl _)⟩
theorem et_ned {ta tb : TE} {d e : PyData} (ha : ET ρ ta d) (hb : ET ρ tb e) (hd : NoL d) (he : NoL e) (s1 : SeqAt.shaped d = true) (s2 : SeqAt.shaped e = true) : ET ρ (tOp (rNeD K) ta tb) (.bool (!PyData.eqv d e)) := fun σ H S Q q =>
  ha σ H S _ fun x H1 e1 h1 => hb σ H1 (S.up e1) _ fun y H2 e2 h2 => ⟨d, e, (hd _ _ (h1.up e2)).dp, (he _ _ h2).dp, s1, s2, q _ H2 (e1.trans e2) (.bl _)⟩
theorem hv_dp {H : Hp} : ∀ {d : PyData} {v : V}, Hv H v d → (∀ kvs, d ≠ .dict kvs) → Dp K H v d
  | .none, _, h, _ => Tp.dp h
  | .bool b, _, h, _ => Tp.dp h
  | .int i, _, h, _ => Tp.dp h
  | .str x, _, h, _ => Tp.dp h
  | .tuple ds, _, h, _ => Tp.dp h
  | .list ds, _, h, _ => by
    obtain ⟨a, xs, rfl, e2, e3⟩ := h
    exact .lst (SqL.of e2) e3.dp
  | .dict kvs, _, h, n => absurd rfl (n kvs)
/-- == of two lists -/
theorem et_eqL {ds es : List PyData} (ha : ET ρ ta (.list ds)) (hb : ET ρ tb (.list es)) (s1 : SeqAt.shaped (.list ds) = true) (s2 : SeqAt.shaped (.list es) = true) : ET ρ (tOp (rEqD K) ta tb) (.bool (PyData.eqv (.list ds) (.list es))) := fun σ H S Q q =>
  ha σ H S _ fun x H1 e1 h1 => hb σ H1 (S.up e1) _ fun y H2 e2 h2 => ⟨_, _, hv_dp (h1.up e2) (fun _ z => nomatch z), hv_dp h2 (fun _ z => nomatch z), s1, s2, q _ H2 (e1.trans e2) (.bl _)⟩
/-- flat values -/
def encO : Option Int → PyData
  | none => .none
  | some i => .int i
def vO : Option Int → V
  | none => .non
  | some i => .int i
theorem hv_o {H : Hp} {v : V} : ∀ {r : Option Int}, Hv H v (encO r) → v = vO r
  | none, h => hv_none h
  | some i, h => hv_int h
theorem o_hv (H : Hp) : ∀ r : Option Int, Hv H (vO r) (encO r)
  | none => .non
  | some i => .int i
theorem nol_o (r : Option Int) : NoL (encO r) := fun H v h => by cases r <;> exact h
theorem et_o {r : Option Int} {d : PyData} (h : ET ρ te d) (e : d = encO r) : ET ρ te (encO r) := e ▸ h
theorem scal_o (r s : Option Int) : scal (vO r) (vO s) = true := by cases r <;> cases s <;> rfl
theorem vO_dec (r s : Option Int) : decide (vO r = vO s) = decide (r = s) := by
  cases r <;> cases s <;> simp [vO]
theorem et_eqO {r s : Option Int} (ha : ET ρ ta (encO r)) (hb : ET ρ tb (encO s)) : ET ρ (tOp rEq ta tb) (.bool (decide (r = s))) := fun σ H S Q q =>
  ha σ H S _ fun x H1 e1 h1 => hb σ H1 (S.up e1) _ fun y H2 e2 h2 => by
    rw [hv_o h1, hv_o h2]
    refine ⟨scal_o r s, q _ H2 (e1.trans e2) ?_⟩
    rw [vO_dec]
    exact .bl _
theorem et_neO {r s : Option Int} (ha : ET ρ ta (encO r)) (hb : ET ρ tb (encO s)) : ET ρ (tOp rNe ta tb) (.bool (!decide (r = s))) := fun σ H S Q q =>
  ha σ H S _ fun x H1 e1 h1 => hb σ H1 (S.up e1) _ fun y H2 e2 h2 => by
    rw [hv_o h1, hv_o h2]
    refine ⟨scal_o r s, q _ H2 (e1.trans e2) ?_⟩
    rw [vO_dec]
    exact .bl _
theorem et_eqI {i j : Int} (ha : ET ρ ta (.int i)) (hb : ET ρ tb (.int j)) : ET ρ (tOp rEq ta tb) (.bool (decide (i = j))) := by
  have h := et_eqO (r := some i) (s := some j) ha hb
  have e : decide ((some i : Option Int) = some j) = decide (i = j) := by simp
  rwa [e] at h
theorem et_neI {i j : Int} (ha : ET ρ ta (.int i)) (hb : ET ρ tb (.int j)) : ET ρ (tOp rNe ta tb) (.bool (!decide (i = j))) := by
  have h := et_neO (r := some i) (s := some j) ha hb
  have e : decide ((some i : Option Int) = some j) = decide (i = j) := by simp
  rwa [e] at h
theorem et_eqB {a b : Bool} (ha : ET ρ ta (.bool a)) (hb : ET ρ tb (.bool b)) : ET ρ (tOp rEq ta tb) (.bool (a == b)) := fun σ H S Q q =>
  ha σ H S _ fun x H1 e1 h1 => hb σ H1 (S.up e1) _ fun y H2 e2 h2 => by
    rw [hv_bool h1, hv_bool h2]
    refine ⟨rfl, q _ H2 (e1.trans e2) ?_⟩
    rw [dec_bl]
    exact .bl _
theorem et_neB {a b : Bool} (ha : ET ρ ta (.bool a)) (hb : ET ρ tb (.bool b)) : ET ρ (tOp rNe ta tb) (.bool (a != b)) := fun σ H S Q q =>
  ha σ H S _ fun x H1 e1 h1 => hb σ H1 (S.up e1) _ fun y H2 e2 h2 => by
    rw [hv_bool h1, hv_bool h2]
    refine ⟨rfl, q _ H2 (e1.trans e2) ?_⟩
    rw [dec_bl]
    exact .bl _
/-- is None, is not None -/
def isNd : PyData → Bool
  | .none => true
  | _ => false
theorem hv_isN {H : Hp} : ∀ {d : PyData} {v : V}, Hv H v d → decide (v = .non) = isNd d
  | .none, _, h => by rw [hv_none h]; rfl
  | .bool b, _, h => by rw [hv_bool h]; rfl
  | .int i, _, h => by rw [hv_int h]; rfl
  | .str x, _, h => by cases (show Tp H _ (.str x) from h)
  | .tuple ds, _, h => by cases (show Tp H _ (.tuple ds) from h); rfl
  | .list ds, _, h => by obtain ⟨a, xs, rfl, _⟩ := h; rfl
  | .dict kvs, _, h => by obtain ⟨a, rfl, _⟩ := h; rfl
theorem et_isN {d : PyData} (ha : ET ρ ta d) : ET ρ (tOp (fun x y H Q => y = .non ∧ Q (.bl (decide (x = .non))) H) ta (tC .non)) (.bool (isNd d)) := fun σ H S Q q => ha σ H S _ fun x H1 e1 h1 => ⟨rfl, q _ H1 e1 (by rw [hv_isN h1]; exact .bl _)⟩
theorem et_notN {d : PyData} (ha : ET ρ ta d) : ET ρ (tOp (fun x y H Q => y = .non ∧ Q (.bl (!decide (x = .non))) H) ta (tC .non)) (.bool (!isNd d)) := fun σ H S Q q => ha σ H S _ fun x H1 e1 h1 => ⟨rfl, q _ H1 e1 (by rw [hv_isN h1]; exact .bl _)⟩
/-- tests -/
theorem eb_val {b : Bool} (h : ET ρ te (.bool b)) : EB ρ (tB te) b := fun σ H S Q q => h σ H S _ fun v H' e hv => ⟨b, hv_bool hv, q H' e⟩
theorem eb_test {b : Bool} (h : ET ρ te (.bool b)) : EB ρ (tTest te) b := fun σ H S Q q => h σ H S _ fun v H' e hv => ⟨b, hv_bool hv, q H' e⟩
theorem eb_is {a b : Bool} (h : EB ρ tt a) (e : a = b) : EB ρ tt b := e ▸ h
theorem et_is {d e : PyData} (h : ET ρ te d) (q : d = e) : ET ρ te e := q ▸ h
theorem eb_not {a : Bool} (h : EB ρ tt a) : EB ρ (tNot tt) (!a) := fun σ H S Q q => h σ H S _ fun H' e => q H' e
theorem eb_and {a b : Bool} (h1 : EB ρ tt a) (h2 : a = true → EB ρ tu b) : EB ρ (tAnd tt tu) (a && b) := fun σ H S Q q => h1 σ H S _ fun H1 e1 => by
  cases a
  · rw [if_neg Bool.false_ne_true]; exact q H1 e1
  · rw [if_pos rfl]; exact h2 rfl σ H1 (S.up e1) _ fun H2 e2 => q H2 (e1.trans e2)
theorem eb_or {a b : Bool} (h1 : EB ρ tt a) (h2 : a = false → EB ρ tu b) : EB ρ (tOr tt tu) (a || b) := fun σ H S Q q => h1 σ H S _ fun H1 e1 => by
  cases a
  · rw [if_neg Bool.false_ne_true]; exact h2 rfl σ H1 (S.up e1) _ fun H2 e2 => q H2 (e1.trans e2)
  · rw [if_pos rfl]; exact q H1 e1
theorem et_and {a b : Bool} (h1 : ET ρ ta (.bool a)) (h2 : a = true → ET ρ tb (.bool b)) : ET ρ (tAndV ta tb) (.bool (a && b)) := fun σ H S Q q => h1 σ H S _ fun v H1 e1 hv => ⟨a, hv_bool hv, by
  cases a
  · rw [if_neg Bool.false_ne_true]; exact q _ H1 e1 (.bl _)
  · rw [if_pos rfl]; exact h2 rfl σ H1 (S.up e1) _ fun v H2 e2 hv => q v H2 (e1.trans e2) hv⟩
theorem et_or {a b : Bool} (h1 : ET ρ ta (.bool a)) (h2 : a = false → ET ρ tb (.bool b)) : ET ρ (tOrV ta tb) (.bool (a || b)) := fun σ H S Q q => h1 σ H S _ fun v H1 e1 hv => ⟨a, hv_bool hv, by
  cases a
  · rw [if_neg Bool.false_ne_true]; exact h2 rfl σ H1 (S.up e1) _ fun v H2 e2 hv => q v H2 (e1.trans e2) hv
  · rw [if_pos rfl]; exact q _ H1 e1 (.bl _)⟩
theorem et_not {a : Bool} (h : ET ρ ta (.bool a)) : ET ρ (tNotV ta) (.bool (!a)) := fun σ H S Q q => h σ H S _ fun v H1 e1 hv => ⟨a, hv_bool hv, q _ H1 e1 (.bl _)⟩
theorem et_if {b : Bool} {d : PyData} (h : EB ρ tt b) (h1 : b = true → ET ρ ta d) (h2 : b = false → ET ρ tb d) : ET ρ (tIf tt ta tb) d := fun σ H S Q q => h σ H S _ fun H1 e1 => by
  cases b
  · rw [if_neg Bool.false_ne_true]; exact h2 rfl σ H1 (S.up e1) _ fun v H2 e2 hv => q v H2 (e1.trans e2) hv
  · rw [if_pos rfl]; exact h1 rfl σ H1 (S.up e1) _ fun v H2 e2 hv => q v H2 (e1.trans e2) hv
theorem eb_ch3 {g1 g2 g3 : Int → Int → Bool} {tc td : TE} {i j k l : Int} (ha : ET ρ ta (.int i)) (hb : ET ρ tb (.int j)) (hc : ET ρ tc (.int k)) (hd : ET ρ td (.int l)) (h1 : g1 i j = true) (h2 : g2 j k = true) :
    EB ρ (tCh3 (rI0 fun i j => .bl (g1 i j)) (rI0 fun i j => .bl (g2 i j)) (rI0 fun i j => .bl (g3 i j)) ta tb tc td) (g3 k l) := fun σ H S Q q =>
  ha σ H S _ fun x H1 e1 x1 => hb σ H1 (S.up e1) _ fun y H2 e2 x2 => by
    rw [hv_int x1, hv_int x2]
    refine ⟨i, j, rfl, rfl, _, rfl, ?_⟩
    rw [if_pos h1]
    have e12 := e1.trans e2
    refine hc σ H2 (S.up e12) _ fun z H3 e3 x3 => ?_
    rw [hv_int x3]
    refine ⟨j, k, rfl, rfl, _, rfl, ?_⟩
    rw [if_pos h2]
    have e123 := e12.trans e3
    refine hd σ H3 (S.up e123) _ fun u H4 e4 x4 => ?_
    rw [hv_int x4]
    exact ⟨k, l, rfl, rfl, _, rfl, q H4 (e123.trans e4)⟩
/-- arguments -/
theorem ea_nil : EA ρ tNil [] := fun σ H S Q q => q [] H (Evl.Ex.refl H) True.intro
theorem ea_cons {tr : TA} {d : PyData} {ds : List PyData} (h : ET ρ te d) (hr : EA ρ tr ds) : EA ρ (tCons te tr) (d :: ds) := fun σ H S Q q => h σ H S _ fun v H1 e1 hv => hr σ H1 (S.up e1) _ fun vs H2 e2 hvs => q _ H2 (e1.trans e2) ⟨hv.up e2, hvs⟩
theorem ea1 {d : PyData} (h : ET ρ te d) : EA ρ (tCons te tNil) [d] := ea_cons h ea_nil
theorem ea2 {d e : PyData} (h : ET ρ ta d) (k : ET ρ tb e) : EA ρ (tCons ta (tCons tb tNil)) [d, e] := ea_cons h (ea1 k)
theorem ea3 {tc : TE} {d e f : PyData} (h : ET ρ ta d) (k : ET ρ tb e) (l : ET ρ tc f) : EA ρ (tCons ta (tCons tb (tCons tc tNil))) [d, e, f] := ea_cons h (ea2 k l)
theorem ea4 {tc td : TE} {d e f g : PyData} (h : ET ρ ta d) (k : ET ρ tb e) (l : ET ρ tc f) (m : ET ρ td g) : EA ρ (tCons ta (tCons tb (tCons tc (tCons td tNil)))) [d, e, f, g] := ea_cons h (ea3 k l m)
theorem et_tup {ta : TA} {ds : List PyData} (h : EA ρ ta ds) (hn : NoLs ds) (hl : ds.length ≤ 1000) : ET ρ (tTup ta) (.tuple ds) := fun σ H S Q q => h σ H S _ fun vs H1 e1 hv => ⟨by rw [hv.len]; exact small1k hl, fun p hp => by
  have e2 : Ex H1 (upd H1 p (.tup vs)) := Evl.Ex.new hp
  exact q _ _ (e1.trans e2) (.tup upd_same ((hv.tp hn).mono (Ex.tex e2)))⟩
theorem et_lst {ta : TA} {ds : List PyData} (h : EA ρ ta ds) (hn : NoLs ds) (hl : ds.length ≤ 1000) : ET ρ (tLst ta) (.list ds) := fun σ H S Q q => h σ H S _ fun vs H1 e1 hv => ⟨by rw [hv.len]; exact small1k hl, fun p hp => by
  have e2 : Ex H1 (upd H1 p (.lst vs)) := Evl.Ex.new hp
  exact q _ _ (e1.trans e2) ⟨p, vs, rfl, upd_same, (hv.tp hn).mono (Ex.tex e2)⟩⟩
/-- an item -/
theorem et_ix {ds : List PyData} {d : PyData} {n : Nat} (ha : ET ρ ta (.tuple ds)) (hb : ET ρ tb (.int (n : Nat))) (h : ds[n]? = some d) : ET ρ (tOp (rIxT K) ta tb) d := fun σ H S Q q => ha σ H S _ fun x H1 e1 h1 => hb σ H1 (S.up e1) _ fun y H2 e2 h2 => by
  have h1 := h1.up e2
  cases (show Tp H2 x (.tuple ds) from h1) with
  | @tup a xs _ k1 k2 =>
    obtain ⟨v, e3, e4⟩ := k2.get h
    rw [hv_int h2]
    exact ⟨a, xs, _, v, rfl, rfl, SqT.of k1, atI_nat e3, q v H2 (e1.trans e2) e4.hv⟩
theorem et_ixL {ds : List PyData} {d : PyData} {n : Nat} (ha : ET ρ ta (.list ds)) (hb : ET ρ tb (.int (n : Nat))) (h : ds[n]? = some d) : ET ρ (tOp (rIxL K) ta tb) d := fun σ H S Q q => ha σ H S _ fun x H1 e1 h1 => hb σ H1 (S.up e1) _ fun y H2 e2 h2 => by
  obtain ⟨a, xs, rfl, k1, k2⟩ := h1.up e2
  obtain ⟨v, e3, e4⟩ := k2.get h
  rw [hv_int h2]
  exact ⟨a, xs, _, v, rfl, rfl, SqL.of k1, atI_nat e3, q v H2 (e1.trans e2) e4.hv⟩
/-- a def's call -/
def spD (R : List PyData → PyData → Prop) : Sp := fun vs H Q _ => ∃ ds d, HvAll H vs ds ∧ R ds d ∧ ∀ v H', Ex H H' → Hv H' v d → Q v H'
theorem et_call {R : List PyData → PyData → Prop} {ta : TA} {E : XK} {ds : List PyData} {d : PyData} (h : EA ρ ta ds) (hr : R ds d) : ET ρ (tCall (spD R) [] E ta) d := fun σ H S Q q => h σ H S _ fun vs H1 e1 hv => ⟨ds, d, by rw [List.append_nil]; exact hv, hr, fun v H' e2 h2 => q v H' (e1.trans e2) h2⟩
/-- a built-in's call on data -/
theorem et_cb {r : List V → Hp → VK → Prop} {ta : TA} {ds : List PyData} {d : PyData} (h : EA ρ ta ds) (hr : ∀ vs H, HvAll H vs ds → ∀ Q : VK, (∀ v H', Ex H H' → Hv H' v d → Q v H') → r vs H Q) : ET ρ (tCB r ta) d := fun σ H S Q q => h σ H S _ fun vs H1 e1 hv => hr vs H1 hv Q fun v H' e2 h2 => q v H' (e1.trans e2) h2
theorem hv1 {H : Hp} {vs : List V} {d : PyData} (h : HvAll H vs [d]) : ∃ v, vs = [v] ∧ Hv H v d := by
  match vs, h with
  | [v], h => exact ⟨v, rfl, h.1⟩
theorem hv2 {H : Hp} {vs : List V} {d e : PyData} (h : HvAll H vs [d, e]) : ∃ v w, vs = [v, w] ∧ Hv H v d ∧ Hv H w e := by
  match vs, h with
  | [v, w], h => exact ⟨v, w, rfl, h.1, h.2.1⟩
theorem et_abs {i : Int} (h : ET ρ te (.int i)) : ET ρ (tCB (fun xs H Q => ∃ i, xs = [.int i] ∧ Q (.int (if i < 0 then -i else i)) H) (tCons te tNil)) (.int (if i < 0 then -i else i)) := et_cb (ea1 h) fun vs H hv Q q => by
  obtain ⟨v, rfl, h1⟩ := hv1 hv
  rw [hv_int h1]
  exact ⟨i, rfl, q _ H (Evl.Ex.refl H) (.int _)⟩
theorem et_intI {i : Int} (h : ET ρ te (.int i)) : ET ρ (tCB (fun xs H Q => (∃ i, xs = [.int i] ∧ Q (.int i) H) ∨ ∃ k, xs = [.bl k] ∧ Q (.int (if k then 1 else 0)) H) (tCons te tNil)) (.int i) := et_cb (ea1 h) fun vs H hv Q q => by
  obtain ⟨v, rfl, h1⟩ := hv1 hv
  rw [hv_int h1]
  exact .inl ⟨i, rfl, q _ H (Evl.Ex.refl H) (.int _)⟩
theorem et_intB {b : Bool} (h : ET ρ te (.bool b)) : ET ρ (tCB (fun xs H Q => (∃ i, xs = [.int i] ∧ Q (.int i) H) ∨ ∃ k, xs = [.bl k] ∧ Q (.int (if k then 1 else 0)) H) (tCons te tNil)) (.int (if b then 1 else 0)) := et_cb (ea1 h) fun vs H hv Q q => by
  obtain ⟨v, rfl, h1⟩ := hv1 hv
  rw [hv_bool h1]
  exact .inr ⟨b, rfl, q _ H (Evl.Ex.refl H) (.int _)⟩
theorem et_max2 {i j : Int} (h : ET ρ ta (.int i)) (k : ET ρ tb (.int j)) : ET ρ (tCB (fun xs H Q => ∃ i j, xs = [.int i, .int j] ∧ Q (.int (if j > i then j else i)) H) (tCons ta (tCons tb tNil))) (.int (if j > i then j else i)) := et_cb (ea2 h k) fun vs H hv Q q => by
  obtain ⟨v, w, rfl, h1, h2⟩ := hv2 hv
  rw [hv_int h1, hv_int h2]
  exact ⟨i, j, rfl, q _ H (Evl.Ex.refl H) (.int _)⟩
theorem et_min2 {i j : Int} (h : ET ρ ta (.int i)) (k : ET ρ tb (.int j)) : ET ρ (tCB (fun xs H Q => ∃ i j, xs = [.int i, .int j] ∧ Q (.int (if j < i then j else i)) H) (tCons ta (tCons tb tNil))) (.int (if j < i then j else i)) := et_cb (ea2 h k) fun vs H hv Q q => by
  obtain ⟨v, w, rfl, h1, h2⟩ := hv2 hv
  rw [hv_int h1, hv_int h2]
  exact ⟨i, j, rfl, q _ H (Evl.Ex.refl H) (.int _)⟩
theorem et_lenT {ds : List PyData} (h : ET ρ te (.tuple ds)) : ET ρ (tCB (fun xs H Q => ∃ p ys, xs = [.ref p] ∧ (SqL K H p ys ∨ SqT K H p ys) ∧ Q (.int ys.length) H) (tCons te tNil)) (.int ds.length) := et_cb (ea1 h) fun vs H hv Q q => by
  obtain ⟨v, rfl, h1⟩ := hv1 hv
  cases (show Tp H v (.tuple ds) from h1) with
  | @tup a xs _ k1 k2 => exact ⟨a, xs, rfl, .inr (SqT.of k1), q _ H (Evl.Ex.refl H) (by rw [k2.len]; exact .int _)⟩
theorem et_lenL {ds : List PyData} (h : ET ρ te (.list ds)) : ET ρ (tCB (fun xs H Q => ∃ p ys, xs = [.ref p] ∧ (SqL K H p ys ∨ SqT K H p ys) ∧ Q (.int ys.length) H) (tCons te tNil)) (.int ds.length) := et_cb (ea1 h) fun vs H hv Q q => by
  obtain ⟨v, rfl, h1⟩ := hv1 hv
  obtain ⟨a, xs, rfl, k1, k2⟩ := h1
  exact ⟨a, xs, rfl, .inl (SqL.of k1), q _ H (Evl.Ex.refl H) (by rw [k2.len]; exact .int _)⟩
theorem et_sumL {ns : List Int} (h : ET ρ te (.list (ns.map .int))) : ET ρ (tCB (rSum K) (tCons te tNil)) (.int ns.sum) := et_cb (ea1 h) fun vs H hv Q q => by
  obtain ⟨v, rfl, h1⟩ := hv1 hv
  obtain ⟨a, xs, rfl, k1, k2⟩ := h1
  rw [k2.ints] at k1
  exact ⟨a, ns, rfl, SqL.of k1, q _ H (Evl.Ex.refl H) (.int _)⟩
theorem et_sumT {ns : List Int} (h : ET ρ te (.tuple (ns.map .int))) : ET ρ (tCB (rSumT K) (tCons te tNil)) (.int ns.sum) := et_cb (ea1 h) fun vs H hv Q q => by
  obtain ⟨v, rfl, h1⟩ := hv1 hv
  cases (show Tp H v (.tuple _) from h1) with
  | @tup a xs _ k1 k2 =>
    rw [k2.ints] at k1
    exact ⟨a, ns, rfl, SqT.of k1, q _ H (Evl.Ex.refl H) (.int _)⟩
theorem et_allL {bs : List Bool} (h : ET ρ te (.list (bs.map .bool))) : ET ρ (tCB (rAll K) (tCons te tNil)) (.bool (bs.all id)) := et_cb (ea1 h) fun vs H hv Q q => by
  obtain ⟨v, rfl, h1⟩ := hv1 hv
  obtain ⟨a, xs, rfl, k1, k2⟩ := h1
  rw [k2.bools] at k1
  exact ⟨a, bs, rfl, SqL.of k1, q _ H (Evl.Ex.refl H) (.bl _)⟩
theorem et_tupL {ds : List PyData} (h : ET ρ te (.list ds)) : ET ρ (tCB (fun xs H Q => ∃ p ys, xs = [.ref p] ∧ ((SqL K H p ys ∧ ∀ l, H l = none → Q (.ref l) (upd H l (.tup ys))) ∨ (SqT K H p ys ∧ Q (.ref p) H))) (tCons te tNil)) (.tuple ds) := et_cb (ea1 h) fun vs H hv Q q => by
  obtain ⟨v, rfl, h1⟩ := hv1 hv
  obtain ⟨a, xs, rfl, k1, k2⟩ := h1
  exact ⟨a, xs, rfl, .inl ⟨SqL.of k1, fun l hl => q _ _ (Evl.Ex.new hl) (.tup upd_same (k2.mono (Ex.tex (Evl.Ex.new hl))))⟩⟩
theorem et_tupT {ds : List PyData} (h : ET ρ te (.tuple ds)) : ET ρ (tCB (fun xs H Q => ∃ p ys, xs = [.ref p] ∧ ((SqL K H p ys ∧ ∀ l, H l = none → Q (.ref l) (upd H l (.tup ys))) ∨ (SqT K H p ys ∧ Q (.ref p) H))) (tCons te tNil)) (.tuple ds) := et_cb (ea1 h) fun vs H hv Q q => by
  obtain ⟨v, rfl, h1⟩ := hv1 hv
  cases (show Tp H v (.tuple ds) from h1) with
  | @tup a xs _ k1 k2 => exact ⟨a, xs, rfl, .inr ⟨SqT.of k1, q _ H (Evl.Ex.refl H) (.tup k1 k2)⟩⟩
end
end K68

namespace K68
open PySem PySem.Spec PyProof.Rows L2
open Evl (Ex)
section
variable {ρ : Env} {ta tb te : TE} {tt tu : TT} {K : PySem.W.Frag}
theorem et_maxL {ns : List Int} {m : Int} (h : ET ρ te (.list (ns.map .int))) (hm : m ∈ ns) (k : ∀ y ∈ ns, y ≤ m) : ET ρ (tCB (rMax K) (tCons te tNil)) (.int m) := et_cb (ea1 h) fun vs H hv Q q => by
  obtain ⟨v, rfl, h1⟩ := hv1 hv
  obtain ⟨a, xs, rfl, k1, k2⟩ := h1
  rw [k2.ints] at k1
  refine ⟨a, ns, rfl, SqL.of k1, List.length_pos_of_mem hm, fun m' h1 h2 => ?_⟩
  have e : m' = m := Int.le_antisymm (k m' h1) (h2 m hm)
  rw [e]
  exact q _ H (Evl.Ex.refl H) (.int _)
/-! ### what is walked -/
theorem it_tup {ds : List PyData} (h : ET ρ te (.tuple ds)) : IT ρ (iTup K te) ds := fun σ H S R r => h σ H S _ fun x H1 e1 h1 => by
  cases (show Tp H1 x (.tuple ds) from h1) with
  | @tup a xs _ k1 k2 =>
    refine ⟨a, rfl, ⟨xs, SqT.of k1⟩, r _ H1 e1 fun H' e => ?_⟩
    have k1' := e _ _ k1
    have k2' := k2.mono (Ex.tex e)
    refine ⟨⟨xs, SqT.of k1', by rw [k2'.len]; exact Nat.le_refl _⟩, fun i d hd => ?_⟩
    obtain ⟨v, hv, tv⟩ := k2'.get hd
    refine ⟨⟨xs, v, SqT.of k1', hv⟩, fun x H'' y => ?_⟩
    obtain ⟨rfl, y⟩ := y
    have y := y xs (SqT.of k1')
    rw [hv] at y
    cases y
    exact ⟨Evl.Ex.refl _, tv.hv⟩
theorem it_list {ds : List PyData} (h : ET ρ te (.list ds)) : IT ρ (iList K te) ds := fun σ H S R r => h σ H S _ fun x H1 e1 h1 => by
  obtain ⟨a, xs, rfl, k1, k2⟩ := h1
  refine ⟨a, rfl, ⟨xs, SqL.of k1⟩, r _ H1 e1 fun H' e => ?_⟩
  have k1' := e _ _ k1
  have k2' := k2.mono (Ex.tex e)
  refine ⟨⟨xs, SqL.of k1', by rw [k2'.len]; exact Nat.le_refl _⟩, fun i d hd => ?_⟩
  obtain ⟨v, hv, tv⟩ := k2'.get hd
  refine ⟨⟨xs, v, SqL.of k1', hv⟩, fun x H'' y => ?_⟩
  obtain ⟨rfl, y⟩ := y
  have y := y xs (SqL.of k1')
  rw [hv] at y
  cases y
  exact ⟨Evl.Ex.refl _, tv.hv⟩
def rngD (lo : Int) (n : Nat) : List PyData := (List.range n).map fun i => .int (lo + (i : Nat))
theorem good_range (lo : Int) (n : Nat) (H : Hp) : Good (Itr lo n) (rngD lo n) H := fun H' _ => by
  have hl : (rngD lo n).length = n := by simp [rngD]
  refine ⟨show n ≤ _ by omega, fun i d hd => ?_⟩
  have hi : i < n := by rw [← hl]; exact (List.getElem?_eq_some_iff.mp hd).1
  refine ⟨hi, fun x H'' y => ?_⟩
  obtain ⟨rfl, rfl⟩ := y
  unfold rngD at hd
  rw [List.getElem?_map, List.getElem?_range hi] at hd
  cases hd
  exact ⟨Evl.Ex.refl _, .int _⟩
theorem it_range1 {n : Int} (h : ET ρ te (.int n)) (hn : -1000 ≤ n ∧ n ≤ 1000) : IT ρ (iRng1 (tCons te tNil)) (rngD 0 n.toNat) := fun σ H S R r => ea1 h σ H S _ fun vs H1 e1 h1 => by
  obtain ⟨v, rfl, h2⟩ := hv1 h1
  rw [hv_int h2]
  exact ⟨n, rfl, by omega, by omega, r _ H1 e1 (good_range _ _ _)⟩
theorem it_range2 {lo n : Int} (h : ET ρ ta (.int lo)) (k : ET ρ tb (.int n)) (hn : -1000 ≤ lo ∧ lo ≤ 1000 ∧ -1000 ≤ n ∧ n ≤ 1000) : IT ρ (iRng2 (tCons ta (tCons tb tNil))) (rngD lo (n - lo).toNat) := fun σ H S R r => ea2 h k σ H S _ fun vs H1 e1 h1 => by
  obtain ⟨v, w, rfl, h1, h2⟩ := hv2 h1
  rw [hv_int h1, hv_int h2]
  exact ⟨lo, n, rfl, by omega, r _ H1 e1 (good_range _ _ _)⟩
theorem good_new {go stop : Nat → Hp → Prop} {yv : Nat → Hp → List V → Prop} {l : List PyData} {H : Hp} (h : ∀ H', Ex H H' → stop l.length H' ∧ ∀ (i : Nat) (d : PyData), l[i]? = some d → go i H' ∧ ∀ xs, yv i H' xs → ∃ ds, d = .tuple ds ∧ TpAll H' xs ds) : Good (ItN go stop yv) l H := fun H' e => by
  obtain ⟨h1, h2⟩ := h H' e
  refine ⟨h1, fun i d hd => ⟨(h2 i d hd).1, fun x H'' y => ?_⟩⟩
  obtain ⟨T, xs, rfl, hn, rfl, y⟩ := y
  obtain ⟨ds, rfl, tv⟩ := (h2 i d hd).2 xs y
  have e2 : Ex H' (upd H' T (.tup xs)) := Evl.Ex.new hn
  exact ⟨e2, .tup upd_same (tv.mono (Ex.tex e2))⟩
theorem it_enumT {ds : List PyData} (h : ET ρ te (.tuple ds)) : IT ρ (iEnumT (tCons te tNil)) ((List.range ds.length).map fun i => .tuple [.int (i : Nat), ds.getD i .none]) := fun σ H S R r => ea1 h σ H S _ fun vs H1 e1 h1 => by
  obtain ⟨v, rfl, h2⟩ := hv1 h1
  cases (show Tp H1 v (.tuple ds) from h2) with
  | @tup a xs _ k1 k2 =>
    refine ⟨a, xs, rfl, k1, r _ H1 e1 (good_new fun H' e => ?_)⟩
    have k1' := e _ _ k1
    have k2' := k2.mono (Ex.tex e)
    refine ⟨⟨xs, k1', by simp [k2'.len]⟩, fun i d hd => ?_⟩
    have hi : i < ds.length := by
      have := (List.getElem?_eq_some_iff.mp hd).1
      simpa using this
    rw [List.getElem?_map, List.getElem?_range hi] at hd
    cases hd
    refine ⟨⟨xs, k1', by rw [k2'.len]; exact hi⟩, fun ys y => ?_⟩
    obtain ⟨xs', x, q1, q2, rfl⟩ := y
    rw [k1'] at q1
    cases q1
    obtain ⟨d, q3, q4⟩ := k2'.get' q2
    have q5 : ds.getD i .none = d := by rw [List.getD_eq_getElem?_getD, q3]; rfl
    refine ⟨_, rfl, .cons (.int _) (.cons ?_ .nil)⟩
    rw [q5]
    exact q4
def zip3D : List PyData → List PyData → List PyData → List PyData
  | a :: as, b :: bs, c :: cs => .tuple [a, b, c] :: zip3D as bs cs
  | _, _, _ => []
theorem zip3D_len : ∀ as bs cs : List PyData, (zip3D as bs cs).length = min (min as.length bs.length) cs.length
  | [], _, _ => by simp [zip3D]
  | _ :: _, [], _ => by simp [zip3D]
  | _ :: _, _ :: _, [] => by simp [zip3D]
  | a :: as, b :: bs, c :: cs => by
    have := zip3D_len as bs cs
    simp [zip3D]
    omega
theorem zip3D_get : ∀ {as bs cs : List PyData} {i : Nat} {d : PyData}, (zip3D as bs cs)[i]? = some d → ∃ x y z, as[i]? = some x ∧ bs[i]? = some y ∧ cs[i]? = some z ∧ d = .tuple [x, y, z]
  | [], _, _, i, d, h => by simp [zip3D] at h
  | _ :: _, [], _, i, d, h => by simp [zip3D] at h
  | _ :: _, _ :: _, [], i, d, h => by simp [zip3D] at h
  | a :: as, b :: bs, c :: cs, 0, d, h => by
    have : PyData.tuple [a, b, c] = d := Option.some.inj h
    exact ⟨a, b, c, rfl, rfl, rfl, this.symm⟩
  | a :: as, b :: bs, c :: cs, i + 1, d, h => by
    obtain ⟨x, y, z, h1, h2, h3, h4⟩ := zip3D_get (as := as) (bs := bs) (cs := cs) (i := i) (d := d) (by simpa [zip3D] using h)
    exact ⟨x, y, z, by simpa using h1, by simpa using h2, by simpa using h3, h4⟩
theorem it_zip3 {tc : TE} {as bs cs : List PyData} (h1 : ET ρ ta (.list as)) (h2 : ET ρ tb (.tuple bs)) (h3 : ET ρ tc (.tuple cs)) : IT ρ (iZip3 (tCons ta (tCons tb (tCons tc tNil)))) (zip3D as bs cs) := fun σ H S R r => ea3 h1 h2 h3 σ H S _ fun vs H1 e1 hv => by
  match vs, hv with
  | [u, v, w], hv =>
    obtain ⟨⟨a, xs, rfl, p1, p2⟩, hv2, hv3, _⟩ := hv
    cases (show Tp H1 v (.tuple bs) from hv2) with
    | @tup b ys _ q1 q2 =>
      cases (show Tp H1 w (.tuple cs) from hv3) with
      | @tup c zs _ s1 s2 =>
        refine ⟨a, b, c, xs, ys, zs, rfl, p1, q1, s1, r _ H1 e1 (good_new fun H' e => ?_)⟩
        have p1' := e _ _ p1
        have q1' := e _ _ q1
        have s1' := e _ _ s1
        have p2' := p2.mono (Ex.tex e)
        have q2' := q2.mono (Ex.tex e)
        have s2' := s2.mono (Ex.tex e)
        refine ⟨⟨xs, ys, zs, p1', q1', s1', by rw [zip3D_len, p2'.len, q2'.len, s2'.len]⟩, fun i d hd => ?_⟩
        obtain ⟨x, y, z, g1, g2, g3, rfl⟩ := zip3D_get hd
        refine ⟨⟨xs, ys, zs, p1', q1', s1', by rw [p2'.len]; exact (List.getElem?_eq_some_iff.mp g1).1, by rw [q2'.len]; exact (List.getElem?_eq_some_iff.mp g2).1, by rw [s2'.len]; exact (List.getElem?_eq_some_iff.mp g3).1⟩, fun us yv => ?_⟩
        obtain ⟨xs', ys', zs', x', y', z', m1, m2, m3, m4, m5, m6, rfl⟩ := yv
        rw [p1'] at m1; cases m1
        rw [q1'] at m2; cases m2
        rw [s1'] at m3; cases m3
        obtain ⟨dx, n1, n2⟩ := p2'.get' m4
        obtain ⟨dy, n3, n4⟩ := q2'.get' m5
        obtain ⟨dz, n5, n6⟩ := s2'.get' m6
        rw [g1] at n1; cases n1
        rw [g2] at n3; cases n3
        rw [g3] at n5; cases n5
        exact ⟨_, rfl, .cons n2 (.cons n4 (.cons n6 .nil))⟩
theorem it_zip {as bs : List PyData} (h1 : ET ρ ta (.list as)) (h2 : ET ρ tb (.list bs)) (hl : as.length = bs.length) : IT ρ (iZip K (tCons ta (tCons tb tNil))) ((as.zip bs).map fun p => .tuple [p.1, p.2]) := fun σ H S R r => ea2 h1 h2 σ H S _ fun vs H1 e1 hv => by
  obtain ⟨u, v, rfl, ⟨a, xs, rfl, p1, p2⟩, ⟨b, ys, rfl, q1, q2⟩⟩ := hv2 hv
  refine ⟨a, b, xs, ys, rfl, SqL.of p1, SqL.of q1, r _ H1 e1 fun H' e => ?_⟩
  have p1' := e _ _ p1
  have q1' := e _ _ q1
  have p2' := p2.mono (Ex.tex e)
  have q2' := q2.mono (Ex.tex e)
  refine ⟨⟨xs, ys, SqL.of p1', SqL.of q1', by simp [p2'.len, hl]⟩, fun i d hd => ?_⟩
  rw [List.getElem?_map] at hd
  cases ez : (as.zip bs)[i]? with
  | none => rw [ez] at hd; cases hd
  | some z =>
    rw [ez] at hd
    cases hd
    obtain ⟨g1, g2⟩ := List.getElem?_zip_eq_some.mp ez
    obtain ⟨x, n1, n2⟩ := p2'.get g1
    obtain ⟨y, n3, n4⟩ := q2'.get g2
    refine ⟨⟨xs, ys, x, y, SqL.of p1', SqL.of q1', n1, n3⟩, fun w H'' yv => ?_⟩
    obtain ⟨T, x', y', rfl, hn, rfl, m1, m2⟩ := yv
    have m1 := m1 xs (SqL.of p1')
    have m2 := m2 ys (SqL.of q1')
    rw [n1] at m1; cases m1
    rw [n3] at m2; cases m2
    have e2 : Ex H' (upd H' T (.tup [x, y])) := Evl.Ex.new hn
    exact ⟨e2, .tup upd_same (.cons (n2.mono (Ex.tex e2)) (.cons (n4.mono (Ex.tex e2)) .nil))⟩

/-! ### targets -/
theorem eg_name {vs : List Nat} {d : PyData} {j : Nat} (hj : j ∈ vs) : EG vs (gName j) d ρ (ρ.set j (some d)) := fun σ H x S hx Q q => q _ (S.set j hx) (wipe_set σ j _ hj)
theorem egs_nil {vs : List Nat} : EGs vs gNil [] ρ ρ := fun σ H xs S h Q q => by
  cases h
  exact ⟨rfl, q σ S rfl⟩
theorem egs_cons {vs : List Nat} {g : TG} {gs : TGs} {d : PyData} {ds : List PyData} {ρ1 ρ2 : Env} (h1 : EG vs g d ρ ρ1) (h2 : EGs vs gs ds ρ1 ρ2) : EGs vs (gCons g gs) (d :: ds) ρ ρ2 := fun σ H xs S h Q q => by
  cases h with
  | @cons v r _ _ k1 k2 =>
    refine ⟨v, r, rfl, h1 σ H v S k1.hv _ fun σ1 S1 w1 => ?_⟩
    exact h2 σ1 H r S1 k2 Q fun σ2 S2 w2 => q σ2 S2 (w2.trans w1)
theorem eg_tup {vs : List Nat} {n : Nat} {gs : TGs} {ds : List PyData} {ρ2 : Env} (h : EGs vs gs ds ρ ρ2) (hn : ds.length = n := by rfl) : EG vs (gTup K n gs) (.tuple ds) ρ ρ2 := fun σ H x S hx Q q => by
  cases (show Tp H x (.tuple ds) from hx) with
  | @tup a xs _ k1 k2 => exact ⟨a, xs, rfl, SqT.of k1, by rw [k2.len]; exact hn, h σ H xs S k2 Q q⟩
theorem eg2 {vs : List Nat} {i j : Nat} {d e : PyData} (hi : i ∈ vs) (hj : j ∈ vs) : EG vs (gTup K 2 (gCons (gName i) (gCons (gName j) gNil))) (.tuple [d, e]) ρ ((ρ.set i (some d)).set j (some e)) := eg_tup (egs_cons (eg_name hi) (egs_cons (eg_name hj) egs_nil))
theorem eg3 {vs : List Nat} {i j k : Nat} {d e f : PyData} (hi : i ∈ vs) (hj : j ∈ vs) (hk : k ∈ vs) : EG vs (gTup K 3 (gCons (gName i) (gCons (gName j) (gCons (gName k) gNil)))) (.tuple [d, e, f]) ρ (((ρ.set i (some d)).set j (some e)).set k (some f)) :=
  eg_tup (egs_cons (eg_name hi) (egs_cons (eg_name hj) (egs_cons (eg_name hk) egs_nil)))
/-- (a, b), c -/
theorem eg21 {vs : List Nat} {i j k : Nat} {d e f : PyData} (hi : i ∈ vs) (hj : j ∈ vs) (hk : k ∈ vs) : EG vs (gTup K 2 (gCons (gTup K 2 (gCons (gName i) (gCons (gName j) gNil))) (gCons (gName k) gNil))) (.tuple [.tuple [d, e], f]) ρ (((ρ.set i (some d)).set j (some e)).set k (some f)) :=
  eg_tup (egs_cons (eg2 hi hj) (egs_cons (eg_name hk) egs_nil))
/-- (a, b), c, d -/
theorem eg211 {vs : List Nat} {i j k m : Nat} {d e f h : PyData} (hi : i ∈ vs) (hj : j ∈ vs) (hk : k ∈ vs) (hm : m ∈ vs) :
    EG vs (gTup K 3 (gCons (gTup K 2 (gCons (gName i) (gCons (gName j) gNil))) (gCons (gName k) (gCons (gName m) gNil)))) (.tuple [.tuple [d, e], f, h]) ρ ((((ρ.set i (some d)).set j (some e)).set k (some f)).set m (some h)) :=
  eg_tup (egs_cons (eg2 hi hj) (egs_cons (eg_name hk) (egs_cons (eg_name hm) egs_nil)))
theorem EG.weak {vs : List Nat} {g : TG} {d : PyData} {ρ1 ρ2 : Env} (h : EG vs g d ρ ρ1) (l : Le ρ1 ρ2) : EG vs g d ρ ρ2 := fun σ H x S hx Q q => h σ H x S hx Q fun σ2 S2 w2 => q σ2 (S2.weak l) w2

/-! ### comprehensions -/
theorem et_lc {α : Type} {wi : TI} {g : TG} {vs : List Nat} (xs : List α) (enc : α → PyData) (keep : α → Bool) (val : α → PyData) (hI : IT ρ wi (xs.map enc)) (few : xs.length ≤ 1000)
    (turn : ∀ a ∈ xs, ∃ ρ2, EG vs g (enc a) (wipeD ρ vs) ρ2 ∧ EB ρ2 tt (keep a) ∧ (keep a = true → ET ρ2 te (val a) ∧ NoL (val a))) : ET ρ (tLc wi g tt te vs) (.list ((xs.filter keep).map val)) := fun σ H S Q q => hI σ H S _ fun J H1 e1 good D hD => by
  have base : ∀ H', Ex H1 H' → Sl (wipe σ vs) H' (wipeD ρ vs) := fun H' e => ((S.up e1).up e).wipe vs
  refine ⟨fun i m H' => m = xs.length - i ∧ i ≤ xs.length ∧ Ex H1 H' ∧ ∃ us, H' D = some (.lst us) ∧ TpAll H' us (((xs.take i).filter keep).map val), ⟨xs.length, by simp, Nat.zero_le _, Evl.Ex.new hD, [], upd_same, ?_⟩, ?_⟩
  · simp
    exact TpAll.nil
  rintro i m H' ⟨rfl, hi, eH, us, hD', tu⟩
  obtain ⟨st, go⟩ := good H' eH
  by_cases hlt : i < xs.length
  · refine .inr ?_
    obtain ⟨a, ha⟩ : ∃ a, xs[i]? = some a := ⟨_, List.getElem?_eq_getElem hlt⟩
    obtain ⟨g1, g2⟩ := go i (enc a) (by rw [List.getElem?_map, ha]; rfl)
    refine ⟨g1, fun H'' => Ex H1 H'' ∧ ∃ us, H'' D = some (.lst us) ∧ TpAll H'' us (((xs.take (i + 1)).filter keep).map val), fun H'' n => ⟨xs.length - (i + 1), by omega, rfl, hlt, n⟩, fun x H2 y => ?_⟩
    obtain ⟨e2, hx⟩ := g2 x H2 y
    obtain ⟨ρ2, k1, k2, k3⟩ := turn a (List.mem_of_getElem? ha)
    have tk : xs.take (i + 1) = xs.take i ++ [a] := by rw [List.take_add_one, ha]; rfl
    refine k1 _ H2 x (base H2 (eH.trans e2)) hx _ fun σ2 S2 w2 => ⟨by rw [w2, wipe_idem], ?_⟩
    refine k2 σ2 H2 S2 _ fun H3 e3 => ?_
    have eD : Ex H' H3 := e2.trans e3
    cases hk : keep a with
    | false =>
      rw [if_neg Bool.false_ne_true]
      refine ⟨eH.trans eD, us, eD _ _ hD', ?_⟩
      rw [tk, List.filter_append, List.filter_cons, hk]
      simp only [Bool.false_eq_true, if_false, List.filter_nil, List.append_nil]
      exact tu.mono (Ex.tex eD)
    | true =>
      rw [if_pos rfl]
      obtain ⟨k4, k5⟩ := k3 hk
      refine k4 σ2 H3 (S2.up e3) _ fun v H4 e4 hv => ?_
      have eD4 : Ex H' H4 := eD.trans e4
      refine ⟨us, eD4 _ _ hD', ?_, ?_, us ++ [v], upd_same, ?_⟩
      · have l1 := tu.len
        have l2 := List.length_filter_le keep (xs.take i)
        rw [List.length_map] at l1
        rw [List.length_take] at l2
        rw [l1]
        exact Nat.lt_of_le_of_lt (show _ ≤ 1000 by omega) (by decide)
      · exact (eH.trans eD4).mut hD
      · rw [tk, List.filter_append, List.filter_cons, hk]
        simp only [if_true, List.filter_nil, List.map_append, List.map_cons, List.map_nil]
        have up : TEx H4 (upd H4 D (.lst (us ++ [v]))) := fun b ys hb => by
          rw [upd_ne (ne_of hb (eD4 _ _ hD') (fun z => nomatch z))]
          exact hb
        exact TpAll.snoc (tu.mono fun b ys hb => up b ys (eD4 _ _ hb)) ((k5 H4 v hv).mono up)
  · have e : i = xs.length := by omega
    subst e
    refine .inl ⟨by rw [List.length_map] at st; exact st, q _ H' (e1.trans eH) ⟨D, us, rfl, hD', ?_⟩⟩
    rw [List.take_length] at tu
    exact tu
/-- without a test -/
theorem et_map {α : Type} {wi : TI} {g : TG} {vs : List Nat} (xs : List α) (enc : α → PyData) (val : α → PyData) (hI : IT ρ wi (xs.map enc)) (few : xs.length ≤ 1000)
    (turn : ∀ a ∈ xs, ∃ ρ2, EG vs g (enc a) (wipeD ρ vs) ρ2 ∧ ET ρ2 te (val a) ∧ NoL (val a)) : ET ρ (tLc wi g tYes te vs) (.list (xs.map val)) := by
  have h := et_lc (tt := tYes) (te := te) (g := g) (vs := vs) xs enc (fun _ => true) val hI few fun a ha => by
    obtain ⟨ρ2, h1, h2, h3⟩ := turn a ha
    exact ⟨ρ2, h1, fun σ H S Q q => q H (Evl.Ex.refl H), fun _ => ⟨h2, h3⟩⟩
  rwa [List.filter_eq_self.mpr (fun _ _ => rfl)] at h
theorem Sl.tup {σ : L2.St} {H H' : Hp} {ρ : Env} (h : Sl σ H ρ) (hn : ∀ (i : Nat) (d : PyData), ρ[i]? = some (some d) → NoL d) (e : TEx H H') : Sl σ H' ρ := ⟨h.1, fun i d q => by
  obtain ⟨v, e1, e2⟩ := h.2 i d q
  exact ⟨v, e1, ((hn i d q H v e2).mono e).hv⟩⟩
/-- a walk that no heap disturbs -/
def ITA (ρ : Env) (wi : TI) (l : List PyData) : Prop := ∀ σ H, Sl σ H ρ → ∀ R : It → Hp → Prop, (∀ J H', Ex H H' → (∀ H'', J.stop l.length H'' ∧ ∀ (i : Nat) (d : PyData), l[i]? = some d → J.go i H'' ∧ ∀ x H3, J.yld i H'' x H3 → H3 = H'' ∧ ∀ H4, Hv H4 x d) → R J H') → wi σ H R
theorem ita_range2 {lo n : Int} (h : ET ρ ta (.int lo)) (k : ET ρ tb (.int n)) (hn : -1000 ≤ lo ∧ lo ≤ 1000 ∧ -1000 ≤ n ∧ n ≤ 1000) : ITA ρ (iRng2 (tCons ta (tCons tb tNil))) (rngD lo (n - lo).toNat) := fun σ H S R r => ea2 h k σ H S _ fun vs H1 e1 h1 => by
  obtain ⟨v, w, rfl, h2, h3⟩ := hv2 h1
  rw [hv_int h2, hv_int h3]
  refine ⟨lo, n, rfl, by omega, r _ H1 e1 fun H'' => ?_⟩
  have hl : (rngD lo (n - lo).toNat).length = (n - lo).toNat := by simp [rngD]
  refine ⟨show (n - lo).toNat ≤ _ by omega, fun i d hd => ?_⟩
  have hi : i < (n - lo).toNat := by rw [← hl]; exact (List.getElem?_eq_some_iff.mp hd).1
  refine ⟨hi, fun x H3 y => ?_⟩
  obtain ⟨rfl, rfl⟩ := y
  unfold rngD at hd
  rw [List.getElem?_map, List.getElem?_range hi] at hd
  cases hd
  exact ⟨rfl, fun H4 => .int _⟩
/-- two clauses, no tests -/
theorem et_lc2 {α β : Type} {wi wi1 : TI} {g g1 : TG} {vs vs1 : List Nat} (xs : List α) (enc : α → PyData) (ys : α → List β) (enc1 : α → β → PyData) (val : α → β → PyData) (hI : IT ρ wi (xs.map enc)) (few : (xs.flatMap fun a => (ys a).map (val a)).length ≤ 1000)
    (turn : ∀ a ∈ xs, ∃ ρ2, EG vs g (enc a) (wipeD ρ vs) ρ2 ∧ (∀ (i : Nat) (d : PyData), ρ2[i]? = some (some d) → NoL d) ∧ ITA ρ2 wi1 ((ys a).map (enc1 a)) ∧ ∀ b ∈ ys a, ∃ ρ3, EG vs1 g1 (enc1 a b) (wipeD ρ2 vs1) ρ3 ∧ ET ρ3 te (val a b) ∧ NoL (val a b)) :
    ET ρ (tLc2 wi g tYes wi1 g1 tYes te vs vs1) (.list (xs.flatMap fun a => (ys a).map (val a))) := fun σ H S Q q => hI σ H S _ fun J H1 e1 good D hD => by
  have base : ∀ H', Ex H1 H' → Sl (wipe σ vs) H' (wipeD ρ vs) := fun H' e => ((S.up e1).up e).wipe vs
  refine ⟨fun i m H' => m = xs.length - i ∧ i ≤ xs.length ∧ Ex H1 H' ∧ ∃ us, H' D = some (.lst us) ∧ TpAll H' us ((xs.take i).flatMap fun a => (ys a).map (val a)), ⟨xs.length, by simp, Nat.zero_le _, Evl.Ex.new hD, [], upd_same, ?_⟩, ?_⟩
  · simp
    exact TpAll.nil
  rintro i m H' ⟨rfl, hi, eH, us, hD', tu⟩
  obtain ⟨st, go⟩ := good H' eH
  by_cases hlt : i < xs.length
  · refine .inr ?_
    obtain ⟨a, ha⟩ : ∃ a, xs[i]? = some a := ⟨_, List.getElem?_eq_getElem hlt⟩
    obtain ⟨g0, g2⟩ := go i (enc a) (by rw [List.getElem?_map, ha]; rfl)
    refine ⟨g0, fun H'' => Ex H1 H'' ∧ ∃ us, H'' D = some (.lst us) ∧ TpAll H'' us ((xs.take (i + 1)).flatMap fun a => (ys a).map (val a)), fun H'' n => ⟨xs.length - (i + 1), by omega, rfl, hlt, n⟩, fun x H2 y => ?_⟩
    obtain ⟨e2, hx⟩ := g2 x H2 y
    obtain ⟨ρ2, k1, kn, k2, k3⟩ := turn a (List.mem_of_getElem? ha)
    have tk : xs.take (i + 1) = xs.take i ++ [a] := by rw [List.take_add_one, ha]; rfl
    have lens : ∀ j, j < (ys a).length → ((xs.take i).flatMap fun a => (ys a).map (val a)).length + j < 1000 := fun j hj => by
      have h1 : xs = xs.take i ++ a :: xs.drop (i + 1) := by
        have hi := (List.getElem?_eq_some_iff.mp ha).1
        have hg := (List.getElem?_eq_some_iff.mp ha).2
        rw [← hg, List.getElem_cons_drop, List.take_append_drop]
      have h2 := few
      rw [h1, List.flatMap_append, List.length_append, List.flatMap_cons, List.length_append, List.length_map] at h2
      omega
    -- the slots at this turn, in any heap where the data stand
    refine k1 _ H2 x (base H2 (eH.trans e2)) hx _ fun σ2 S2 w2 => ⟨by rw [w2, wipe_idem], ?_⟩
    dsimp only [tYes]
    rw [if_pos rfl]
    refine k2 σ2 H2 S2 _ fun J1 H3 e3 good1 => ?_
    have eD : Ex H' H3 := e2.trans e3
    have S3 : Sl σ2 H3 ρ2 := S2.up e3
    refine ⟨fun j m H'' => m = (ys a).length - j ∧ j ≤ (ys a).length ∧ Ex H1 H'' ∧ Sl σ2 H'' ρ2 ∧ ∃ us, H'' D = some (.lst us) ∧ TpAll H'' us (((xs.take i).flatMap fun a => (ys a).map (val a)) ++ ((ys a).take j).map (val a)), ⟨(ys a).length, by simp, Nat.zero_le _, eH.trans eD, S3, us, eD _ _ hD', ?_⟩, ?_⟩
    · simp
      simpa using tu.mono (Ex.tex eD)
    rintro j m H4 ⟨rfl, hj, e4, S4, us4, hD4, tu4⟩
    obtain ⟨st1, go1⟩ := good1 H4
    by_cases hjl : j < (ys a).length
    · obtain ⟨b, hb⟩ : ∃ b, (ys a)[j]? = some b := ⟨_, List.getElem?_eq_getElem hjl⟩
      obtain ⟨g3, g4⟩ := go1 j (enc1 a b) (by rw [List.getElem?_map, hb]; rfl)
      obtain ⟨ρ3, m1, m2, m3⟩ := k3 b (List.mem_of_getElem? hb)
      have tk1 : (ys a).take (j + 1) = (ys a).take j ++ [b] := by rw [List.take_add_one, hb]; rfl
      refine .inr ⟨g3, fun H'' => Ex H1 H'' ∧ Sl σ2 H'' ρ2 ∧ ∃ us, H'' D = some (.lst us) ∧ TpAll H'' us (((xs.take i).flatMap fun a => (ys a).map (val a)) ++ ((ys a).take (j + 1)).map (val a)), fun H'' n => ⟨(ys a).length - (j + 1), by omega, rfl, hjl, n⟩, fun x H5 y => ?_⟩
      obtain ⟨rfl, hx5⟩ := g4 x H5 y
      refine m1 _ H5 x (S4.wipe vs1) (hx5 H5) _ fun σ3 S5 w3 => ⟨by rw [w3, wipe_idem], ?_⟩
      rw [if_pos rfl]
      refine m2 σ3 H5 S5 _ fun v H6 e6 hv => ?_
      refine ⟨us4, e6 _ _ hD4, ?_, ?_⟩
      · have l1 := tu4.len
        rw [List.length_append, List.length_map, List.length_take] at l1
        have := lens j hjl
        rw [l1]
        exact Nat.lt_of_le_of_lt (show _ ≤ 1000 by omega) (by decide)
      · have up : TEx H6 (upd H6 D (.lst (us4 ++ [v]))) := fun c zs hc => by
          rw [upd_ne (ne_of hc (e6 _ _ hD4) (fun z => nomatch z))]
          exact hc
        refine ⟨(e4.trans e6).mut hD, ?_, us4 ++ [v], upd_same, ?_⟩
        · exact (S4.up e6).tup kn up
        · rw [tk1, List.map_append, ← List.append_assoc]
          exact TpAll.snoc (tu4.mono fun c zs hc => up c zs (e6 _ _ hc)) ((m3 H6 v hv).mono up)
    · have e : j = (ys a).length := by omega
      subst e
      refine .inl ⟨by rw [List.length_map] at st1; exact st1, e4, us4, hD4, ?_⟩
      rw [List.take_length] at tu4
      rw [tk, List.flatMap_append, List.flatMap_cons, List.flatMap_nil, List.append_nil]
      exact tu4
  · have e : i = xs.length := by omega
    subst e
    refine .inl ⟨by rw [List.length_map] at st; exact st, q _ H' (e1.trans eH) ⟨D, us, rfl, hD', ?_⟩⟩
    rw [List.take_length] at tu
    exact tu
end
end K68

namespace K68
open PySem PySem.Spec PyProof.Rows L2
open Evl (Ex)
section
variable {ρ : Env} {ta tb te : TE} {tt tu : TT} {K : PySem.W.Frag}
/-! ### slices, + and * of tuples and lists -/
theorem cut_eq {α : Type} (xs : List α) (lo hi : Nat) : (xs.drop (min lo xs.length)).take (min hi xs.length - min lo xs.length) = (xs.drop lo).take (hi - lo) := by
  refine List.ext_getElem? fun i => ?_
  rw [List.getElem?_take, List.getElem?_take, List.getElem?_drop, List.getElem?_drop]
  by_cases h1 : lo ≤ xs.length
  · rw [Nat.min_eq_left h1]
    by_cases h2 : hi ≤ xs.length
    · rw [Nat.min_eq_left h2]
    · rw [Nat.min_eq_right (by omega)]
      by_cases h3 : i < xs.length - lo
      · rw [if_pos h3, if_pos (by omega)]
      · rw [if_neg h3]
        split
        · rw [List.getElem?_eq_none (by omega)]
        · rfl
  · rw [if_neg (by omega)]
    split
    · rw [List.getElem?_eq_none (by omega)]
    · rfl
theorem cutV_nat (xs : List V) (lo hi : Nat) : cutV xs (some (lo : Int)) (some (hi : Int)) = (xs.drop lo).take (hi - lo) := by
  unfold cutV
  rw [HT.sIx_nat, HT.sIx_nat]
  exact cut_eq xs lo hi
theorem et_slT {tl th : TE} {ds : List PyData} {lo hi : Nat} (h : ET ρ ta (.tuple ds)) (hl : ET ρ tl (.int (lo : Nat))) (hh : ET ρ th (.int (hi : Nat))) : ET ρ (tSl (rSlA K) ta (tPart tl) (tPart th)) (.tuple ((ds.drop lo).take (hi - lo))) := fun σ H S Q q =>
  h σ H S _ fun x H1 e1 h1 => hl σ H1 (S.up e1) _ fun y H2 e2 h2 => ⟨lo, hv_int h2, hh σ H2 ((S.up e1).up e2) _ fun z H3 e3 h3 => ⟨hi, hv_int h3, by
    have e23 := e2.trans e3
    cases (show Tp H3 x (.tuple ds) from h1.up e23) with
    | @tup a xs _ k1 k2 =>
      have k3 : TpAll H3 ((xs.drop lo).take (hi - lo)) ((ds.drop lo).take (hi - lo)) := (k2.drop lo).take (hi - lo)
      refine ⟨a, xs, rfl, SqT.of k1, fun c => q _ H3 (e1.trans e23) ?_, fun _ p hp => ?_⟩
      · rw [HT.sIx_nat, HT.sIx_nat] at c
        have ex : (xs.drop lo).take (hi - lo) = xs := by
          rw [← cut_eq, c.1, c.2]; simp
        rw [ex] at k3
        exact .tup k1 k3
      · have e4 : Ex H3 (upd H3 p (.tup (cutV xs (some (lo : Int)) (some (hi : Int))))) := Evl.Ex.new hp
        refine q _ _ ((e1.trans e23).trans e4) (.tup upd_same ?_)
        rw [cutV_nat]
        rw [cutV_nat] at e4
        exact k3.mono (Ex.tex e4)⟩⟩
theorem et_catT {ds es : List PyData} (h1 : ET ρ ta (.tuple ds)) (h2 : ET ρ tb (.tuple es)) (few : ds.length + es.length ≤ 1000) : ET ρ (tOp (rCatA K) ta tb) (.tuple (ds ++ es)) := fun σ H S Q q =>
  h1 σ H S _ fun x H1 e1 x1 => h2 σ H1 (S.up e1) _ fun y H2 e2 x2 => by
    cases (show Tp H2 x (.tuple ds) from x1.up e2) with
    | @tup a xs _ k1 k2 =>
      cases (show Tp H2 y (.tuple es) from x2) with
      | @tup b ys _ m1 m2 =>
        have e12 := e1.trans e2
        have lx := k2.len
        have ly := m2.len
        refine ⟨a, b, xs, ys, rfl, rfl, SqT.of k1, SqT.of m1, small1k (by omega), fun z => q _ H2 e12 ?_, fun _ z => q _ H2 e12 ?_, fun _ _ p hp => ?_⟩
        · rw [z] at k2
          cases k2
          exact .tup m1 m2
        · rw [z] at m2
          cases m2
          rw [List.append_nil]
          exact .tup k1 k2
        · exact q _ _ (e12.trans (Evl.Ex.new hp)) (.tup upd_same ((k2.app m2).mono (Ex.tex (Evl.Ex.new hp))))
theorem rep_flat {α : Type} (a : α) : ∀ n : Nat, (List.replicate n [a]).flatten = List.replicate n a
  | 0 => rfl
  | n + 1 => by rw [List.replicate_succ, List.replicate_succ, List.flatten_cons, rep_flat a n]; rfl
theorem TpAll.rep {H : Hp} {v : V} {d : PyData} (h : Tp H v d) : ∀ n : Nat, TpAll H (List.replicate n v) (List.replicate n d)
  | 0 => .nil
  | n + 1 => .cons h (TpAll.rep h n)
theorem et_repT {d : PyData} {n : Nat} (h1 : ET ρ ta (.tuple [d])) (h2 : ET ρ tb (.int (n : Nat))) (few : n ≤ 1000) : ET ρ (tOp (fun x y H Q => rRepT K x y H Q ∨ rRep01 x y H Q) ta tb) (.tuple (List.replicate n d)) := fun σ H S Q q =>
  h1 σ H S _ fun x H1 e1 x1 => h2 σ H1 (S.up e1) _ fun y H2 e2 x2 => by
    have e12 := e1.trans e2
    rw [hv_int x2]
    cases (show Tp H2 x (.tuple [d]) from x1.up e2) with
    | @tup a xs _ k1 k2 =>
      match xs, k2 with
      | [v], k2 =>
        cases k2 with
        | cons t _ =>
          by_cases hn : 2 ≤ n
          · refine .inl ⟨a, n, [v], rfl, rfl, SqT.of k1, (fun z => nomatch z), by omega, by omega, by show 1 ≤ 1000; omega, fun p hp => ?_⟩
            have e3 : Ex H2 (upd H2 p (.tup (List.replicate n v))) := Evl.Ex.new hp
            rw [Int.toNat_natCast, rep_flat]
            exact q _ _ (e12.trans e3) (.tup upd_same ((TpAll.rep t n).mono (Ex.tex e3)))
          · refine .inr ⟨a, [v], rfl, k1, (fun z => nomatch z), ?_⟩
            by_cases h0 : n = 0
            · subst h0
              refine .inl ⟨rfl, fun p hp => q _ _ (e12.trans (Evl.Ex.new hp)) (.tup upd_same .nil)⟩
            · have h1 : n = 1 := by omega
              subst h1
              exact .inr ⟨rfl, q _ H2 e12 (.tup k1 (.cons t .nil))⟩
theorem et_repL {d : PyData} {n : Nat} (h1 : ET ρ ta (.list [d])) (h2 : ET ρ tb (.int (n : Nat))) (few : n ≤ 1000) : ET ρ (tOp rRep ta tb) (.list (List.replicate n d)) := fun σ H S Q q =>
  h1 σ H S _ fun x H1 e1 x1 => h2 σ H1 (S.up e1) _ fun y H2 e2 x2 => by
    have e12 := e1.trans e2
    rw [hv_int x2]
    obtain ⟨a, xs, rfl, k1, k2⟩ := x1.up e2
    match xs, k2 with
    | [v], k2 =>
      cases k2 with
      | cons t _ =>
        refine ⟨a, n, [v], rfl, rfl, k1, by omega, by omega, small1k (by rw [Int.toNat_natCast]; simpa using few), fun p hp => ?_⟩
        have e3 : Ex H2 (upd H2 p (.lst (List.replicate n v))) := Evl.Ex.new hp
        rw [Int.toNat_natCast, rep_flat]
        exact q _ _ (e12.trans e3) ⟨p, _, rfl, upd_same, (TpAll.rep t n).mono (Ex.tex e3)⟩
theorem et_catL {ds es : List PyData} (h1 : ET ρ ta (.list ds)) (h2 : ET ρ tb (.list es)) (few : ds.length + es.length ≤ 1000) : ET ρ (tOp rCat ta tb) (.list (ds ++ es)) := fun σ H S Q q =>
  h1 σ H S _ fun x H1 e1 x1 => h2 σ H1 (S.up e1) _ fun y H2 e2 x2 => by
    obtain ⟨a, xs, rfl, k1, k2⟩ := x1.up e2
    obtain ⟨b, ys, rfl, m1, m2⟩ := x2
    have lx := k2.len
    have ly := m2.len
    refine ⟨a, b, xs, ys, rfl, rfl, k1, m1, small1k (by omega), fun p hp => ?_⟩
    exact q _ _ ((e1.trans e2).trans (Evl.Ex.new hp)) ⟨p, _, rfl, upd_same, (k2.app m2).mono (Ex.tex (Evl.Ex.new hp))⟩
theorem opts_v {H : Hp} : ∀ {vs : List V} {rs : List (Option Int)}, TpAll H vs (rs.map encO) → vs = rs.map vO
  | _, [], h => by cases h; rfl
  | _, r :: rs, h => by
    cases h with
    | cons h1 h2 => rw [opts_v h2, hv_o h1.hv]; rfl
/-- None in a list of ints and None -/
theorem et_nin {rs : List (Option Int)} (h1 : ET ρ ta .none) (h2 : ET ρ tb (.list (rs.map encO))) : ET ρ (tOp (rIn K false) ta tb) (.bool (rs.any Option.isNone)) := fun σ H S Q q =>
  h1 σ H S _ fun x H1 e1 x1 => h2 σ H1 (S.up e1) _ fun y H2 e2 x2 => by
    rw [hv_none x1]
    obtain ⟨a, xs, rfl, k1, k2⟩ := x2
    rw [opts_v k2] at k1
    refine ⟨a, _, rfl, .inl (SqL.of k1), rfl, ?_, ?_⟩
    · rw [List.all_eq_true]
      intro z hz
      obtain ⟨r, _, rfl⟩ := List.mem_map.mp hz
      cases r <;> rfl
    · have e : inV .non (rs.map vO) = rs.any Option.isNone := by
        unfold inV
        rw [List.any_map]
        congr 1
        funext r
        cases r <;> rfl
      show Q (.bl (if false = true then _ else inV .non (rs.map vO))) H2
      rw [if_neg Bool.false_ne_true, e]
      exact q _ H2 (e1.trans e2) (.bl _)
/-! ### isinstance -/
def tyD : PyData → String
  | .none => "NoneType"
  | .bool _ => "bool"
  | .int _ => "int"
  | .str _ => "str"
  | .tuple _ => "tuple"
  | .list _ => "list"
  | .dict _ => "dict"
theorem hv_ty {H : Hp} : ∀ {d : PyData} {v : V}, Hv H v d → TyX K H v (.type (tyD d))
  | .none, _, h => by rw [hv_none h]; exact .base .non
  | .bool b, _, h => by rw [hv_bool h]; exact .base (.bl b)
  | .int i, _, h => by rw [hv_int h]; exact .base (.int i)
  | .str x, _, h => by cases (show Tp H _ (.str x) from h)
  | .tuple ds, _, h => by
    cases (show Tp H _ (.tuple ds) from h) with
    | tup k1 k2 => exact .base (.tup k1)
  | .list ds, _, h => by obtain ⟨a, xs, rfl, k1, _⟩ := h; exact .base (.lst k1)
  | .dict kvs, _, h => by obtain ⟨a, rfl, k1⟩ := h; exact .base (.dT k1)
theorem et_isi {d : PyData} {c : String} {b : Bool} (h : ET ρ te d) (hk : kitB (tyD d) c = some b) : ET ρ (tCB (rIsi K) (tCons te (tCons (tC (.ty c)) tNil))) (.bool b) := fun σ H S Q q => h σ H S _ fun v H1 e1 hv =>
  ⟨v, .ty c, _, _, b, rfl, .ty c, hv_ty hv, kit_ty hk, q _ H1 e1 (.bl _)⟩
/-- of a tuple of two classes -/
theorem et_isi2 {d : PyData} {c1 c2 : String} {b1 b2 : Bool} (h : ET ρ te d) (h1 : kitB (tyD d) c1 = some b1) (h2 : kitB (tyD d) c2 = some b2) : ET ρ (tCB (rIsiT K) (tCons te (tCons (tTup (tCons (tC (.ty c1)) (tCons (tC (.ty c2)) tNil))) tNil))) (.bool (b1 || b2)) := fun σ H S Q q => h σ H S _ fun v H1 e1 hv =>
  ⟨by show 2 ≤ sizeLine; decide, fun p hp => by
    have e2 : Ex H1 (upd H1 p (.tup [.ty c1, .ty c2])) := Evl.Ex.new hp
    refine ⟨v, p, [.ty c1, .ty c2], _, [.type c1, .type c2], b1 || b2, rfl, upd_same, .cons (.ty c1) (.cons (.ty c2) .nil), hv_ty (hv.up e2), ?_, q _ _ (e1.trans e2) (.bl _)⟩
    refine kitAny_cons (kit_ty h1) (fun z => ?_) (fun z => by rw [z]; rfl)
    rw [z, Bool.false_or]
    exact kitAny_cons (kit_ty h2) (fun z => by rw [z]; rfl) (fun z => z)⟩
/-! ### a dict's items -/
/-- the dict of windows and their work -/
def dictD (l : List Er) : PyData := .dict (l.map fun e => (.tuple [.int (e.1.1 : Nat), .int (e.1.2 : Nat)], .int e.2))
def winD (w : Win) : PyData := .tuple [.int (w.1 : Nat), .int (w.2 : Nat)]
def winK (w : Win) : List Key := [.inl (w.1 : Nat), .inl (w.2 : Nat)]
def rowE (e : Er) : List Key × V := (winK e.1, .int e.2)
def erD (e : Er) : PyData := .tuple [winD e.1, .int e.2]
theorem dict_rows (l : List Er) : (l.map fun e => ((.tuple [.int (e.1.1 : Nat), .int (e.1.2 : Nat)] : PyData), (.int e.2 : PyData))).map rowOf = l.map rowE := by rw [List.map_map]; rfl
theorem lc_raw {α : Type} {g : TG} {vs : List Nat} {σ : L2.St} {H : Hp} {Q : VK} {J : It} (xs : List α) (enc : α → PyData) (keep : α → Bool) (val : α → PyData) (S : Sl σ H ρ) (good : Good J (xs.map enc) H) (few : xs.length ≤ 1000)
    (turn : ∀ a ∈ xs, ∃ ρ2, EG vs g (enc a) (wipeD ρ vs) ρ2 ∧ EB ρ2 tt (keep a) ∧ (keep a = true → ET ρ2 te (val a) ∧ NoL (val a)))
    (q : ∀ v H', Ex H H' → Hv H' v (.list ((xs.filter keep).map val)) → Q v H') : ∀ D, H D = none → ∃ W : Nat → Nat → Hp → Prop, (∃ m, W 0 m (upd H D (.lst []))) ∧ ∀ i m H', W i m H' →
      (J.stop i H' ∧ Q (.ref D) H') ∨ (J.go i H' ∧ ∃ N : Hp → Prop, (∀ H'', N H'' → ∃ m', m' < m ∧ W (i + 1) m' H'') ∧ ∀ x H'', J.yld i H' x H'' → g x (wipe σ vs) H'' fun σ2 H2 => wipe σ2 vs = wipe σ vs ∧ tt σ2 H2 fun b H3 => if b = true then te σ2 H3 fun y H4 => ∃ acc, H4 D = some (.lst acc) ∧ acc.length < sizeLine ∧ N (upd H4 D (.lst (acc ++ [y]))) else N H3) := fun D hD => by
  have base : ∀ H', Ex H H' → Sl (wipe σ vs) H' (wipeD ρ vs) := fun H' e => (S.up e).wipe vs
  refine ⟨fun i m H' => m = xs.length - i ∧ i ≤ xs.length ∧ Ex H H' ∧ ∃ us, H' D = some (.lst us) ∧ TpAll H' us (((xs.take i).filter keep).map val), ⟨xs.length, by simp, Nat.zero_le _, Evl.Ex.new hD, [], upd_same, ?_⟩, ?_⟩
  · simp
    exact TpAll.nil
  rintro i m H' ⟨rfl, hi, eH, us, hD', tu⟩
  obtain ⟨st, go⟩ := good H' eH
  by_cases hlt : i < xs.length
  · refine .inr ?_
    obtain ⟨a, ha⟩ : ∃ a, xs[i]? = some a := ⟨_, List.getElem?_eq_getElem hlt⟩
    obtain ⟨g1, g2⟩ := go i (enc a) (by rw [List.getElem?_map, ha]; rfl)
    refine ⟨g1, fun H'' => Ex H H'' ∧ ∃ us, H'' D = some (.lst us) ∧ TpAll H'' us (((xs.take (i + 1)).filter keep).map val), fun H'' n => ⟨xs.length - (i + 1), by omega, rfl, hlt, n⟩, fun x H2 y => ?_⟩
    obtain ⟨e2, hx⟩ := g2 x H2 y
    obtain ⟨ρ2, k1, k2, k3⟩ := turn a (List.mem_of_getElem? ha)
    have tk : xs.take (i + 1) = xs.take i ++ [a] := by rw [List.take_add_one, ha]; rfl
    refine k1 _ H2 x (base H2 (eH.trans e2)) hx _ fun σ2 S2 w2 => ⟨by rw [w2, wipe_idem], ?_⟩
    refine k2 σ2 H2 S2 _ fun H3 e3 => ?_
    have eD : Ex H' H3 := e2.trans e3
    cases hk : keep a with
    | false =>
      rw [if_neg Bool.false_ne_true]
      refine ⟨eH.trans eD, us, eD _ _ hD', ?_⟩
      rw [tk, List.filter_append, List.filter_cons, hk]
      simp only [Bool.false_eq_true, if_false, List.filter_nil, List.append_nil]
      exact tu.mono (Ex.tex eD)
    | true =>
      rw [if_pos rfl]
      obtain ⟨k4, k5⟩ := k3 hk
      refine k4 σ2 H3 (S2.up e3) _ fun v H4 e4 hv => ?_
      have eD4 : Ex H' H4 := eD.trans e4
      refine ⟨us, eD4 _ _ hD', ?_, ?_, us ++ [v], upd_same, ?_⟩
      · have l1 := tu.len
        have l2 := List.length_filter_le keep (xs.take i)
        rw [List.length_map] at l1
        rw [List.length_take] at l2
        rw [l1]
        exact Nat.lt_of_le_of_lt (show _ ≤ 1000 by omega) (by decide)
      · exact (eH.trans eD4).mut hD
      · rw [tk, List.filter_append, List.filter_cons, hk]
        simp only [if_true, List.filter_nil, List.map_append, List.map_cons, List.map_nil]
        have up : TEx H4 (upd H4 D (.lst (us ++ [v]))) := fun b ys hb => by
          rw [upd_ne (ne_of hb (eD4 _ _ hD') (fun z => nomatch z))]
          exact hb
        exact TpAll.snoc (tu.mono fun b ys hb => up b ys (eD4 _ _ hb)) ((k5 H4 v hv).mono up)
  · have e : i = xs.length := by omega
    subst e
    refine .inl ⟨by rw [List.length_map] at st; exact st, q _ H' eH ⟨D, us, rfl, hD', ?_⟩⟩
    rw [List.take_length] at tu
    exact tu
theorem good_items {d : Addr} {o : Obj} (l : List Er) {H1 : Hp} : Good (ItIT d o (l.map rowE)) (l.map erD) (upd H1 d (.frz o (.dT (l.map rowE)))) := good_new fun H' e3 => by
  have k1 : H' d = some (.frz o (.dT (l.map rowE))) := e3 d _ upd_same
  refine ⟨⟨k1, by rw [List.length_map, List.length_map]⟩, fun i dd hd => ?_⟩
  rw [List.getElem?_map] at hd
  cases he : l[i]? with
  | none => rw [he] at hd; cases hd
  | some en =>
    rw [he] at hd
    cases hd
    refine ⟨⟨k1, by rw [List.length_map]; exact (List.getElem?_eq_some_iff.mp he).1⟩, fun xs y => ?_⟩
    obtain ⟨k, v, q, q1, q2, q3⟩ := y
    rw [List.getElem?_map, he] at q1
    cases q1
    subst q2
    exact ⟨[winD en.1, .int en.2], rfl, .cons (.tup q3 (.cons (.int _) (.cons (.int _) .nil))) (.cons (.int _) .nil)⟩
/-- the items of a dict that is new since H0 -/
theorem lc_items {g : TG} {vs : List Nat} {σ : L2.St} {H0 H1 : Hp} {Q : VK} {d : Addr} {l : List Er} (keep : Er → Bool) (val : Er → PyData) (S : Sl σ H0 ρ) (e : Ex H0 H1) (hn : H0 d = none) (hd : H1 d = some (.dT (l.map rowE))) (few : l.length ≤ 1000)
    (turn : ∀ a ∈ l, ∃ ρ2, EG vs g (erD a) (wipeD ρ vs) ρ2 ∧ EB ρ2 tt (keep a) ∧ (keep a = true → ET ρ2 te (val a) ∧ NoL (val a)))
    (q : ∀ v H', Ex H0 H' → Hv H' v (.list ((l.filter keep).map val)) → Q v H') {td : TE} {H : Hp} (ht : ∀ Q : VK, Q (.ref d) H1 → td σ H Q) : tLc (iItemsT td) g tt te vs σ H Q := ht _ ⟨d, _, rfl, hd, fun o => by
  have e2 : Ex H0 (upd H1 d (.frz o (.dT (l.map rowE)))) := e.mut hn
  exact lc_raw (ρ := ρ) l erD keep val (S.up e2) (good_items l) few turn fun v H' e3 hv => q v H' (e2.trans e3) hv⟩
end
end K68

namespace K68
open PySem PySem.Spec PyProof.Rows L2
open Evl (Ex)
/-- a statement: from what is known to N, or it returns what R says -/
def OT (ρ : Env) (t : TS) (N : Env → Prop) (R : PyData → Prop) : Prop := ∀ σ H, Sl σ H ρ → ∀ D : Ends, (∀ ρ' σ' H', N ρ' → Ex H H' → Sl σ' H' ρ' → D.nx σ' H') → (∀ d v H', R d → Ex H H' → Hv H' v d → D.rt v H') → t D σ H
section
variable {ρ : Env} {ta tb te : TE} {tt tu : TT} {t u : TS} {K : PySem.W.Frag} {N M : Env → Prop} {R : PyData → Prop}
theorem ot_ret {d : PyData} (h : ET ρ te d) (r : R d) : OT ρ (tRet te) N R := fun σ H S D n k => h σ H S _ fun v H' e hv => k d v H' r e hv
theorem ot_nx (h : N ρ) : OT ρ tNext N R := fun σ H S D n k => n ρ σ H h (Evl.Ex.refl H) S
theorem ot_asg {i : Nat} {d : PyData} (h : ET ρ te d) (n : N (ρ.set i (some d))) : OT ρ (tAsg te (gName i)) N R := fun σ H S D nx k => h σ H S _ fun v H' e hv => nx _ _ H' n e ((S.up e).set i hv)
theorem ot_asgG {vs : List Nat} {g : TG} {d : PyData} {ρ2 : Env} (h : ET ρ te d) (hg : EG vs g d ρ ρ2) (n : N ρ2) : OT ρ (tAsg te g) N R := fun σ H S D nx k => h σ H S _ fun v H' e hv => hg σ H' v (S.up e) hv _ fun σ2 S2 _ => nx _ _ H' n e S2
theorem ot_par {i j : Nat} {ta : TA} {d e : PyData} (h : EA ρ ta [d, e]) (n : N ((ρ.set i (some d)).set j (some e))) : OT ρ (tPar i j ta) N R := fun σ H S D nx k => h σ H S _ fun vs H' e' hv => by
  obtain ⟨v, w, rfl, h1, h2⟩ := hv2 hv
  exact ⟨v, w, rfl, nx _ _ H' n e' (((S.up e').set i h1).set j h2)⟩
theorem ot_seq (h : OT ρ t M R) (k : ∀ ρ', M ρ' → OT ρ' u N R) : OT ρ (tSeq t u) N R := fun σ H S D nx r =>
  h σ H S { D with nx := u D } (fun ρ' σ' H' m e S' => k ρ' m σ' H' S' D (fun ρ2 σ2 H2 n e2 S2 => nx ρ2 σ2 H2 n (e.trans e2) S2) fun d v H2 q e2 hv => r d v H2 q (e.trans e2) hv) r
/-- an assignment, then the rest -/
theorem ot_let {i : Nat} {d : PyData} (h : ET ρ te d) (k : OT (ρ.set i (some d)) u N R) : OT ρ (tSeq (tAsg te (gName i)) u) N R := ot_seq (M := fun ρ' => ρ' = ρ.set i (some d)) (ot_asg h rfl) fun ρ' e => e ▸ k
theorem ot_letG {vs : List Nat} {g : TG} {d : PyData} {ρ2 : Env} (h : ET ρ te d) (hg : EG vs g d ρ ρ2) (k : OT ρ2 u N R) : OT ρ (tSeq (tAsg te g) u) N R := ot_seq (M := fun ρ' => ρ' = ρ2) (ot_asgG h hg rfl) fun ρ' e => e ▸ k
theorem ot_let2 {i j : Nat} {ta : TA} {d e : PyData} (h : EA ρ ta [d, e]) (k : OT ((ρ.set i (some d)).set j (some e)) u N R) : OT ρ (tSeq (tPar i j ta) u) N R := ot_seq (M := fun ρ' => ρ' = (ρ.set i (some d)).set j (some e)) (ot_par h rfl) fun ρ' e => e ▸ k
theorem ot_drop {d : PyData} (h : ET ρ te d) (n : N ρ) : OT ρ (tDrop te) N R := fun σ H S D nx k => h σ H S _ fun v H' e hv => nx _ _ H' n e (S.up e)
theorem ot_do {d : PyData} (h : ET ρ te d) (k : OT ρ u N R) : OT ρ (tSeq (tDrop te) u) N R := ot_seq (M := fun ρ' => ρ' = ρ) (ot_drop h rfl) fun ρ' e => e ▸ k
theorem ot_if {b : Bool} (h : EB ρ tt b) (h1 : b = true → OT ρ t N R) (h2 : b = false → OT ρ u N R) : OT ρ (tIfS tt t u) N R := fun σ H S D nx k => h σ H S _ fun H1 e1 => by
  cases b
  · rw [if_neg Bool.false_ne_true]
    exact h2 rfl σ H1 (S.up e1) D (fun ρ' σ' H' m e S' => nx ρ' σ' H' m (e1.trans e) S') fun d v H2 q e2 hv => k d v H2 q (e1.trans e2) hv
  · rw [if_pos rfl]
    exact h1 rfl σ H1 (S.up e1) D (fun ρ' σ' H' m e S' => nx ρ' σ' H' m (e1.trans e) S') fun d v H2 q e2 hv => k d v H2 q (e1.trans e2) hv
/-- if b: return .. -/
theorem ot_ifr {b : Bool} (h : EB ρ tt b) (h1 : b = true → OT ρ t (fun _ => False) R) (h2 : b = false → OT ρ u N R) : OT ρ (tSeq (tIfS tt t tNext) u) N R :=
  ot_seq (M := fun ρ' => ρ' = ρ ∧ b = false) (ot_if h (fun e => fun σ H S D nx k => h1 e σ H S D (fun _ _ _ z => z.elim) k) fun e => ot_nx ⟨rfl, e⟩) fun ρ' e => by
    obtain ⟨rfl, e⟩ := e
    exact h2 e
theorem ot_imp {M' : Env → Prop} (h : OT ρ t M R) (k : ∀ ρ', M ρ' → M' ρ') : OT ρ t M' R := fun σ H S D nx r => h σ H S D (fun ρ' σ' H' m e S' => nx ρ' σ' H' (k ρ' m) e S') r
theorem OT.weak {ρ' : Env} (h : OT ρ' t N R) (l : Le ρ ρ') : OT ρ t N R := fun σ H S D n q => h σ H (S.weak l) D n q
theorem ot_aug {i : Nat} {f : Int → Int → Int} {a b : Int} (hx : ρ[i]? = some (some (.int a))) (h : ET ρ te (.int b)) (n : N (ρ.set i (some (.int (f a b))))) : OT ρ (tAug i te (ipI f)) N R := fun σ H S D nx k => by
  obtain ⟨v, e1, e2⟩ := S.2 i _ hx
  rw [hv_int e2] at e1
  exact ⟨_, e1, h σ H S _ fun w H' e hw => ⟨a, b, rfl, hv_int hw, nx _ _ H' n e ((S.up e).set i (.int _))⟩⟩
/-- a loop -/
theorem ot_for {wi : TI} {g : TG} {vs : List Nat} {l : List PyData} (Inv : Nat → Env → Prop) (hI : IT ρ wi l) (h0 : Inv 0 ρ) (hs : ∀ (i : Nat) (d : PyData) (ρ' : Env), l[i]? = some d → Inv i ρ' → ∃ ρ2, EG vs g d ρ' ρ2 ∧ OT ρ2 t (Inv (i + 1)) R) (hd : ∀ ρ', Inv l.length ρ' → N ρ') : OT ρ (tFor wi g t) N R := fun σ H S D nx k =>
  hI σ H S _ fun J H1 e1 good => by
    refine ⟨fun i m σ' H' => m = l.length - i ∧ i ≤ l.length ∧ Ex H1 H' ∧ ∃ ρ', Inv i ρ' ∧ Sl σ' H' ρ', ⟨l.length, by simp, Nat.zero_le _, Evl.Ex.refl _, ρ, h0, S.up e1⟩, ?_⟩
    rintro i m σ' H' ⟨rfl, hi, eH, ρ', iv, S'⟩
    obtain ⟨st, go⟩ := good H' eH
    by_cases hlt : i < l.length
    · obtain ⟨d, hdd⟩ : ∃ d, l[i]? = some d := ⟨_, List.getElem?_eq_getElem hlt⟩
      obtain ⟨g1, g2⟩ := go i d hdd
      refine .inr ⟨g1, fun σ2 H2 => Ex H1 H2 ∧ ∃ ρ', Inv (i + 1) ρ' ∧ Sl σ2 H2 ρ', fun σ2 H2 n => ⟨l.length - (i + 1), by omega, rfl, hlt, n⟩, fun x H2 y => ?_⟩
      obtain ⟨e2, hx⟩ := g2 x H2 y
      obtain ⟨ρ2, k1, k2⟩ := hs i d ρ' hdd iv
      refine k1 σ' H2 x (S'.up e2) hx _ fun σ3 S3 _ => ?_
      exact k2 σ3 H2 S3 _ (fun ρ4 σ4 H4 iv4 e4 S4 => ⟨(eH.trans e2).trans e4, ρ4, iv4, S4⟩) fun d v H5 q e5 hv => k d v H5 q (((e1.trans eH).trans e2).trans e5) hv
    · have e : i = l.length := by omega
      subst e
      exact .inl ⟨st, nx ρ' σ' H' (hd ρ' iv) (e1.trans eH) S'⟩
theorem ot_while (Inv : Nat → Env → Prop) {m : Nat} (h0 : Inv m ρ) (hs : ∀ (m : Nat) (ρ' : Env), Inv m ρ' → ∃ b, EB ρ' tt b ∧ (b = true → OT ρ' t (fun ρ2 => ∃ m', m' < m ∧ Inv m' ρ2) R) ∧ (b = false → N ρ')) : OT ρ (tWhile tt t) N R := fun σ H S D nx k => by
  refine ⟨fun m σ' H' => Ex H H' ∧ ∃ ρ', Inv m ρ' ∧ Sl σ' H' ρ', ⟨m, Evl.Ex.refl _, ρ, h0, S⟩, ?_⟩
  rintro m σ' H' ⟨e, ρ', iv, S'⟩
  obtain ⟨b, h1, h2, h3⟩ := hs m ρ' iv
  refine h1 σ' H' S' _ fun H1 e1 => ?_
  cases b
  · rw [if_neg Bool.false_ne_true]
    exact nx ρ' σ' H1 (h3 rfl) (e.trans e1) (S'.up e1)
  · rw [if_pos rfl]
    refine ⟨fun σ2 H2 => ∃ m', m' < m ∧ Ex H H2 ∧ ∃ ρ2, Inv m' ρ2 ∧ Sl σ2 H2 ρ2, fun σ2 H2 n => ?_, ?_⟩
    · obtain ⟨m', q1, q2⟩ := n
      exact ⟨m', q1, q2⟩
    · refine h2 rfl σ' H1 (S'.up e1) _ (fun ρ4 σ4 H4 iv4 e4 S4 => ?_) fun d v H5 q e5 hv => k d v H5 q ((e.trans e1).trans e5) hv
      obtain ⟨m', q1, q2⟩ := iv4
      exact ⟨m', q1, (e.trans e1).trans e4, ρ4, q2, S4⟩
end
/-- the slots at the entry -/
def env0 (n : Nat) (ds : List PyData) : Env := ds.map some ++ List.replicate (n - ds.length) none
theorem sl_start {N : List Str} {vs : List V} {H : Hp} {ds : List PyData} (h : HvAll H vs ds) (hl : ds.length ≤ N.length) : Sl (L2.start N vs) H (env0 N.length ds) := by
  have hlen := h.len
  refine ⟨by unfold L2.start env0; simp; omega, fun i d q => ?_⟩
  unfold env0 at q
  by_cases hi : i < ds.length
  · rw [List.getElem?_append_left (by simpa using hi), List.getElem?_map] at q
    cases e : ds[i]? with
    | none => rw [e] at q; cases q
    | some d' =>
      rw [e] at q
      cases q
      have : ∀ {vs : List V} {ds : List PyData} {i : Nat} {d : PyData}, HvAll H vs ds → ds[i]? = some d → ∃ v, vs[i]? = some v ∧ Hv H v d := by
        intro vs ds
        induction ds generalizing vs with
        | nil => intro i d _ e; simp at e
        | cons d0 ds ih =>
          intro i d h e
          match vs, h with
          | v :: vs, h =>
            cases i with
            | zero => cases e; exact ⟨v, rfl, h.1⟩
            | succ i => obtain ⟨v', q1, q2⟩ := ih (i := i) h.2 (by simpa using e); exact ⟨v', by simpa using q1, q2⟩
      obtain ⟨v, q1, q2⟩ := this h e
      refine ⟨v, ?_, q2⟩
      unfold L2.start
      rw [List.getElem?_append_left (by simpa [hlen] using hi), List.getElem?_map, q1]
      rfl
  · rw [List.getElem?_append_right (by simpa using hi), List.getElem?_replicate] at q
    split at q <;> cases q
section
variable {P : Program} {w : World} {K : PySem.W.Frag} {mg : Str → Option Value} {base : Heap}
abbrev CAL (P : Program) (w : World) (K : PySem.W.Frag) (mg : Str → Option Value) (base : Heap) := C8.Cal P w K mg base
/-- a def by its body, on data -/
theorem cal_of {x : Str} {params : Arguments} {body : List Stmt} {scope : Scope} {f : Addr} {fd : FuncData} {N ps : List Str} {k : Nat} {R : List PyData → PyData → Prop} (F : FunD K x x params body scope [] [] f fd) (hm : mg x = some (.ref f)) (S : FnScope N ps scope)
    (hb : ∀ (kV doc pm : Value) (an : Option Addr) (cdv ct : Value) (us : List Value), us.length = ps.length → bindArgs (PySem.W.fnOf x x params body scope .none kV doc pm an cdv ct) ⟨us, []⟩ = pure (ps.zip us))
    (len : ∀ ds d, R ds d → ds.length = ps.length)
    (hbody : ∀ (cdv : Value) (A : Around) (outer : List PySem.Env) (s : Shared) (H : Hp) (E : XK), Room k (A.deeper (envOfC x scope s.heap.objs.size f cdv)) →
      ∃ t, PSs (cxOf C8.CX0 P w K mg base N x scope f cdv A outer s H E).nox body t ∧ ∀ ds d, R ds d → OT (env0 N.length ds) t (fun _ => d = .none) (fun d' => d' = d)) : C8.Cal P w K mg base (k + 1) x (spD R) [] :=
  ⟨f, fd, ps, [], F.ok S (fun vs H Q E h => by obtain ⟨ds, d, h1, h2, _⟩ := h; rw [h1.len]; exact len ds d h2) fun cdv A outer s H vs Q E hr hsp => by
      obtain ⟨ds, d, h1, h2, q⟩ := hsp
      obtain ⟨t, p, o⟩ := hbody cdv A outer s H E hr
      have hl : ds.length ≤ N.length := by
        rw [len ds d h2, ← S.pre, List.length_take]
        exact Nat.min_le_right ..
      exact ⟨t, p.nox, o ds d h2 _ H (sl_start h1 hl) _ (fun ρ' σ' H' n e S' => q .non H' e (by rw [n]; exact .non)) fun d' v H' n e hv => q v H' e (by rw [← n]; exact hv)⟩, hm, F.kp, F.bindsN hb, .nil⟩
end
end K68

namespace K68
open PySem PySem.Spec PyProof.Rows L2
/-! ### rules with K named -/
section
variable {X : Cx} {K : PySem.W.Frag}
theorem xT (h : X.K = K) : IxR X (rIxT K) := h ▸ ix_tup
theorem xL (h : X.K = K) : IxR X (rIxL K) := h ▸ ix_list
theorem yT (h : X.K = K) : SlR X (rSlA K) := h ▸ sl_tupA
theorem yL (h : X.K = K) : SlR X (rSlL K) := h ▸ sl_list
theorem oCatT (h : X.K = K) : OpR X (binaryOp .Add) (rCatA K) := h ▸ op_catA
theorem oRepT (h : X.K = K) : OpR X (binaryOp .Mult) (fun x y H Q => rRepT K x y H Q ∨ rRep01 x y H Q) := h ▸ OpR.or op_repT op_rep01
theorem oIn (h : X.K = K) : OpR X (compareOp .In) (rIn K false) := h ▸ op_in_seq
theorem oEqD (h : X.K = K) (hu : X.A.units + 64 < cLine) : OpR X (compareOp .Eq) (rEqD K) := h ▸ op_eqD hu
theorem oNeD (h : X.K = K) (hu : X.A.units + 64 < cLine) : OpR X (compareOp .NotEq) (rNeD K) := h ▸ op_neD hu
theorem bSum (h : X.K = K) (hc : X.calm = true) : CallR X (.builtin "sum") (rSum K) := h ▸ cr_sum hc
theorem bSumT (h : X.K = K) (hc : X.calm = true) : CallR X (.builtin "sum") (rSumT K) := h ▸ cr_sumT hc
theorem bAll (h : X.K = K) (hc : X.calm = true) : CallR X (.builtin "all") (rAll K) := h ▸ cr_all hc
theorem bMax (h : X.K = K) (hc : X.calm = true) : CallR X (.builtin "max") (rMax K) := h ▸ cr_max hc
theorem bLen (h : X.K = K) : CallR X (.builtin "len") (fun xs H Q => ∃ p ys, xs = [.ref p] ∧ (SqL K H p ys ∨ SqT K H p ys) ∧ Q (.int ys.length) H) := h ▸ call_len_seq
theorem bTup (h : X.K = K) : CallR X (.type "tuple") (fun xs H Q => ∃ p ys, xs = [.ref p] ∧ ((SqL K H p ys ∧ ∀ l, H l = none → Q (.ref l) (upd H l (.tup ys))) ∨ (SqT K H p ys ∧ Q (.ref p) H))) := h ▸ call_tuple_of
theorem bLst (h : X.K = K) : CallR X (.type "list") (fun xs H Q => ∃ p ys, xs = [.ref p] ∧ (SqL K H p ys ∨ SqT K H p ys) ∧ ∀ l, H l = none → Q (.ref l) (upd H l (.lst ys))) := h ▸ call_list_of
theorem bIsi (h : X.K = K) : CallR X (.builtin "isinstance") (rIsi K) := h ▸ call_isi
theorem bIsiT (h : X.K = K) : CallR X (.builtin "isinstance") (rIsiT K) := h ▸ call_isiT
theorem iL {tg l : Expr} {tl : TE} (h : X.K = K) (hl : PE X l tl) : PI X tg l (iList K tl) := h ▸ pi_list hl
theorem iT {tg l : Expr} {tl : TE} (h : X.K = K) (hl : PE X l tl) : PI X tg l (iTup K tl) := h ▸ pi_tup hl
theorem gT {es : List Expr} {k : Nat} {t : TGs} {n : Nat} {pos : Pos} (h : X.K = K) (hc : X.calm = true) (hs : PGs X es t) (hn : (assignEach es X.env).length = n := by rfl) (hst : (assignEach es X.env).findIdx? (·.1) = none := by rfl) : PG X (.Tuple es k pos) (gTup K n t) := by
  subst h
  exact pg_tup hc hs hn hst
end
/-- the built-ins are still what they were -/
structure Bn (mg : Str → Option Value) : Prop where
  babs : mg "abs" = none
  ball : mg "all" = none
  bbool : mg "bool" = none
  bdict : mg "dict" = none
  benumerate : mg "enumerate" = none
  bint : mg "int" = none
  bisinstance : mg "isinstance" = none
  blen : mg "len" = none
  blist : mg "list" = none
  bmax : mg "max" = none
  bmin : mg "min" = none
  brange : mg "range" = none
  bsorted : mg "sorted" = none
  bstr : mg "str" = none
  bsum : mg "sum" = none
  btuple : mg "tuple" = none
  bzip : mg "zip" = none
  bPAIR : ∃ t, mg "PAIR" = some (.int 2 t)
end K68

namespace K68
open PySem PySem.Spec PyProof.Rows L2
def top (i : Nat) : Stmt := PySem.Challenge.pw_anyhands_k68_whole_late_and_done.main.body.getD i (.Pass ⟨0, 0, 0, 0⟩)
abbrev s_is_number : Stmt := top 5
abbrev s_are_numbers : Stmt := top 6
abbrev s_check_stretch : Stmt := top 8
abbrev s_made_lot : Stmt := top 9
abbrev s_hours_of : Stmt := top 10
abbrev s_all_work : Stmt := top 11
abbrev s_check_same : Stmt := top 12
abbrev s_times_over : Stmt := top 13
abbrev s_all_stretches : Stmt := top 15
abbrev s_lies_within : Stmt := top 16
abbrev s_asked : Stmt := top 17
abbrev s_table_of : Stmt := top 18
abbrev s_is_calendar : Stmt := top 20
abbrev s_check_calendar : Stmt := top 21
abbrev s_hands_in : Stmt := top 22
abbrev s_lacks : Stmt := top 23
abbrev s_short_stretches : Stmt := top 24
abbrev s_is_done : Stmt := top 25
abbrev s_differences : Stmt := top 27
abbrev s_never_more : Stmt := top 28
abbrev s_over : Stmt := top 29
abbrev s_wait_for : Stmt := top 32
abbrev s_all_waits : Stmt := top 33
abbrev s_lateness : Stmt := top 34
abbrev s_done_late : Stmt := top 35
abbrev s_late_stretches : Stmt := top 36
abbrev s_finish : Stmt := top 37
abbrev s_least_after : Stmt := top 38
abbrev s_longer : Stmt := top 39
abbrev s_never_later : Stmt := top 40
abbrev s_is_later : Stmt := top 41
abbrev s_later_calendar : Stmt := top 42
abbrev s_is_later_calendar : Stmt := top 43
abbrev s__law_box : Stmt := top 45
abbrev s__law_take : Stmt := top 46
abbrev s__law_cells : Stmt := top 47
abbrev s__law_of : Stmt := top 48
abbrev s__law_same : Stmt := top 49
abbrev s__law_spans : Stmt := top 50
abbrev s__law_lot : Stmt := top 51
abbrev s__law_table : Stmt := top 52
abbrev s__law_made : Stmt := top 53
abbrev s__law_moved : Stmt := top 54
abbrev s__law_hands : Stmt := top 55
abbrev s__law_above : Stmt := top 56
abbrev s__law_times_right : Stmt := top 57
abbrev s__law_end_right : Stmt := top 58
abbrev s__law_mates_right : Stmt := top 59
abbrev s__law_by_hand_right : Stmt := top 60
abbrev s__law_right : Stmt := top 61
abbrev s_law : Stmt := top 62
def d_is_number : He.DefD := ⟨("is_number", none), "is_number", "is_number", defArgs s_is_number, defBody s_is_number, defScope s_is_number, [], []⟩
def d_are_numbers : He.DefD := ⟨("are_numbers", none), "are_numbers", "are_numbers", defArgs s_are_numbers, defBody s_are_numbers, defScope s_are_numbers, [], []⟩
def d_check_stretch : He.DefD := ⟨("check_stretch", none), "check_stretch", "check_stretch", defArgs s_check_stretch, defBody s_check_stretch, defScope s_check_stretch, [], []⟩
def d_made_lot : He.DefD := ⟨("made_lot", none), "made_lot", "made_lot", defArgs s_made_lot, defBody s_made_lot, defScope s_made_lot, [], []⟩
def d_hours_of : He.DefD := ⟨("hours_of", none), "hours_of", "hours_of", defArgs s_hours_of, defBody s_hours_of, defScope s_hours_of, [], []⟩
def d_all_work : He.DefD := ⟨("all_work", none), "all_work", "all_work", defArgs s_all_work, defBody s_all_work, defScope s_all_work, [], []⟩
def d_check_same : He.DefD := ⟨("check_same", none), "check_same", "check_same", defArgs s_check_same, defBody s_check_same, defScope s_check_same, [], []⟩
def d_times_over : He.DefD := ⟨("times_over", none), "times_over", "times_over", defArgs s_times_over, defBody s_times_over, defScope s_times_over, [], []⟩
def d_all_stretches : He.DefD := ⟨("all_stretches", none), "all_stretches", "all_stretches", defArgs s_all_stretches, defBody s_all_stretches, defScope s_all_stretches, [], []⟩
def d_lies_within : He.DefD := ⟨("lies_within", none), "lies_within", "lies_within", defArgs s_lies_within, defBody s_lies_within, defScope s_lies_within, [], []⟩
def d_asked : He.DefD := ⟨("asked", none), "asked", "asked", defArgs s_asked, defBody s_asked, defScope s_asked, [], []⟩
def d_table_of : He.DefD := ⟨("table_of", none), "table_of", "table_of", defArgs s_table_of, defBody s_table_of, defScope s_table_of, [], []⟩
def d_is_calendar : He.DefD := ⟨("is_calendar", none), "is_calendar", "is_calendar", defArgs s_is_calendar, defBody s_is_calendar, defScope s_is_calendar, [], []⟩
def d_check_calendar : He.DefD := ⟨("check_calendar", none), "check_calendar", "check_calendar", defArgs s_check_calendar, defBody s_check_calendar, defScope s_check_calendar, [], []⟩
def d_hands_in : He.DefD := ⟨("hands_in", none), "hands_in", "hands_in", defArgs s_hands_in, defBody s_hands_in, defScope s_hands_in, [], []⟩
def d_lacks : He.DefD := ⟨("lacks", none), "lacks", "lacks", defArgs s_lacks, defBody s_lacks, defScope s_lacks, [], []⟩
def d_short_stretches : He.DefD := ⟨("short_stretches", none), "short_stretches", "short_stretches", defArgs s_short_stretches, defBody s_short_stretches, defScope s_short_stretches, [], []⟩
def d_is_done : He.DefD := ⟨("is_done", none), "is_done", "is_done", defArgs s_is_done, defBody s_is_done, defScope s_is_done, [], []⟩
def d_differences : He.DefD := ⟨("differences", none), "differences", "differences", defArgs s_differences, defBody s_differences, defScope s_differences, [], []⟩
def d_never_more : He.DefD := ⟨("never_more", none), "never_more", "never_more", defArgs s_never_more, defBody s_never_more, defScope s_never_more, [], []⟩
def d_over : He.DefD := ⟨("over", none), "over", "over", defArgs s_over, defBody s_over, defScope s_over, [], []⟩
def d_wait_for : He.DefD := ⟨("wait_for", none), "wait_for", "wait_for", defArgs s_wait_for, defBody s_wait_for, defScope s_wait_for, [], []⟩
def d_all_waits : He.DefD := ⟨("all_waits", none), "all_waits", "all_waits", defArgs s_all_waits, defBody s_all_waits, defScope s_all_waits, [], []⟩
def d_lateness : He.DefD := ⟨("lateness", none), "lateness", "lateness", defArgs s_lateness, defBody s_lateness, defScope s_lateness, [], []⟩
def d_done_late : He.DefD := ⟨("done_late", none), "done_late", "done_late", defArgs s_done_late, defBody s_done_late, defScope s_done_late, [], []⟩
def d_late_stretches : He.DefD := ⟨("late_stretches", none), "late_stretches", "late_stretches", defArgs s_late_stretches, defBody s_late_stretches, defScope s_late_stretches, [], []⟩
def d_finish : He.DefD := ⟨("finish", none), "finish", "finish", defArgs s_finish, defBody s_finish, defScope s_finish, [], []⟩
def d_least_after : He.DefD := ⟨("least_after", none), "least_after", "least_after", defArgs s_least_after, defBody s_least_after, defScope s_least_after, [], []⟩
def d_longer : He.DefD := ⟨("longer", none), "longer", "longer", defArgs s_longer, defBody s_longer, defScope s_longer, [], []⟩
def d_never_later : He.DefD := ⟨("never_later", none), "never_later", "never_later", defArgs s_never_later, defBody s_never_later, defScope s_never_later, [], []⟩
def d_is_later : He.DefD := ⟨("is_later", none), "is_later", "is_later", defArgs s_is_later, defBody s_is_later, defScope s_is_later, [], []⟩
def d_later_calendar : He.DefD := ⟨("later_calendar", none), "later_calendar", "later_calendar", defArgs s_later_calendar, defBody s_later_calendar, defScope s_later_calendar, [], []⟩
def d_is_later_calendar : He.DefD := ⟨("is_later_calendar", none), "is_later_calendar", "is_later_calendar", defArgs s_is_later_calendar, defBody s_is_later_calendar, defScope s_is_later_calendar, [], []⟩
def d__law_box : He.DefD := ⟨("_law_box", none), "_law_box", "_law_box", defArgs s__law_box, defBody s__law_box, defScope s__law_box, [], []⟩
def d__law_take : He.DefD := ⟨("_law_take", none), "_law_take", "_law_take", defArgs s__law_take, defBody s__law_take, defScope s__law_take, [], []⟩
def d__law_cells : He.DefD := ⟨("_law_cells", none), "_law_cells", "_law_cells", defArgs s__law_cells, defBody s__law_cells, defScope s__law_cells, [], []⟩
def d__law_of : He.DefD := ⟨("_law_of", none), "_law_of", "_law_of", defArgs s__law_of, defBody s__law_of, defScope s__law_of, [], []⟩
def d__law_same : He.DefD := ⟨("_law_same", none), "_law_same", "_law_same", defArgs s__law_same, defBody s__law_same, defScope s__law_same, [], []⟩
def d__law_spans : He.DefD := ⟨("_law_spans", none), "_law_spans", "_law_spans", defArgs s__law_spans, defBody s__law_spans, defScope s__law_spans, [], []⟩
def d__law_lot : He.DefD := ⟨("_law_lot", none), "_law_lot", "_law_lot", defArgs s__law_lot, defBody s__law_lot, defScope s__law_lot, [], []⟩
def d__law_table : He.DefD := ⟨("_law_table", none), "_law_table", "_law_table", defArgs s__law_table, defBody s__law_table, defScope s__law_table, [], []⟩
def d__law_made : He.DefD := ⟨("_law_made", none), "_law_made", "_law_made", defArgs s__law_made, defBody s__law_made, defScope s__law_made, [], []⟩
def d__law_moved : He.DefD := ⟨("_law_moved", none), "_law_moved", "_law_moved", defArgs s__law_moved, defBody s__law_moved, defScope s__law_moved, [], []⟩
def d__law_hands : He.DefD := ⟨("_law_hands", none), "_law_hands", "_law_hands", defArgs s__law_hands, defBody s__law_hands, defScope s__law_hands, [], []⟩
def d__law_above : He.DefD := ⟨("_law_above", none), "_law_above", "_law_above", defArgs s__law_above, defBody s__law_above, defScope s__law_above, [], []⟩
def d__law_times_right : He.DefD := ⟨("_law_times_right", none), "_law_times_right", "_law_times_right", defArgs s__law_times_right, defBody s__law_times_right, defScope s__law_times_right, [], []⟩
def d__law_end_right : He.DefD := ⟨("_law_end_right", none), "_law_end_right", "_law_end_right", defArgs s__law_end_right, defBody s__law_end_right, defScope s__law_end_right, [], []⟩
def d__law_mates_right : He.DefD := ⟨("_law_mates_right", none), "_law_mates_right", "_law_mates_right", defArgs s__law_mates_right, defBody s__law_mates_right, defScope s__law_mates_right, [], []⟩
def d__law_by_hand_right : He.DefD := ⟨("_law_by_hand_right", none), "_law_by_hand_right", "_law_by_hand_right", defArgs s__law_by_hand_right, defBody s__law_by_hand_right, defScope s__law_by_hand_right, [], []⟩
def d__law_right : He.DefD := ⟨("_law_right", none), "_law_right", "_law_right", defArgs s__law_right, defBody s__law_right, defScope s__law_right, [], []⟩
def d_law : He.DefD := ⟨("law", none), "law", "law", defArgs s_law, defBody s_law, defScope s_law, [], []⟩
def fn : List He.DefD := [d_is_number, d_are_numbers, d_check_stretch, d_made_lot, d_hours_of, d_all_work, d_check_same, d_times_over, d_all_stretches, d_lies_within, d_asked, d_table_of, d_is_calendar, d_check_calendar, d_hands_in, d_lacks, d_short_stretches, d_is_done, d_differences, d_never_more, d_over, d_wait_for, d_all_waits, d_lateness, d_done_late, d_late_stretches, d_finish, d_least_after, d_longer, d_never_later, d_is_later, d_later_calendar, d_is_later_calendar, d__law_box, d__law_take, d__law_cells, d__law_of, d__law_same, d__law_spans, d__law_lot, d__law_table, d__law_made, d__law_moved, d__law_hands, d__law_above, d__law_times_right, d__law_end_right, d__law_mates_right, d__law_by_hand_right, d__law_right, d_law]
def fa : List He.Fa := [.glo "is_number", .glo "are_numbers", .glo "check_stretch", .glo "made_lot", .glo "hours_of", .glo "all_work", .glo "check_same", .glo "times_over", .glo "all_stretches", .glo "lies_within", .glo "asked", .glo "table_of", .glo "is_calendar", .glo "check_calendar", .glo "hands_in", .glo "lacks", .glo "short_stretches", .glo "is_done", .glo "differences", .glo "never_more", .glo "over", .glo "wait_for", .glo "all_waits", .glo "lateness", .glo "done_late", .glo "late_stretches", .glo "finish", .glo "least_after", .glo "longer", .glo "never_later", .glo "is_later", .glo "later_calendar", .glo "is_later_calendar", .glo "_law_box", .glo "_law_take", .glo "_law_cells", .glo "_law_of", .glo "_law_same", .glo "_law_spans", .glo "_law_lot", .glo "_law_table", .glo "_law_made", .glo "_law_moved", .glo "_law_hands", .glo "_law_above", .glo "_law_times_right", .glo "_law_end_right", .glo "_law_mates_right", .glo "_law_by_hand_right", .glo "_law_right", .glo "law", .free "abs", .free "all", .free "bool", .free "dict", .free "enumerate", .free "int", .free "isinstance", .free "len", .free "list", .free "max", .free "min", .free "range", .free "sorted", .free "str", .free "sum", .free "tuple", .free "zip", .int "PAIR" 2]
def loose1 : List PySem.Str := ["is_number", "are_numbers", "check_stretch", "made_lot", "hours_of", "all_work", "check_same", "times_over", "all_stretches", "lies_within", "asked", "table_of", "is_calendar", "check_calendar", "hands_in", "lacks", "short_stretches", "is_done", "differences", "never_more", "over", "wait_for", "all_waits", "lateness", "done_late", "late_stretches", "finish"]
def loose2 : List PySem.Str := ["least_after", "longer", "never_later", "is_later", "later_calendar", "is_later_calendar", "_law_box", "_law_take", "_law_cells", "_law_of", "_law_same", "_law_spans", "_law_lot", "_law_table", "_law_made", "_law_moved", "_law_hands", "_law_above", "_law_times_right", "_law_end_right", "_law_mates_right", "_law_by_hand_right", "_law_right", "NoStretch", "Unlike", "Unfit", "PAIR"]
def loose : List PySem.Str := loose1 ++ loose2
end K68
namespace K68
open PySem PySem.Spec PyProof.Rows L2
abbrev R : PySem.W.OpenRow := PySem.W.OpenLaw.row PySem.Challenge.rw_anyhands_k68_whole_late_and_done
abbrev hk : PySem.W.Hook := He.hookD 4 fa fn
def ob (s : PySem.W.SharedT) : He.AlD := He.obsDG 4 fa fn (HandSHeadRun.getT s)
theorem ob_eq (s : PySem.W.SharedT) : ob s = hk.obs s.abs := He.obsDG_eq (HandSHeadRun.getT_eq s)
theorem run (w : World) : HandSHeadRun.RunEq R (PySem.W.view R.prog [62]) hk ob 4000 loose w := by
  intro os
  kernel_rfl
end K68

namespace K68
open PySem PySem.Spec PyProof.Rows L2
open Evl (Ex)
def lotD (T : Nat) (E : List Er) : PyData := .tuple [.int (T : Nat), .tuple (E.map erD)]
def calD (c : List Int) : PyData := .tuple (c.map .int)
theorem nol_int {i : Int} : NoL (.int i) := fun H v h => h
theorem nol_bool {b : Bool} : NoL (.bool b) := fun H v h => h
theorem nol_none : NoL .none := fun H v h => h
theorem nol_tup {ds : List PyData} : NoL (.tuple ds) := fun H v h => h
theorem nol_win {w : Win} : NoL (winD w) := nol_tup
def NoE : Env → Prop
  | [] => True
  | none :: r => NoE r
  | some d :: r => NoL d ∧ NoE r
theorem noE : ∀ {ρ : Env}, NoE ρ → ∀ (i : Nat) (d : PyData), ρ[i]? = some (some d) → NoL d
  | none :: r, h, i, d, e => by
    cases i with
    | zero => cases e
    | succ i => exact noE (ρ := r) h i d (by simpa using e)
  | some d' :: r, h, i, d, e => by
    cases i with
    | zero => cases e; exact h.1
    | succ i => exact noE (ρ := r) h.2 i d (by simpa using e)
  | [], h, i, d, e => by simp at e
section
variable {ρ : Env} {ta tb te : TE} {tt tu : TT} {t u : TS} {K : PySem.W.Frag}
/-- values of one kind -/
theorem et_mapV {α β : Type} {wi : TI} {g : TG} {vs : List Nat} (v : β → PyData) (xs : List α) (enc : α → PyData) (f : α → β) (hI : IT ρ wi (xs.map enc)) (few : xs.length ≤ 1000)
    (turn : ∀ a ∈ xs, ∃ ρ2, EG vs g (enc a) (wipeD ρ vs) ρ2 ∧ ET ρ2 te (v (f a)) ∧ NoL (v (f a))) : ET ρ (tLc wi g tYes te vs) (.list ((xs.map f).map v)) := by
  have h := et_map (te := te) (g := g) (vs := vs) xs enc (fun a => v (f a)) hI few turn
  rwa [List.map_map]
theorem et_lcV {α β : Type} {wi : TI} {g : TG} {vs : List Nat} (v : β → PyData) (xs : List α) (enc : α → PyData) (keep : α → Bool) (f : α → β) (hI : IT ρ wi (xs.map enc)) (few : xs.length ≤ 1000)
    (turn : ∀ a ∈ xs, ∃ ρ2, EG vs g (enc a) (wipeD ρ vs) ρ2 ∧ EB ρ2 tt (keep a) ∧ (keep a = true → ET ρ2 te (v (f a)) ∧ NoL (v (f a)))) : ET ρ (tLc wi g tt te vs) (.list (((xs.filter keep).map f).map v)) := by
  have h := et_lc (tt := tt) (te := te) (g := g) (vs := vs) xs enc keep (fun a => v (f a)) hI few turn
  rwa [List.map_map]
theorem et_pair {d e : PyData} (h : ET ρ ta d) (k : ET ρ tb e) (hd : NoL d) (he : NoL e) : ET ρ (tTup (tCons ta (tCons tb tNil))) (.tuple [d, e]) := et_tup (ea2 h k) ⟨hd, he, True.intro⟩ (by show 2 ≤ 1000; decide)
theorem et_trip {tc : TE} {d e f : PyData} (h : ET ρ ta d) (k : ET ρ tb e) (m : ET ρ tc f) (hd : NoL d) (he : NoL e) (hf : NoL f) : ET ρ (tTup (tCons ta (tCons tb (tCons tc tNil)))) (.tuple [d, e, f]) := et_tup (ea3 h k m) ⟨hd, he, hf, True.intro⟩ (by show 3 ≤ 1000; decide)
theorem IT.is {wi : TI} {l l' : List PyData} (h : IT ρ wi l) (e : l = l') : IT ρ wi l' := e ▸ h
theorem ITA.is {wi : TI} {l l' : List PyData} (h : ITA ρ wi l) (e : l = l') : ITA ρ wi l' := e ▸ h
end
theorem rng0 (n : Nat) : rngD 0 (Int.toNat (n : Nat)) = (List.range n).map fun i => .int (i : Nat) := by
  unfold rngD
  rw [Int.toNat_natCast]
  exact List.map_congr_left fun i _ => by simp
theorem rng2 (f : Nat) (T : Nat) : rngD (f : Nat) (Int.toNat ((T : Nat) - (f : Nat))) = (List.range' f (T - f)).map fun i => .int (i : Nat) := by
  unfold rngD
  rw [List.range'_eq_map_range, List.map_map, show Int.toNat ((T : Nat) - (f : Nat) : Int) = T - f by omega]
  exact List.map_congr_left fun i _ => by simp
theorem kit_ii : kitB "int" "int" = some true := by decide +kernel
theorem kit_ib : kitB "int" "bool" = some false := by decide +kernel
theorem kit_tt : kitB "tuple" "tuple" = some true := by decide +kernel
theorem kit_bb : kitB "bool" "bool" = some true := by decide +kernel
theorem kit_bs : kitB "bool" "str" = some false := by decide +kernel
theorem kit_bl : kitB "bool" "list" = some false := by decide +kernel
theorem kit_bt : kitB "bool" "tuple" = some false := by decide +kernel
theorem kit_ll : kitB "list" "list" = some true := by decide +kernel
theorem kit_lt : kitB "list" "tuple" = some false := by decide +kernel
/-! ### plain -/
def R_is_number (ds : List PyData) (d : PyData) : Prop := ∃ i : Int, ds = [.int i] ∧ d = .bool true
abbrev N_is_number : List Str := ["thing"]
theorem sc_is_number : FnScope N_is_number ["thing"] (defScope s_is_number) := ⟨rfl, rfl, rfl, by decide +kernel, rfl, by decide +kernel, by decide +kernel⟩
/- slots: 0:thing ; cells:  ; callees:  -/
theorem w_is_number {P : Program} {w : World} {K : PySem.W.Frag} {mg : Str → Option Value} {base : Heap} {f : Addr} {fd : FuncData} (T : Bn mg) (F : FunD K "is_number" "is_number" (defArgs s_is_number) (defBody s_is_number) (defScope s_is_number) [] [] f fd) (hm : mg "is_number" = some (.ref f)) : C8.Cal P w K mg base 1 "is_number" (spD R_is_number) [] := by
  refine cal_of (N := N_is_number) (ps := ["thing"]) F hm sc_is_number (fun kV doc pm an cdv ct us hl => by match us, hl with | [u0], _ => rfl) (fun ds d h => by obtain ⟨i, rfl, rfl⟩ := h; rfl) ?_
  intro cdv A outer s H E hr
  have nd := sc_is_number.nd
  refine ⟨_, (pss_one (ps_ret (pe_and (pe_callB (bIsi (K := K) rfl) (by rfl) T.bisinstance (by decide +kernel) (pa_cons (pv 0) (pa_cons (pe_bltn (v := .ty "int") (u := .type "int") (by rfl) T.bint (by decide +kernel) rfl) pa_nil))) (pe_one (pe_not (pe_callB (bIsi (K := K) rfl) (by rfl) T.bisinstance (by decide +kernel) (pa_cons (pv 0) (pa_cons (pe_bltn (v := .ty "bool") (u := .type "bool") (by rfl) T.bbool (by decide +kernel) rfl) pa_nil)))))))), ?_⟩
  intro ds d h
  obtain ⟨i, rfl, rfl⟩ := h
  exact ot_ret (et_and (et_isi (d := .int i) (b := true) et_var kit_ii) fun _ => et_not (et_isi (d := .int i) (b := false) et_var kit_ib)) rfl
def R_are_numbers (ds : List PyData) (d : PyData) : Prop := ∃ (ns : List Int) (n : Nat) (least : Int), ds = [calD ns, .int (n : Nat), .int least] ∧ ns.length = n ∧ (∀ x ∈ ns, least ≤ x) ∧ ns.length ≤ 1000 ∧ d = .bool true
abbrev N_are_numbers : List Str := ["thing", "size", "least", "own"]
theorem sc_are_numbers : FnScope N_are_numbers ["thing", "size", "least"] (defScope s_are_numbers) := ⟨rfl, rfl, rfl, by decide +kernel, rfl, by decide +kernel, by decide +kernel⟩
/- slots: 0:thing 1:size 2:least 3:own ; cells: least ; callees: is_number -/
theorem w_are_numbers {P : Program} {w : World} {K : PySem.W.Frag} {mg : Str → Option Value} {base : Heap} {f : Addr} {fd : FuncData} (T : Bn mg) (c_is_number : C8.Cal P w K mg base 1 "is_number" (spD R_is_number) []) (F : FunD K "are_numbers" "are_numbers" (defArgs s_are_numbers) (defBody s_are_numbers) (defScope s_are_numbers) [] [] f fd) (hm : mg "are_numbers" = some (.ref f)) : C8.Cal P w K mg base 2 "are_numbers" (spD R_are_numbers) [] := by
  refine cal_of (N := N_are_numbers) (ps := ["thing", "size", "least"]) F hm sc_are_numbers (fun kV doc pm an cdv ct us hl => by match us, hl with | [u0, u1, u2], _ => rfl) (fun ds d h => by obtain ⟨ns, n, least, rfl, hn, hl, few, rfl⟩ := h; rfl) ?_
  intro cdv A outer s H E hr
  have nd := sc_are_numbers.nd
  refine ⟨_, (pss_one (ps_ret (pe_and (pe_callB (bIsi (K := K) rfl) (by rfl) T.bisinstance (by decide +kernel) (pa_cons (pv 0) (pa_cons (pe_bltn (v := .ty "tuple") (u := .type "tuple") (by rfl) T.btuple (by decide +kernel) rfl) pa_nil))) (pe_and (pe_cmpR op_eq (pe_callB (bLen (K := K) rfl) (by rfl) T.blen (by decide +kernel) (pa_cons (pv 0) pa_nil)) (pv 1) (nomark _)) (pe_one (pe_callB (bAll (K := K) rfl rfl) (by rfl) T.ball (by decide +kernel) (pa_cons (pe_lc (own := [("own", 3)]) (g := (gName 3)) (tt := tYes)  rfl nd (iT (K := K) rfl (pv 0)) (blkOk_by (own := [("own", 3)]) (N := N_are_numbers) (sc := defScope s_are_numbers) (by decide +kernel)) (fun _ _ _ _ _ => (pg_name (i := 3) nd rfl (.inl rfl))) (fun _ _ _ _ _ => pts_nil) (fun _ _ _ _ _ => (pe_and (C8.pe_c c_is_number hr (by decide) (by rfl) (pa_cons (pv 3) pa_nil)) (pe_one (pe_cmpR op_ge (pv 3) (pv 2) (nomark _)))))) pa_nil))))))), ?_⟩
  intro ds d h
  obtain ⟨ns, n, least, rfl, hn, hl, few, rfl⟩ := h
  have h1 : (decide (((ns.map PyData.int).length : Int) = (n : Nat))) = true := by rw [List.length_map, hn]; simp
  have h2 : ((ns.map fun x => true && decide (least ≤ x)).all id) = true := by
    rw [List.all_map, List.all_eq_true]
    intro x hx
    simp [hl x hx]
  refine ot_ret (d := .bool (true && (decide (((ns.map PyData.int).length : Int) = (n : Nat)) && ((ns.map fun x => true && decide (least ≤ x)).all id)))) (et_and (et_isi (d := calD ns) (b := true) et_var kit_tt) fun _ => et_and (et_eqI (et_lenT et_var) et_var) fun _ => et_allL ?_) (by rw [h1, h2]; rfl)
  exact et_mapV .bool ns .int (fun x => true && decide (least ≤ x)) (it_tup et_var) few fun x hx => ⟨_, eg_name (by decide), et_and (et_call (ea1 et_var) ⟨x, rfl, rfl⟩) fun _ => et_B0 (g := fun i j => decide (j ≤ i)) et_var et_var, nol_bool⟩
def R_check_stretch (ds : List PyData) (d : PyData) : Prop := ∃ T f l : Nat, ds = [.int (T : Nat), .int (f : Nat), .int (l : Nat)] ∧ f ≤ l ∧ l < T ∧ d = .none
abbrev N_check_stretch : List Str := ["hours", "first", "last"]
theorem sc_check_stretch : FnScope N_check_stretch ["hours", "first", "last"] (defScope s_check_stretch) := ⟨rfl, rfl, rfl, by decide +kernel, rfl, by decide +kernel, by decide +kernel⟩
/- slots: 0:hours 1:first 2:last ; cells:  ; callees:  -/
theorem w_check_stretch {P : Program} {w : World} {K : PySem.W.Frag} {mg : Str → Option Value} {base : Heap} {f : Addr} {fd : FuncData} (T : Bn mg) (F : FunD K "check_stretch" "check_stretch" (defArgs s_check_stretch) (defBody s_check_stretch) (defScope s_check_stretch) [] [] f fd) (hm : mg "check_stretch" = some (.ref f)) : C8.Cal P w K mg base 1 "check_stretch" (spD R_check_stretch) [] := by
  refine cal_of (N := N_check_stretch) (ps := ["hours", "first", "last"]) F hm sc_check_stretch (fun kV doc pm an cdv ct us hl => by match us, hl with | [u0, u1, u2], _ => rfl) (fun ds d h => by obtain ⟨T, f, l, rfl, h1, h2, rfl⟩ := h; rfl) ?_
  intro cdv A outer s H E hr
  have nd := sc_check_stretch.nd
  refine ⟨_, (pss_one (ps_if (pt_not (pt_ch3 op_le op_le op_lt pe_int (pv 1) (pv 2) (pv 0)))
      (pss_one ps_never) pss_nil)), ?_⟩
  intro ds d h
  obtain ⟨T, f, l, rfl, h1, h2, rfl⟩ := h
  refine ot_if (b := !decide ((l : Int) < (T : Nat))) (eb_not (eb_ch3 (i := 0) (j := (f : Nat)) (k := (l : Nat)) (l := (T : Nat)) et_int et_var et_var et_var (by simp) (by simpa using h1))) (fun e => ?_) fun _ => ot_nx rfl
  simp at e
  omega
def R_hours_of (ds : List PyData) (d : PyData) : Prop := ∃ (T : Nat) (E : List Er), ds = [lotD T E] ∧ d = .int (T : Nat)
abbrev N_hours_of : List Str := ["lot"]
theorem sc_hours_of : FnScope N_hours_of ["lot"] (defScope s_hours_of) := ⟨rfl, rfl, rfl, by decide +kernel, rfl, by decide +kernel, by decide +kernel⟩
/- slots: 0:lot ; cells:  ; callees:  -/
theorem w_hours_of {P : Program} {w : World} {K : PySem.W.Frag} {mg : Str → Option Value} {base : Heap} {f : Addr} {fd : FuncData} (T : Bn mg) (F : FunD K "hours_of" "hours_of" (defArgs s_hours_of) (defBody s_hours_of) (defScope s_hours_of) [] [] f fd) (hm : mg "hours_of" = some (.ref f)) : C8.Cal P w K mg base 1 "hours_of" (spD R_hours_of) [] := by
  refine cal_of (N := N_hours_of) (ps := ["lot"]) F hm sc_hours_of (fun kV doc pm an cdv ct us hl => by match us, hl with | [u0], _ => rfl) (fun ds d h => by obtain ⟨T, E, rfl, rfl⟩ := h; rfl) ?_
  intro cdv A outer s H E hr
  have nd := sc_hours_of.nd
  refine ⟨_, (pss_one (ps_ret (pe_ix (xT (K := K) rfl) (pv 0) pe_int (fun _ _ => rfl)))), ?_⟩
  intro ds d h
  obtain ⟨T, E, rfl, rfl⟩ := h
  exact ot_ret (et_ix (n := 0) et_var et_int rfl) rfl
def R_all_work (ds : List PyData) (d : PyData) : Prop := ∃ (T : Nat) (E : List Er), ds = [lotD T E] ∧ E.length ≤ 1000 ∧ d = .int (allW E)
abbrev N_all_work : List Str := ["lot", "window", "work"]
theorem sc_all_work : FnScope N_all_work ["lot"] (defScope s_all_work) := ⟨rfl, rfl, rfl, by decide +kernel, rfl, by decide +kernel, by decide +kernel⟩
/- slots: 0:lot 1:window 2:work ; cells:  ; callees:  -/
theorem w_all_work {P : Program} {w : World} {K : PySem.W.Frag} {mg : Str → Option Value} {base : Heap} {f : Addr} {fd : FuncData} (T : Bn mg) (F : FunD K "all_work" "all_work" (defArgs s_all_work) (defBody s_all_work) (defScope s_all_work) [] [] f fd) (hm : mg "all_work" = some (.ref f)) : C8.Cal P w K mg base 1 "all_work" (spD R_all_work) [] := by
  refine cal_of (N := N_all_work) (ps := ["lot"]) F hm sc_all_work (fun kV doc pm an cdv ct us hl => by match us, hl with | [u0], _ => rfl) (fun ds d h => by obtain ⟨T, E, rfl, few, rfl⟩ := h; rfl) ?_
  intro cdv A outer s H E hr
  have nd := sc_all_work.nd
  refine ⟨_, (pss_one (ps_ret (pe_callB (bSum (K := K) rfl rfl) (by rfl) T.bsum (by decide +kernel) (pa_cons (pe_lc (own := [("window", 1), ("work", 2)]) (g := (gTup K 2 (gCons (gName 1) (gCons (gName 2) gNil)))) (tt := tYes)  rfl nd (iT (K := K) rfl (pe_ix (xT (K := K) rfl) (pv 0) pe_int (fun _ _ => rfl))) (blkOk_by (own := [("window", 1), ("work", 2)]) (N := N_all_work) (sc := defScope s_all_work) (by decide +kernel)) (fun _ _ _ _ _ => (gT (K := K) (n := 2) rfl rfl (pgs_cons (pg_name (i := 1) nd rfl (.inl rfl)) (pgs_cons (pg_name (i := 2) nd rfl (.inl rfl)) pgs_nil)))) (fun _ _ _ _ _ => pts_nil) (fun _ _ _ _ _ => (pv 2))) pa_nil)))), ?_⟩
  intro ds d h
  obtain ⟨T, E, rfl, few, rfl⟩ := h
  exact ot_ret (et_sumL (et_mapV .int E erD (·.2) (it_tup (et_ix (n := 1) et_var et_int rfl)) few fun x hx => ⟨_, eg2 (by decide) (by decide), et_var, nol_int⟩)) rfl
def R_check_same (ds : List PyData) (d : PyData) : Prop := ∃ (T : Nat) (E F : List Er), ds = [lotD T E, lotD T F] ∧ d = .none
abbrev N_check_same : List Str := ["one", "other"]
theorem sc_check_same : FnScope N_check_same ["one", "other"] (defScope s_check_same) := ⟨rfl, rfl, rfl, by decide +kernel, rfl, by decide +kernel, by decide +kernel⟩
/- slots: 0:one 1:other ; cells:  ; callees:  -/
theorem w_check_same {P : Program} {w : World} {K : PySem.W.Frag} {mg : Str → Option Value} {base : Heap} {f : Addr} {fd : FuncData} (T : Bn mg) (F : FunD K "check_same" "check_same" (defArgs s_check_same) (defBody s_check_same) (defScope s_check_same) [] [] f fd) (hm : mg "check_same" = some (.ref f)) : C8.Cal P w K mg base 1 "check_same" (spD R_check_same) [] := by
  refine cal_of (N := N_check_same) (ps := ["one", "other"]) F hm sc_check_same (fun kV doc pm an cdv ct us hl => by match us, hl with | [u0, u1], _ => rfl) (fun ds d h => by obtain ⟨T, E, G, rfl, rfl⟩ := h; rfl) ?_
  intro cdv A outer s H E hr
  have nd := sc_check_same.nd
  refine ⟨_, (pss_one (ps_if (pt_cmpR op_ne (pe_ix (xT (K := K) rfl) (pv 0) pe_int (fun _ _ => rfl)) (pe_ix (xT (K := K) rfl) (pv 1) pe_int (fun _ _ => rfl)) (nomark _))
      (pss_one ps_never) pss_nil)), ?_⟩
  intro ds d h
  obtain ⟨T, E, G, rfl, rfl⟩ := h
  refine ot_if (b := !decide ((T : Int) = (T : Nat))) (eb_test (et_neI (et_ix (n := 0) et_var et_int rfl) (et_ix (n := 0) et_var et_int rfl))) (fun e => ?_) fun _ => ot_nx rfl
  simp at e

def R_all_stretches (ds : List PyData) (d : PyData) : Prop := ∃ T : Nat, ds = [.int (T : Nat)] ∧ T ≤ 8 ∧ d = .list ((spans T).map winD)
theorem spans_len (T : Nat) (h : T ≤ 8) : (spans T).length ≤ 36 := by
  have : ∀ T, T ≤ 8 → (spans T).length ≤ 36 := by decide
  exact this T h
abbrev N_all_stretches : List Str := ["hours", "first", "last"]
theorem sc_all_stretches : FnScope N_all_stretches ["hours"] (defScope s_all_stretches) := ⟨rfl, rfl, rfl, by decide +kernel, rfl, by decide +kernel, by decide +kernel⟩
/- slots: 0:hours 1:first 2:last ; cells: hours ; callees:  -/
theorem w_all_stretches {P : Program} {w : World} {K : PySem.W.Frag} {mg : Str → Option Value} {base : Heap} {f : Addr} {fd : FuncData} (T : Bn mg) (F : FunD K "all_stretches" "all_stretches" (defArgs s_all_stretches) (defBody s_all_stretches) (defScope s_all_stretches) [] [] f fd) (hm : mg "all_stretches" = some (.ref f)) : C8.Cal P w K mg base 1 "all_stretches" (spD R_all_stretches) [] := by
  refine cal_of (N := N_all_stretches) (ps := ["hours"]) F hm sc_all_stretches (fun kV doc pm an cdv ct us hl => by match us, hl with | [u0], _ => rfl) (fun ds d h => by obtain ⟨T, rfl, h8, rfl⟩ := h; rfl) ?_
  intro cdv A outer s H E hr
  have nd := sc_all_stretches.nd
  refine ⟨_, (pss_one (ps_ret (pe_lc2 (own := [("first", 1), ("last", 2)]) (vs1 := [2]) (g := (gName 1)) (g1 := (gName 2)) (tt := tYes) (tt1 := tYes)  rfl nd (pi_range1 (by rfl) T.brange (pa_cons (pv 0) pa_nil)) (blkOk_by (own := [("first", 1), ("last", 2)]) (N := N_all_stretches) (sc := defScope s_all_stretches) (by decide +kernel)) (by decide) (fun _ _ _ _ _ => (pg_name (i := 1) nd rfl (.inl rfl))) (fun _ _ _ _ _ => pts_nil) (fun _ _ _ _ _ => (pi_range2 (by rfl) T.brange (pa_cons (pv 1) (pa_cons (pv 0) pa_nil)))) (fun _ _ _ _ _ => (pg_name (i := 2) nd rfl (.inl rfl))) (fun _ _ _ _ _ => pts_nil) (fun _ _ _ _ _ => (pe_tup (pa_cons (pv 1) (pa_cons (pv 2) pa_nil))))))), ?_⟩
  intro ds d h
  obtain ⟨T, rfl, h8, rfl⟩ := h
  have e : (spans T).map winD = (List.range T).flatMap fun f => (List.range' f (T - f)).map fun l => winD (f, l) := by
    unfold spans
    rw [List.map_flatMap]
    simp only [List.map_map]
    rfl
  refine ot_ret (et_lc2 (α := Nat) (β := Nat) (List.range T) (fun i => .int (i : Nat)) (fun f => List.range' f (T - f)) (fun _ i => .int (i : Nat)) (fun f l => winD (f, l)) (IT.is (it_range1 (n := (T : Nat)) et_var (by omega)) (rng0 T)) (by rw [← e, List.length_map]; have := spans_len T h8; omega) fun a ha => ?_) (by rw [e])
  have ha : a < T := List.mem_range.mp ha
  refine ⟨_, eg_name (by decide), noE ⟨nol_int, nol_int, True.intro⟩, ITA.is (ita_range2 (lo := (a : Nat)) (n := (T : Nat)) et_var et_var (by omega)) (rng2 a T), fun b hb => ⟨_, eg_name (by decide), et_pair et_var et_var nol_int nol_int, nol_tup⟩⟩
def R_lies_within (ds : List PyData) (d : PyData) : Prop := ∃ (u v : Win), ds = [winD u, winD v] ∧ d = .bool (inW v.1 v.2 u)
abbrev N_lies_within : List Str := ["one", "other"]
theorem sc_lies_within : FnScope N_lies_within ["one", "other"] (defScope s_lies_within) := ⟨rfl, rfl, rfl, by decide +kernel, rfl, by decide +kernel, by decide +kernel⟩
/- slots: 0:one 1:other ; cells:  ; callees:  -/
theorem w_lies_within {P : Program} {w : World} {K : PySem.W.Frag} {mg : Str → Option Value} {base : Heap} {f : Addr} {fd : FuncData} (T : Bn mg) (F : FunD K "lies_within" "lies_within" (defArgs s_lies_within) (defBody s_lies_within) (defScope s_lies_within) [] [] f fd) (hm : mg "lies_within" = some (.ref f)) : C8.Cal P w K mg base 1 "lies_within" (spD R_lies_within) [] := by
  refine cal_of (N := N_lies_within) (ps := ["one", "other"]) F hm sc_lies_within (fun kV doc pm an cdv ct us hl => by match us, hl with | [u0, u1], _ => rfl) (fun ds d h => by obtain ⟨u, v, rfl, rfl⟩ := h; rfl) ?_
  intro cdv A outer s H E hr
  have nd := sc_lies_within.nd
  refine ⟨_, (pss_one (ps_ret (pe_and (pe_cmpR op_le (pe_ix (xT (K := K) rfl) (pv 1) pe_int (fun _ _ => rfl)) (pe_ix (xT (K := K) rfl) (pv 0) pe_int (fun _ _ => rfl)) (nomark _)) (pe_one (pe_cmpR op_le (pe_ix (xT (K := K) rfl) (pv 0) pe_int (fun _ _ => rfl)) (pe_ix (xT (K := K) rfl) (pv 1) pe_int (fun _ _ => rfl)) (nomark _)))))), ?_⟩
  intro ds d h
  obtain ⟨u, v, rfl, rfl⟩ := h
  refine ot_ret (et_and (et_B0 (g := fun i j => decide (i ≤ j)) (et_ix (n := 0) et_var et_int rfl) (et_ix (n := 0) et_var et_int rfl)) fun _ => et_B0 (g := fun i j => decide (i ≤ j)) (et_ix (n := 1) et_var et_int rfl) (et_ix (n := 1) et_var et_int rfl)) ?_
  unfold inW
  congr 2 <;> simp
def R_asked (ds : List PyData) (d : PyData) : Prop := ∃ (T : Nat) (E : List Er) (g l : Nat), ds = [lotD T E, .int (g : Nat), .int (l : Nat)] ∧ g ≤ l ∧ l < T ∧ E.length ≤ 1000 ∧ d = .int (asks E g l)
abbrev N_asked : List Str := ["lot", "first", "last", "window", "work"]
theorem sc_asked : FnScope N_asked ["lot", "first", "last"] (defScope s_asked) := ⟨rfl, rfl, rfl, by decide +kernel, rfl, by decide +kernel, by decide +kernel⟩
/- slots: 0:lot 1:first 2:last 3:window 4:work ; cells: first last ; callees: check_stretch lies_within -/
theorem w_asked {P : Program} {w : World} {K : PySem.W.Frag} {mg : Str → Option Value} {base : Heap} {f : Addr} {fd : FuncData} (T : Bn mg) (c_check_stretch : C8.Cal P w K mg base 1 "check_stretch" (spD R_check_stretch) []) (c_lies_within : C8.Cal P w K mg base 1 "lies_within" (spD R_lies_within) []) (F : FunD K "asked" "asked" (defArgs s_asked) (defBody s_asked) (defScope s_asked) [] [] f fd) (hm : mg "asked" = some (.ref f)) : C8.Cal P w K mg base 2 "asked" (spD R_asked) [] := by
  refine cal_of (N := N_asked) (ps := ["lot", "first", "last"]) F hm sc_asked (fun kV doc pm an cdv ct us hl => by match us, hl with | [u0, u1, u2], _ => rfl) (fun ds d h => by obtain ⟨T, E, g, l, rfl, h1, h2, few, rfl⟩ := h; rfl) ?_
  intro cdv A outer s H E hr
  have nd := sc_asked.nd
  refine ⟨_, (pss_cons (ps_expr (C8.pe_c c_check_stretch hr (by decide) (by rfl) (pa_cons (pe_ix (xT (K := K) rfl) (pv 0) pe_int (fun _ _ => rfl)) (pa_cons (pv 1) (pa_cons (pv 2) pa_nil)))))
    (pss_one (ps_ret (pe_callB (bSum (K := K) rfl rfl) (by rfl) T.bsum (by decide +kernel) (pa_cons (pe_lc (own := [("window", 3), ("work", 4)]) (g := (gTup K 2 (gCons (gName 3) (gCons (gName 4) gNil))))  rfl nd (iT (K := K) rfl (pe_ix (xT (K := K) rfl) (pv 0) pe_int (fun _ _ => rfl))) (blkOk_by (own := [("window", 3), ("work", 4)]) (N := N_asked) (sc := defScope s_asked) (by decide +kernel)) (fun _ _ _ _ _ => (gT (K := K) (n := 2) rfl rfl (pgs_cons (pg_name (i := 3) nd rfl (.inl rfl)) (pgs_cons (pg_name (i := 4) nd rfl (.inl rfl)) pgs_nil)))) (fun _ _ _ _ _ => (pts_one (pt_val (C8.pe_c c_lies_within hr (by decide) (by rfl) (pa_cons (pv 3) (pa_cons (pe_tup (pa_cons (pv 1) (pa_cons (pv 2) pa_nil))) pa_nil)))))) (fun _ _ _ _ _ => (pv 4))) pa_nil))))), ?_⟩
  intro ds d h
  obtain ⟨T, E, g, l, rfl, h1, h2, few, rfl⟩ := h
  refine ot_do (et_call (ea3 (et_ix (n := 0) et_var et_int rfl) et_var et_var) ⟨T, g, l, rfl, h1, h2, rfl⟩) (ot_ret (et_sumL (et_lcV .int E erD (fun e => inW g l e.1) (·.2) (it_tup (et_ix (n := 1) et_var et_int rfl)) few fun x hx => ⟨_, eg2 (by decide) (by decide), eb_val (et_call (ea2 et_var (et_pair et_var et_var nol_int nol_int)) ⟨x.1, (g, l), rfl, rfl⟩), fun _ => ⟨et_var, nol_int⟩⟩)) ?_)
  rw [fs_filter]
  rfl
def R_table_of (ds : List PyData) (d : PyData) : Prop := ∃ (T : Nat) (E : List Er), ds = [lotD T E] ∧ T ≤ 8 ∧ E.length ≤ 1000 ∧ d = calD ((spans T).map fun v => asks E v.1 v.2)
abbrev N_table_of : List Str := ["lot", "first", "last"]
theorem sc_table_of : FnScope N_table_of ["lot"] (defScope s_table_of) := ⟨rfl, rfl, rfl, by decide +kernel, rfl, by decide +kernel, by decide +kernel⟩
/- slots: 0:lot 1:first 2:last ; cells: lot ; callees: all_stretches asked -/
theorem w_table_of {P : Program} {w : World} {K : PySem.W.Frag} {mg : Str → Option Value} {base : Heap} {f : Addr} {fd : FuncData} (T : Bn mg) (c_all_stretches : C8.Cal P w K mg base 1 "all_stretches" (spD R_all_stretches) []) (c_asked : C8.Cal P w K mg base 2 "asked" (spD R_asked) []) (F : FunD K "table_of" "table_of" (defArgs s_table_of) (defBody s_table_of) (defScope s_table_of) [] [] f fd) (hm : mg "table_of" = some (.ref f)) : C8.Cal P w K mg base 3 "table_of" (spD R_table_of) [] := by
  refine cal_of (N := N_table_of) (ps := ["lot"]) F hm sc_table_of (fun kV doc pm an cdv ct us hl => by match us, hl with | [u0], _ => rfl) (fun ds d h => by obtain ⟨T, E, rfl, h8, few, rfl⟩ := h; rfl) ?_
  intro cdv A outer s H E hr
  have nd := sc_table_of.nd
  refine ⟨_, (pss_one (ps_ret (pe_callTy (bTup (K := K) rfl) (by rfl) T.btuple (by decide +kernel) (pa_cons (pe_lc (own := [("first", 1), ("last", 2)]) (g := (gTup K 2 (gCons (gName 1) (gCons (gName 2) gNil)))) (tt := tYes)  rfl nd (iL (K := K) rfl (C8.pe_c c_all_stretches hr (by decide) (by rfl) (pa_cons (pe_ix (xT (K := K) rfl) (pv 0) pe_int (fun _ _ => rfl)) pa_nil))) (blkOk_by (own := [("first", 1), ("last", 2)]) (N := N_table_of) (sc := defScope s_table_of) (by decide +kernel)) (fun _ _ _ _ _ => (gT (K := K) (n := 2) rfl rfl (pgs_cons (pg_name (i := 1) nd rfl (.inl rfl)) (pgs_cons (pg_name (i := 2) nd rfl (.inl rfl)) pgs_nil)))) (fun _ _ _ _ _ => pts_nil) (fun _ _ _ _ _ => (C8.pe_c c_asked hr (by decide) (by rfl) (pa_cons (pv 0) (pa_cons (pv 1) (pa_cons (pv 2) pa_nil)))))) pa_nil)))), ?_⟩
  intro ds d h
  obtain ⟨T, E, rfl, h8, few, rfl⟩ := h
  refine ot_ret (et_tupL (et_mapV .int (spans T) winD (fun v => asks E v.1 v.2) (it_list (et_call (ea1 (et_ix (n := 0) et_var et_int rfl)) ⟨T, rfl, h8, rfl⟩)) (by have := spans_len T h8; omega) fun x hx => ⟨_, eg2 (by decide) (by decide), et_call (ea3 et_var et_var et_var) ?_, nol_int⟩)) rfl
  have := mem_spans.mp hx
  exact ⟨T, E, x.1, x.2, rfl, this.1, this.2, few, rfl⟩
def R_is_calendar (ds : List PyData) (d : PyData) : Prop := ∃ (T : Nat) (c : List Int), ds = [.int (T : Nat), calD c] ∧ c.length = T ∧ Nn c ∧ c.length ≤ 1000 ∧ d = .bool true
abbrev N_is_calendar : List Str := ["hours", "thing"]
theorem sc_is_calendar : FnScope N_is_calendar ["hours", "thing"] (defScope s_is_calendar) := ⟨rfl, rfl, rfl, by decide +kernel, rfl, by decide +kernel, by decide +kernel⟩
/- slots: 0:hours 1:thing ; cells:  ; callees: are_numbers -/
theorem w_is_calendar {P : Program} {w : World} {K : PySem.W.Frag} {mg : Str → Option Value} {base : Heap} {f : Addr} {fd : FuncData} (T : Bn mg) (c_are_numbers : C8.Cal P w K mg base 2 "are_numbers" (spD R_are_numbers) []) (F : FunD K "is_calendar" "is_calendar" (defArgs s_is_calendar) (defBody s_is_calendar) (defScope s_is_calendar) [] [] f fd) (hm : mg "is_calendar" = some (.ref f)) : C8.Cal P w K mg base 3 "is_calendar" (spD R_is_calendar) [] := by
  refine cal_of (N := N_is_calendar) (ps := ["hours", "thing"]) F hm sc_is_calendar (fun kV doc pm an cdv ct us hl => by match us, hl with | [u0, u1], _ => rfl) (fun ds d h => by obtain ⟨T, c, rfl, hl, hn, few, rfl⟩ := h; rfl) ?_
  intro cdv A outer s H E hr
  have nd := sc_is_calendar.nd
  refine ⟨_, (pss_one (ps_ret (C8.pe_c c_are_numbers hr (by decide) (by rfl) (pa_cons (pv 1) (pa_cons (pv 0) (pa_cons pe_int pa_nil)))))), ?_⟩
  intro ds d h
  obtain ⟨T, c, rfl, hl, hn, few, rfl⟩ := h
  exact ot_ret (et_call (ea3 et_var et_var et_int) ⟨c, T, 0, rfl, hl, hn, few, rfl⟩) rfl
def R_check_calendar (ds : List PyData) (d : PyData) : Prop := ∃ (T : Nat) (E : List Er) (c : List Int), ds = [lotD T E, calD c] ∧ c.length = T ∧ d = .none
abbrev N_check_calendar : List Str := ["lot", "calendar"]
theorem sc_check_calendar : FnScope N_check_calendar ["lot", "calendar"] (defScope s_check_calendar) := ⟨rfl, rfl, rfl, by decide +kernel, rfl, by decide +kernel, by decide +kernel⟩
/- slots: 0:lot 1:calendar ; cells:  ; callees:  -/
theorem w_check_calendar {P : Program} {w : World} {K : PySem.W.Frag} {mg : Str → Option Value} {base : Heap} {f : Addr} {fd : FuncData} (T : Bn mg) (F : FunD K "check_calendar" "check_calendar" (defArgs s_check_calendar) (defBody s_check_calendar) (defScope s_check_calendar) [] [] f fd) (hm : mg "check_calendar" = some (.ref f)) : C8.Cal P w K mg base 1 "check_calendar" (spD R_check_calendar) [] := by
  refine cal_of (N := N_check_calendar) (ps := ["lot", "calendar"]) F hm sc_check_calendar (fun kV doc pm an cdv ct us hl => by match us, hl with | [u0, u1], _ => rfl) (fun ds d h => by obtain ⟨T, E, c, rfl, hl, rfl⟩ := h; rfl) ?_
  intro cdv A outer s H E hr
  have nd := sc_check_calendar.nd
  refine ⟨_, (pss_one (ps_if (pt_cmpR op_ne (pe_callB (bLen (K := K) rfl) (by rfl) T.blen (by decide +kernel) (pa_cons (pv 1) pa_nil)) (pe_ix (xT (K := K) rfl) (pv 0) pe_int (fun _ _ => rfl)) (nomark _))
      (pss_one ps_never) pss_nil)), ?_⟩
  intro ds d h
  obtain ⟨T, E, c, rfl, hl, rfl⟩ := h
  refine ot_if (b := !decide (((c.map PyData.int).length : Int) = (T : Nat))) (eb_test (et_neI (et_lenT et_var) (et_ix (n := 0) et_var et_int rfl))) (fun e => ?_) fun _ => ot_nx rfl
  rw [List.length_map, hl] at e
  simp at e
def R_hands_in (ds : List PyData) (d : PyData) : Prop := ∃ (c : List Int) (g l : Nat), ds = [calD c, .int (g : Nat), .int (l : Nat)] ∧ g ≤ l ∧ l < c.length ∧ d = .int (csum c g (l + 1))
theorem cal_slice (c : List Int) (g n : Nat) : (((c.map PyData.int).drop g).take (n - g)) = (((c.drop g).take (n - g)).map PyData.int) := by rw [List.map_take, List.map_drop]
abbrev N_hands_in : List Str := ["calendar", "first", "last"]
theorem sc_hands_in : FnScope N_hands_in ["calendar", "first", "last"] (defScope s_hands_in) := ⟨rfl, rfl, rfl, by decide +kernel, rfl, by decide +kernel, by decide +kernel⟩
/- slots: 0:calendar 1:first 2:last ; cells:  ; callees: check_stretch -/
theorem w_hands_in {P : Program} {w : World} {K : PySem.W.Frag} {mg : Str → Option Value} {base : Heap} {f : Addr} {fd : FuncData} (T : Bn mg) (c_check_stretch : C8.Cal P w K mg base 1 "check_stretch" (spD R_check_stretch) []) (F : FunD K "hands_in" "hands_in" (defArgs s_hands_in) (defBody s_hands_in) (defScope s_hands_in) [] [] f fd) (hm : mg "hands_in" = some (.ref f)) : C8.Cal P w K mg base 2 "hands_in" (spD R_hands_in) [] := by
  refine cal_of (N := N_hands_in) (ps := ["calendar", "first", "last"]) F hm sc_hands_in (fun kV doc pm an cdv ct us hl => by match us, hl with | [u0, u1, u2], _ => rfl) (fun ds d h => by obtain ⟨c, g, l, rfl, h1, h2, rfl⟩ := h; rfl) ?_
  intro cdv A outer s H E hr
  have nd := sc_hands_in.nd
  refine ⟨_, (pss_cons (ps_expr (C8.pe_c c_check_stretch hr (by decide) (by rfl) (pa_cons (pe_callB (bLen (K := K) rfl) (by rfl) T.blen (by decide +kernel) (pa_cons (pv 0) pa_nil)) (pa_cons (pv 1) (pa_cons (pv 2) pa_nil)))))
    (pss_one (ps_ret (pe_callB (bSumT (K := K) rfl rfl) (by rfl) T.bsum (by decide +kernel) (pa_cons (pe_slice (yT (K := K) rfl) (pv 0) (po_some (pv 1)) (po_some (pe_op op_add (pv 2) pe_int))) pa_nil))))), ?_⟩
  intro ds d h
  obtain ⟨c, g, l, rfl, h1, h2, rfl⟩ := h
  refine ot_do (et_call (ea3 (et_lenT et_var) et_var et_var) ⟨c.length, g, l, by rw [List.length_map], h1, h2, rfl⟩) (ot_ret (et_sumT (ns := (c.drop g).take (l + 1 - g)) (et_is (et_slT (lo := g) (hi := l + 1) et_var et_var (et_is (et_I0 et_var et_int) (by simp))) ?_)) rfl)
  rw [cal_slice]
end K68

namespace K68
open PySem PySem.Spec PyProof.Rows L2
open Evl (Ex)
/-! ### answers that are one of several -/
def spM (R : List PyData → (PyData → Prop) → Prop) : Sp := fun vs H Q _ => ∃ ds Po, HvAll H vs ds ∧ R ds Po ∧ ∀ d v H', Po d → Ex H H' → Hv H' v d → Q v H'
def ETN (ρ : Env) (te : TE) (Po : PyData → Prop) : Prop := ∀ σ H, Sl σ H ρ → ∀ Q : VK, (∀ d v H', Po d → Ex H H' → Hv H' v d → Q v H') → te σ H Q
def EAN (ρ : Env) (ta : TA) (Po : List PyData → Prop) : Prop := ∀ σ H, Sl σ H ρ → ∀ Q : List V → Hp → Prop, (∀ ds vs H', Po ds → Ex H H' → HvAll H' vs ds → Q vs H') → ta σ H Q
section
variable {ρ : Env} {ta tb te : TE} {tt tu : TT} {t u : TS} {K : PySem.W.Frag} {N M : Env → Prop} {R : PyData → Prop}
theorem ET.n {d : PyData} {Po : PyData → Prop} (h : ET ρ te d) (p : Po d) : ETN ρ te Po := fun σ H S Q q => h σ H S _ fun v H' e hv => q d v H' p e hv
theorem EA.n {ta : TA} {ds : List PyData} {Po : List PyData → Prop} (h : EA ρ ta ds) (p : Po ds) : EAN ρ ta Po := fun σ H S Q q => h σ H S _ fun v H' e hv => q ds v H' p e hv
theorem ean_cons {tr : TA} {P1 : PyData → Prop} {ds : List PyData} (h : ETN ρ te P1) (hr : EA ρ tr ds) : EAN ρ (tCons te tr) fun es => ∃ d, P1 d ∧ es = d :: ds := fun σ H S Q q => h σ H S _ fun d v H1 p e1 hv => hr σ H1 (S.up e1) _ fun vs H2 e2 hvs => q _ _ H2 ⟨d, p, rfl⟩ (e1.trans e2) ⟨hv.up e2, hvs⟩
theorem etn_call {R : List PyData → (PyData → Prop) → Prop} {ta : TA} {E : XK} {ds : List PyData} {Po : PyData → Prop} (h : EA ρ ta ds) (hr : R ds Po) : ETN ρ (tCall (spM R) [] E ta) Po := fun σ H S Q q => h σ H S _ fun vs H1 e1 hv => ⟨ds, Po, by rw [List.append_nil]; exact hv, hr, fun d v H' p e2 h2 => q d v H' p (e1.trans e2) h2⟩
theorem et_callN {R : List PyData → PyData → Prop} {ta : TA} {E : XK} {Pd : List PyData → Prop} {d : PyData} (h : EAN ρ ta Pd) (hr : ∀ ds, Pd ds → R ds d) : ET ρ (tCall (spD R) [] E ta) d := fun σ H S Q q => h σ H S _ fun ds vs H1 p e1 hv => ⟨ds, d, by rw [List.append_nil]; exact hv, hr ds p, fun v H' e2 h2 => q v H' (e1.trans e2) h2⟩
theorem ot_retN (h : ETN ρ te R) : OT ρ (tRet te) N R := fun σ H S D n k => h σ H S _ fun d v H' p e hv => k d v H' p e hv
theorem ot_letN {i : Nat} {Po : PyData → Prop} (h : ETN ρ te Po) (k : ∀ d, Po d → OT (ρ.set i (some d)) u N R) : OT ρ (tSeq (tAsg te (gName i)) u) N R := fun σ H S D nx r =>
  h σ H S _ fun d v H1 p e1 hv => k d p _ H1 ((S.up e1).set i hv) D (fun ρ2 σ2 H2 n e2 S2 => nx ρ2 σ2 H2 n (e1.trans e2) S2) fun d v H2 q e2 hv => r d v H2 q (e1.trans e2) hv
theorem ETN.imp {P1 P2 : PyData → Prop} (h : ETN ρ te P1) (k : ∀ d, P1 d → P2 d) : ETN ρ te P2 := fun σ H S Q q => h σ H S Q fun d v H' p e hv => q d v H' (k d p) e hv
end
section
variable {P : Program} {w : World} {K : PySem.W.Frag} {mg : Str → Option Value} {base : Heap}
theorem cal_raw {x : Str} {params : Arguments} {body : List Stmt} {scope : Scope} {f : Addr} {fd : FuncData} {N ps : List Str} {k : Nat} {sp : Sp} (F : FunD K x x params body scope [] [] f fd) (hm : mg x = some (.ref f)) (S : FnScope N ps scope)
    (hb : ∀ (kV doc pm : Value) (an : Option Addr) (cdv ct : Value) (us : List Value), us.length = ps.length → bindArgs (PySem.W.fnOf x x params body scope .none kV doc pm an cdv ct) ⟨us, []⟩ = pure (ps.zip us))
    (len : ∀ vs H Q E, sp vs H Q E → vs.length = ps.length)
    (hbody : ∀ (cdv : Value) (A : Around) (outer : List PySem.Env) (s : Shared) (H : Hp) (vs : List V) (Q : VK) (E : XK), Room k (A.deeper (envOfC x scope s.heap.objs.size f cdv)) → sp vs H Q E →
      ∃ t, PSs (cxOf C8.CX0 P w K mg base N x scope f cdv A outer s H E).nox body t ∧ t { nx := fun _ H' => Q .non H', rt := Q } (L2.start N vs) H) : C8.Cal P w K mg base (k + 1) x sp [] :=
  ⟨f, fd, ps, [], F.ok S len fun cdv A outer s H vs Q E hr hsp => by
    obtain ⟨t, h, q⟩ := hbody cdv A outer s H vs Q E hr hsp
    exact ⟨t, h.nox, q⟩, hm, F.kp, F.bindsN hb, .nil⟩
theorem cal_ofM {x : Str} {params : Arguments} {body : List Stmt} {scope : Scope} {f : Addr} {fd : FuncData} {N ps : List Str} {k : Nat} {R : List PyData → (PyData → Prop) → Prop} (F : FunD K x x params body scope [] [] f fd) (hm : mg x = some (.ref f)) (S : FnScope N ps scope)
    (hb : ∀ (kV doc pm : Value) (an : Option Addr) (cdv ct : Value) (us : List Value), us.length = ps.length → bindArgs (PySem.W.fnOf x x params body scope .none kV doc pm an cdv ct) ⟨us, []⟩ = pure (ps.zip us))
    (len : ∀ ds Po, R ds Po → ds.length = ps.length)
    (hbody : ∀ (cdv : Value) (A : Around) (outer : List PySem.Env) (s : Shared) (H : Hp) (E : XK), Room k (A.deeper (envOfC x scope s.heap.objs.size f cdv)) →
      ∃ t, PSs (cxOf C8.CX0 P w K mg base N x scope f cdv A outer s H E).nox body t ∧ ∀ ds Po, R ds Po → OT (env0 N.length ds) t (fun _ => Po .none) Po) : C8.Cal P w K mg base (k + 1) x (spM R) [] :=
  cal_raw F hm S hb (fun vs H Q E h => by obtain ⟨ds, d, h1, h2, _⟩ := h; rw [h1.len]; exact len ds d h2) fun cdv A outer s H vs Q E hr hsp => by
      obtain ⟨ds, Po, h1, h2, q⟩ := hsp
      obtain ⟨t, p, o⟩ := hbody cdv A outer s H E hr
      have hl : ds.length ≤ N.length := by
        rw [len ds Po h2, ← S.pre, List.length_take]
        exact Nat.min_le_right ..
      exact ⟨t, p, o ds Po h2 _ H (sl_start h1 hl) _ (fun ρ' σ' H' n e S' => q .none .non H' n e .non) fun d' v H' n e hv => q d' v H' n e hv⟩
end
theorem good_list {K : PySem.W.Frag} {H : Hp} {a : Addr} {xs : List V} {ds : List PyData} (h : H a = some (.lst xs)) (t : TpAll H xs ds) : Good (Itl K a) ds H := by
  have := @it_list [some (.list ds)] (tVar 0) K ds (et_var (i := 0)) [some (.ref a)] H ⟨rfl, fun i d q => by
    cases i with
    | zero => cases q; exact ⟨_, rfl, a, xs, rfl, h, t⟩
    | succ i => simp at q⟩ (fun J H' => Good J ds H') (fun J H' e g => g)
  obtain ⟨v, e, a', e', _, g⟩ := this
  cases e
  cases e'
  exact g
theorem good_tup {K : PySem.W.Frag} {H : Hp} {a : Addr} {xs : List V} {ds : List PyData} (h : H a = some (.tup xs)) (t : TpAll H xs ds) : Good (Itt K a) ds H := by
  have := @it_tup [some (.tuple ds)] (tVar 0) K ds (et_var (i := 0)) [some (.ref a)] H ⟨rfl, fun i d q => by
    cases i with
    | zero => cases q; exact ⟨_, rfl, .tup h t⟩
    | succ i => simp at q⟩ (fun J H' => Good J ds H') (fun J H' e g => g)
  obtain ⟨v, e, a', e', _, g⟩ := this
  cases e
  cases e'
  exact g
theorem keep_at {σ σ2 : L2.St} {vs : List Nat} (h : wipe σ2 vs = wipe σ vs) {i : Nat} (hi : i ∉ vs) : σ2[i]? = σ[i]? := by
  rw [← wipe_at σ2 i vs hi, h, wipe_at σ i vs hi]
/-- a loop, told in heaps -/
theorem raw_forE {J : It} {l : List PyData} {H0 : Hp} {g : TG} {tb : TS} {nx bk : L2.St → Hp → Prop} {rt : VK} {σ : L2.St} {H : Hp} (good : Good J l H0) (Inv : Nat → L2.St → Hp → Prop) (ext : ∀ i σ' H', Inv i σ' H' → Ex H0 H') (h0 : Inv 0 σ H)
    (hs : ∀ (i : Nat) (d : PyData) (σ' : L2.St) (H' : Hp), l[i]? = some d → Inv i σ' H' → ∀ x H2, Ex H' H2 → Hv H2 x d → g x σ' H2 fun σ2 H3 => tb { nx := Inv (i + 1), rt := rt, bk := bk, ct := Inv (i + 1) } σ2 H3) (hd : ∀ σ' H', Inv l.length σ' H' → nx σ' H') :
    ∃ W : Nat → Nat → L2.St → Hp → Prop, (∃ m, W 0 m σ H) ∧ ∀ i m σ H, W i m σ H →
      (J.stop i H ∧ nx σ H) ∨ (J.go i H ∧ ∃ N : L2.St → Hp → Prop, (∀ σ' H', N σ' H' → ∃ m', m' < m ∧ W (i + 1) m' σ' H') ∧ ∀ x H', J.yld i H x H' → g x σ H' fun σ2 H2 => tb { nx := N, rt := rt, bk := bk, ct := N } σ2 H2) := by
  refine ⟨fun i m σ' H' => m = l.length - i ∧ i ≤ l.length ∧ Inv i σ' H', ⟨l.length, by simp, Nat.zero_le _, h0⟩, ?_⟩
  rintro i m σ' H' ⟨rfl, hi, iv⟩
  obtain ⟨st, go⟩ := good H' (ext i σ' H' iv)
  by_cases hlt : i < l.length
  · obtain ⟨d, hdd⟩ : ∃ d, l[i]? = some d := ⟨_, List.getElem?_eq_getElem hlt⟩
    obtain ⟨g1, g2⟩ := go i d hdd
    refine .inr ⟨g1, Inv (i + 1), fun σ2 H2 n => ⟨l.length - (i + 1), by omega, rfl, hlt, n⟩, fun x H2 y => ?_⟩
    obtain ⟨e2, hx⟩ := g2 x H2 y
    exact hs i d σ' H' hdd iv x H2 e2 hx
  · have e : i = l.length := by omega
    subst e
    exact .inl ⟨st, hd σ' H' iv⟩
theorem raw_for {J : It} {l : List PyData} {H0 : Hp} {g : TG} {tb : TS} {D : Ends} {σ : L2.St} {H : Hp} (good : Good J l H0) (Inv : Nat → L2.St → Hp → Prop) (ext : ∀ i σ' H', Inv i σ' H' → Ex H0 H') (h0 : Inv 0 σ H)
    (hs : ∀ (i : Nat) (d : PyData) (σ' : L2.St) (H' : Hp), l[i]? = some d → Inv i σ' H' → ∀ x H2, Ex H' H2 → Hv H2 x d → g x σ' H2 fun σ2 H3 => tb { D with nx := Inv (i + 1), ct := Inv (i + 1), bk := D.nx } σ2 H3) (hd : ∀ σ' H', Inv l.length σ' H' → D.nx σ' H') :
    ∃ W : Nat → Nat → L2.St → Hp → Prop, (∃ m, W 0 m σ H) ∧ ∀ i m σ H, W i m σ H →
      (J.stop i H ∧ D.nx σ H) ∨ (J.go i H ∧ ∃ N : L2.St → Hp → Prop, (∀ σ' H', N σ' H' → ∃ m', m' < m ∧ W (i + 1) m' σ' H') ∧ ∀ x H', J.yld i H x H' → g x σ H' fun σ2 H2 => tb { D with nx := N, ct := N, bk := D.nx } σ2 H2) := by
  refine ⟨fun i m σ' H' => m = l.length - i ∧ i ≤ l.length ∧ Inv i σ' H', ⟨l.length, by simp, Nat.zero_le _, h0⟩, ?_⟩
  rintro i m σ' H' ⟨rfl, hi, iv⟩
  obtain ⟨st, go⟩ := good H' (ext i σ' H' iv)
  by_cases hlt : i < l.length
  · obtain ⟨d, hdd⟩ : ∃ d, l[i]? = some d := ⟨_, List.getElem?_eq_getElem hlt⟩
    obtain ⟨g1, g2⟩ := go i d hdd
    refine .inr ⟨g1, Inv (i + 1), fun σ2 H2 n => ⟨l.length - (i + 1), by omega, rfl, hlt, n⟩, fun x H2 y => ?_⟩
    obtain ⟨e2, hx⟩ := g2 x H2 y
    exact hs i d σ' H' hdd iv x H2 e2 hx
  · have e : i = l.length := by omega
    subst e
    exact .inl ⟨st, hd σ' H' iv⟩
/-! ### sorted errands -/
def natD : PyData → Nat
  | .int i => i.toNat
  | _ => 0
def intD : PyData → Int
  | .int i => i
  | _ => 0
def unW : PyData → Win
  | .tuple [a, b] => (natD a, natD b)
  | _ => (0, 0)
def unE : PyData → Er
  | .tuple [x, c] => (unW x, intD c)
  | _ => ((0, 0), 0)
theorem un_er (e : Er) : unE (erD e) = e := rfl
theorem un_win (w : Win) : unW (winD w) = w := rfl
theorem TpAll.zip {H : Hp} : ∀ {vs : List V} {ds : List PyData}, TpAll H vs ds → ∀ b ∈ vs.zip ds, Tp H b.1 b.2
  | _, [], h, b, hb => by simp at hb
  | _, d :: ds, h, b, hb => by
    cases h with
    | cons h1 h2 =>
      rw [List.zip_cons_cons] at hb
      rcases List.mem_cons.mp hb with h | h
      · rw [h]; exact h1
      · exact TpAll.zip h2 b h
theorem TpAll.of {H : Hp} : ∀ {bs : List (V × PyData)}, (∀ b ∈ bs, Tp H b.1 b.2) → TpAll H (bs.map (·.1)) (bs.map (·.2))
  | [], _ => .nil
  | b :: bs, h => .cons (h b (List.mem_cons_self ..)) (TpAll.of fun x hx => h x (List.mem_cons_of_mem _ hx))
theorem raw_sort {α : Type} {H : Hp} {Q : VK} {v : V} {l : List α} (enc : α → PyData) (un : PyData → α) (hun : ∀ a, un (enc a) = a) (hal : ∀ a b, PySem.W.alike (enc a) (enc b) = true) (htu : ∀ a, ∃ x r, enc a = .tuple (x :: r)) (hdp : ∀ a, (enc a).depth ≤ 10) (few : l.length ≤ 1000) (hv : Hv H v (.list (l.map enc)))
    (q : ∀ (l' : List α) v' H', l'.Perm l → Ex H H' → Hv H' v' (.list (l'.map enc)) → Q v' H') : rSortD [v] H Q := by
  obtain ⟨a, xs, rfl, h1, h2⟩ := hv
  have hlen := h2.len
  have m1 : (xs.zip (l.map enc)).map (·.1) = xs := List.map_fst_zip (by omega)
  have m2 : (xs.zip (l.map enc)).map (·.2) = l.map enc := List.map_snd_zip (by omega)
  have hb : ∀ b ∈ xs.zip (l.map enc), ∃ e, b.2 = enc e := fun b hb => by
    have : b.2 ∈ l.map enc := by rw [← m2]; exact List.mem_map.mpr ⟨b, hb, rfl⟩
    obtain ⟨e, _, h⟩ := List.mem_map.mp this
    exact ⟨e, h.symm⟩
  refine ⟨a, xs.zip (l.map enc), rfl, by rw [m1]; exact h1, ⟨h2.zip, ?_, .inl ?_, ?_, ?_⟩, fun ys hp p hn => ?_⟩
  · rw [m2]
    intro d hd d' hd'
    obtain ⟨e, _, rfl⟩ := List.mem_map.mp hd
    obtain ⟨e', _, rfl⟩ := List.mem_map.mp hd'
    exact hal e e'
  · rw [m2]
    intro d hd
    obtain ⟨e, _, rfl⟩ := List.mem_map.mp hd
    exact htu e
  · rw [List.length_zip, List.length_map]; omega
  · intro b hbm
    obtain ⟨e, h⟩ := hb b hbm
    rw [h]
    exact hdp e
  · have e2 : Ex H (upd H p (.lst (ys.map (·.1)))) := Evl.Ex.new hn
    refine q (ys.map fun y => un y.2) _ _ ?_ e2 ⟨p, _, rfl, upd_same, ?_⟩
    · have := hp.map fun y : V × PyData => un y.2
      refine this.trans ?_
      have e3 : (xs.zip (l.map enc)).map (fun y => un y.2) = l := by
        have := congrArg (List.map un) m2
        rw [List.map_map, List.map_map] at this
        rw [show (fun y : V × PyData => un y.2) = un ∘ (fun y => y.2) from rfl, this]
        conv => rhs; rw [← List.map_id l]
        exact List.map_congr_left fun e _ => hun e
      rw [e3]
    · have e4 : (ys.map fun y => un y.2).map enc = ys.map (·.2) := by
        rw [List.map_map]
        refine List.map_congr_left fun y hy => ?_
        obtain ⟨e, h⟩ := hb y (hp.subset hy)
        simp only [Function.comp]
        rw [h, hun]
      rw [e4]
      exact (TpAll.of fun b hbm => h2.zip b (hp.subset hbm)).mono (Ex.tex e2)
theorem er_alike (a b : Er) : PySem.W.alike (erD a) (erD b) = true := rfl
theorem win_alike (a b : Win) : PySem.W.alike (winD a) (winD b) = true := rfl
theorem sl_of {σ : L2.St} {H : Hp} {ρ : Env} (hl : σ.length = ρ.length) (h : ∀ (i : Nat) (d : PyData), ρ[i]? = some (some d) → ∃ v, σ[i]? = some (some v) ∧ Hv H v d) : Sl σ H ρ := ⟨hl, h⟩
/-! ### a dict of windows -/
def valE (l : List Er) (w : Win) : Option Int := (l.find? fun e => decide (e.1 = w)).map (·.2)
def putE (l : List Er) (w : Win) (v : Int) : List Er := if (l.any fun e => decide (e.1 = w)) = true then l.map (fun e => if e.1 = w then (e.1, v) else e) else l ++ [(w, v)]
theorem winK_inj {u w : Win} : winK u = winK w ↔ u = w := by
  constructor
  · intro h
    unfold winK at h
    injection h with h1 h2
    injection h2 with h2 _
    injection h1 with h1
    injection h2 with h2
    exact Prod.ext (by omega) (by omega)
  · rintro rfl; rfl
theorem val_rows (w : Win) : ∀ l : List Er, valV (l.map rowE) (winK w) = (valE l w).map V.int
  | [] => rfl
  | e :: l => by
    by_cases h : e.1 = w
    · rw [List.map_cons, valV_pos (p := rowE e) (winK_inj.mpr h)]
      simp [valE, List.find?_cons, h, rowE]
    · rw [List.map_cons, valV_neg (p := rowE e) (fun z => h (winK_inj.mp z)), val_rows w l]
      simp [valE, List.find?_cons, h]
theorem put_rows (l : List Er) (w : Win) (v : Int) : putK (l.map rowE) (winK w) (.int v) = (putE l w v).map rowE := by
  have e1 : ((l.map rowE).any fun kv => decide (kv.1 = winK w)) = l.any fun e => decide (e.1 = w) := by
    rw [List.any_map]
    congr 1
    funext e
    exact decide_eq_decide.mpr winK_inj
  unfold putK putE
  rw [e1]
  by_cases h : (l.any fun e => decide (e.1 = w)) = true
  · rw [if_pos h, if_pos h, List.map_map, List.map_map]
    refine List.map_congr_left fun e _ => ?_
    by_cases he : e.1 = w
    · simp only [Function.comp, if_pos he]
      rw [if_pos (show (rowE e).1 = winK w from winK_inj.mpr he)]
      rfl
    · simp only [Function.comp, if_neg he]
      rw [if_neg (show ¬ (rowE e).1 = winK w from fun z => he (winK_inj.mp z))]
  · rw [if_neg h, if_neg h, List.map_append]
    rfl
theorem valE_none {l : List Er} {w : Win} : valE l w = none ↔ ∀ e ∈ l, e.1 ≠ w := by
  unfold valE
  simp
theorem valE_mem {l : List Er} {w : Win} {v : Int} (h : valE l w = some v) : (w, v) ∈ l := by
  unfold valE at h
  cases e : l.find? (fun e => decide (e.1 = w)) with
  | none => rw [e] at h; cases h
  | some x =>
    rw [e] at h
    have h1 := List.mem_of_find?_eq_some e
    have h2 := List.find?_some e
    have h2 : x.1 = w := by simpa using h2
    have h3 : x.2 = v := Option.some.inj h
    rw [← h2, ← h3]; exact h1
theorem valE_in {l : List Er} {w : Win} (h : ∃ e ∈ l, e.1 = w) : ∃ v, valE l w = some v := by
  cases e : valE l w with
  | some v => exact ⟨v, rfl⟩
  | none => obtain ⟨x, h1, h2⟩ := h; exact absurd h2 (valE_none.mp e x h1)
theorem any_of {l : List Er} {w : Win} : (l.any fun e => decide (e.1 = w)) = true ↔ ∃ e ∈ l, e.1 = w := by simp
theorem putE_mem {l : List Er} {w : Win} {v : Int} {e : Er} (h : e ∈ putE l w v) : e ∈ l ∨ e = (w, v) := by
  unfold putE at h
  split at h
  · obtain ⟨x, hx, rfl⟩ := List.mem_map.mp h
    by_cases he : x.1 = w
    · rw [if_pos he, he]; exact .inr rfl
    · rw [if_neg he]; exact .inl hx
  · rcases List.mem_append.mp h with h | h
    · exact .inl h
    · exact .inr (by simpa using h)
theorem putE_old {l : List Er} {w : Win} {v : Int} (h : ∃ e ∈ l, e.1 = w) : (putE l w v).map (·.1) = l.map (·.1) := by
  unfold putE
  rw [if_pos (any_of.mpr h), List.map_map]
  refine List.map_congr_left fun e _ => ?_
  simp only [Function.comp]
  split <;> rfl
theorem putE_new {l : List Er} {w : Win} {v : Int} (h : valE l w = none) : putE l w v = l ++ [(w, v)] := by
  unfold putE
  rw [if_neg fun z => ?_]
  obtain ⟨e, h1, h2⟩ := any_of.mp z
  exact valE_none.mp h e h1 h2
theorem putE_len (l : List Er) (w : Win) (v : Int) : (putE l w v).length ≤ l.length + 1 := by
  unfold putE
  split <;> simp
theorem putE_nd {l : List Er} {w : Win} {v : Int} (h : (l.map (·.1)).Nodup) : ((putE l w v).map (·.1)).Nodup := by
  by_cases k : ∃ e ∈ l, e.1 = w
  · rw [putE_old k]; exact h
  · have hn : valE l w = none := valE_none.mpr fun e he z => k ⟨e, he, z⟩
    rw [putE_new hn, List.map_append, List.nodup_append]
    refine ⟨h, by simp, fun a ha b hb => ?_⟩
    simp at hb
    subst hb
    obtain ⟨e, he, rfl⟩ := List.mem_map.mp ha
    exact valE_none.mp hn e he
theorem put_fs_old (P : Win → Bool) {w : Win} {v x : Int} : ∀ {l : List Er}, (l.map (·.1)).Nodup → valE l w = some x → fs (l.map fun e => if e.1 = w then (e.1, v) else e) P = fs l P + if P w then v - x else 0
  | [], _, h => by cases h
  | e :: l, nd, h => by
    rw [List.map_cons, List.nodup_cons] at nd
    rw [List.map_cons, fs_cons, fs_cons]
    by_cases he : e.1 = w
    · have hx : e.2 = x := by
        unfold valE at h
        rw [List.find?_cons] at h
        simp [he] at h
        exact h
      have hrest : (l.map fun e => if e.1 = w then (e.1, v) else e) = l := by
        conv => rhs; rw [← List.map_id l]
        refine List.map_congr_left fun y hy => ?_
        rw [if_neg fun z => nd.1 (List.mem_map.mpr ⟨y, hy, by rw [z, he]⟩)]
        rfl
      rw [hrest, if_pos he, he, hx]
      by_cases hp : P w = true
      · simp only [hp, if_true]; omega
      · simp only [hp, if_false, Bool.false_eq_true]; omega
    · have h' : valE l w = some x := by
        unfold valE at h ⊢
        rw [List.find?_cons] at h
        simpa [he] using h
      rw [if_neg he, put_fs_old P nd.2 h']
      omega
theorem fs_put (P : Win → Bool) {l : List Er} (nd : (l.map (·.1)).Nodup) (w : Win) (v : Int) : fs (putE l w v) P = fs l P + if P w then v - (valE l w).getD 0 else 0 := by
  cases h : valE l w with
  | none =>
    rw [putE_new h, fs_app, fs_cons, fs_nil]
    simp
  | some x =>
    unfold putE
    rw [if_pos (any_of.mpr ⟨_, valE_mem h, rfl⟩), put_fs_old P nd h]
    rfl
theorem fs_pos (P : Win → Bool) : ∀ E : List Er, (∀ e ∈ E, 0 ≤ e.2) → fs (E.filter fun e => decide (0 < e.2)) P = fs E P
  | [], _ => rfl
  | e :: E, h => by
    have ih := fs_pos P E fun x hx => h x (List.mem_cons_of_mem _ hx)
    have h0 := h e (List.mem_cons_self ..)
    rw [List.filter_cons, fs_cons]
    by_cases hp : 0 < e.2
    · rw [if_pos (by simpa using hp), fs_cons, ih]
    · rw [if_neg (by simpa using hp), ih]
      have : e.2 = 0 := by omega
      rw [this]; simp
end K68

namespace K68
open PySem PySem.Spec PyProof.Rows L2
open Evl (Ex)
theorem er_depth (e : Er) : (erD e).depth ≤ 10 := by show (2 : Nat) ≤ 10; decide
theorem win_depth (w : Win) : (winD w).depth ≤ 10 := by show (1 : Nat) ≤ 10; decide
/-- the same work in the same windows, each window once -/
def Like (T : Nat) (F E : List Er) : Prop := (∀ e ∈ E, e.1.1 ≤ e.1.2 ∧ e.1.2 < T) ∧ (∀ e ∈ E, 1 ≤ e.2) ∧ E.length ≤ F.length ∧ ∀ P, fs E P = fs F P
def R_made_lot (ds : List PyData) (Po : PyData → Prop) : Prop := ∃ (T : Nat) (F : List Er), ds = [.int (T : Nat), .list (F.map erD)] ∧ (∀ e ∈ F, e.1.1 ≤ e.1.2 ∧ e.1.2 < T) ∧ (∀ e ∈ F, 1 ≤ e.2) ∧ F.length ≤ 40 ∧ Po = fun d => ∃ E, Like T F E ∧ d = lotD T E
abbrev N_made_lot : List Str := ["hours", "errands", "found", "work", "first", "last", "window"]
theorem sc_made_lot : FnScope N_made_lot ["hours", "errands"] (defScope s_made_lot) := ⟨rfl, rfl, rfl, by decide +kernel, rfl, by decide +kernel, by decide +kernel⟩
/- slots: 0:hours 1:errands 2:found 3:work 4:first 5:last 6:window ; cells:  ; callees: check_stretch -/
theorem w_made_lot {P : Program} {w : World} {K : PySem.W.Frag} {mg : Str → Option Value} {base : Heap} {f : Addr} {fd : FuncData} (T : Bn mg) (c_check_stretch : C8.Cal P w K mg base 1 "check_stretch" (spD R_check_stretch) []) (F : FunD K "made_lot" "made_lot" (defArgs s_made_lot) (defBody s_made_lot) (defScope s_made_lot) [] [] f fd) (hm : mg "made_lot" = some (.ref f)) : C8.Cal P w K mg base 2 "made_lot" (spM R_made_lot) [] := by
  refine cal_raw (N := N_made_lot) (ps := ["hours", "errands"]) F hm sc_made_lot (fun kV doc pm an cdv ct us hl => by match us, hl with | [u0, u1], _ => rfl) (fun vs H Q E h => by obtain ⟨ds, Po, h1, ⟨T, F, rfl, _⟩, _⟩ := h; exact h1.len) ?_
  intro cdv A outer s H vs Q E hr h
  have nd := sc_made_lot.nd
  refine ⟨_, (pss_cons (ps_set (i := 2) nd rfl (.inl rfl) pe_dnewT)
    (pss_cons (ps_for PassesOwn.never rfl (iL (K := K) rfl (pv 1)) (gT (K := K) (n := 2) rfl rfl (pgs_cons (gT (K := K) (n := 2) rfl rfl (pgs_cons (pg_name (i := 4) nd rfl (.inl rfl)) (pgs_cons (pg_name (i := 5) nd rfl (.inl rfl)) pgs_nil))) (pgs_cons (pg_name (i := 3) nd rfl (.inl rfl)) pgs_nil)))
      (pss_cons (ps_expr (C8.pe_c c_check_stretch hr (by decide) (by rfl) (pa_cons (pv 0) (pa_cons (pv 4) (pa_cons (pv 5) pa_nil)))))
    (pss_one (ps_dput (hu_of hr) (pv 2) (pe_tup (pa_cons (pv 4) (pa_cons (pv 5) pa_nil))) (pe_op op_add (pe_dget2 (hu_of hr) (pv 2) (pe_tup (pa_cons (pv 4) (pa_cons (pv 5) pa_nil))) pe_int ⟨rfl, rfl, rfl, rfl⟩) (pv 3)) rfl))))
    (pss_one (ps_ret (pe_tup (pa_cons (pv 0) (pa_cons (pe_callTy (bTup (K := K) rfl) (by rfl) T.btuple (by decide +kernel) (pa_cons (pe_callB (cr_sortD hr.units) (by rfl) T.bsorted (by decide +kernel) (pa_cons (pe_lc (own := [("window", 6), ("work", 3)]) (g := (gTup K 2 (gCons (gName 6) (gCons (gName 3) gNil))))  rfl nd (pi_itemsT (pv 2)) (blkOk_by (own := [("window", 6), ("work", 3)]) (N := N_made_lot) (sc := defScope s_made_lot) (by decide +kernel)) (fun _ _ _ _ _ => (gT (K := K) (n := 2) rfl rfl (pgs_cons (pg_name (i := 6) nd rfl (.inl rfl)) (pgs_cons (pg_name (i := 3) nd rfl (.inl rfl)) pgs_nil)))) (fun _ _ _ _ _ => (pts_one (pt_cmpR op_gt (pv 3) pe_int (nomark _)))) (fun _ _ _ _ _ => (pe_tup (pa_cons (pv 6) (pa_cons (pv 3) pa_nil))))) pa_nil)) pa_nil)) pa_nil))))))), ?_⟩
  obtain ⟨ds, Po, hv, ⟨n, G, rfl, hw, hp, few, rfl⟩, q⟩ := h
  obtain ⟨x, y, rfl, hx, hy⟩ := hv2 hv
  have hx := hv_int hx
  subst hx
  obtain ⟨la, xs, rfl, hl, ht⟩ := hy
  intro d hd
  have l7 : ∀ {σ : L2.St} {H' : Hp}, σ.length = 7 → σ[0]? = some (some (.int (n : Nat))) → Sl σ H' [some (.int (n : Nat)), none, none, none, none, none, none] := fun {σ H'} hs h0 => ⟨hs, fun i d q => by
    match i, q with
    | 0, q => cases q; exact ⟨_, h0, .int _⟩
    | 1, q => cases q
    | 2, q => cases q
    | 3, q => cases q
    | 4, q => cases q
    | 5, q => cases q
    | 6, q => cases q
    | k + 7, q => simp at q⟩
  refine ⟨_, rfl, la, rfl, ⟨xs, SqL.of (Evl.Ex.new hd _ _ hl)⟩, raw_for (l := G.map erD) (H0 := H) (good_list hl ht)
    (fun i σ' H' => Ex H H' ∧ σ'.length = 7 ∧ σ'[0]? = some (some (.int (n : Nat))) ∧ σ'[2]? = some (some (.ref d)) ∧ ∃ l : List Er, H' d = some (.dT (l.map rowE)) ∧ (l.map (·.1)).Nodup ∧ (∀ e ∈ l, e.1.1 ≤ e.1.2 ∧ e.1.2 < n) ∧ (∀ e ∈ l, 1 ≤ e.2) ∧ l.length ≤ i ∧ ∀ P, fs l P = fs (G.take i) P)
    (fun i σ' H' iv => iv.1) ⟨Evl.Ex.new hd, rfl, rfl, rfl, [], upd_same, List.nodup_nil, (fun e he => by cases he), (fun e he => by cases he), Nat.le_refl _, fun P => by simp⟩ ?_ ?_⟩
  · rintro i dd σ' H' hdd ⟨eH, s7, s0, s2, l, hdT, nd', lw, lp, ll, lf⟩ z H2 e2 hz
    rw [List.getElem?_map] at hdd
    obtain ⟨e, he, rfl⟩ : ∃ e, G[i]? = some e ∧ erD e = dd := by
      cases he : G[i]? with
      | none => rw [he] at hdd; cases hdd
      | some e => rw [he] at hdd; exact ⟨e, rfl, Option.some.inj hdd⟩
    have hi := (List.getElem?_eq_some_iff.mp he).1
    have hm := List.mem_of_getElem? he
    have hwe := hw e hm
    have hpe := hp e hm
    refine eg21 (K := K) (vs := [4, 5, 3]) (d := .int (e.1.1 : Nat)) (e := .int (e.1.2 : Nat)) (f := .int e.2) (by decide) (by decide) (by decide) σ' H2 z (l7 s7 s0) hz _ fun σ2 S2 w2 => ?_
    have k2 : σ2[2]? = some (some (.ref d)) := (keep_at w2 (by decide)).trans s2
    have k0 : σ2[0]? = some (some (.int (n : Nat))) := (keep_at w2 (by decide)).trans s0
    refine et_call (ea3 et_var et_var et_var) ⟨n, e.1.1, e.1.2, rfl, hwe.1, hwe.2, rfl⟩ σ2 H2 S2 _ fun v1 H3 e3 _ => ?_
    refine ⟨_, k2, d, rfl, .inr ⟨_, .inl (e3 _ _ (e2 _ _ hdT))⟩, ?_⟩
    refine et_pair et_var et_var nol_int nol_int σ2 H3 (S2.up e3) _ fun v2 H4 e4 hv2 => ?_
    have hd4 := e4 _ _ (e3 _ _ (e2 _ _ hdT))
    obtain ⟨b, hb1, hb2⟩ : ∃ b, v2 = .ref b ∧ H4 b = some (.tup ((winK e.1).map kV)) := by
      cases (show Tp H4 v2 (winD e.1) from hv2) with
      | @tup b ys _ q1 q2 =>
        have : ys = [V.int (e.1.1 : Nat), V.int (e.1.2 : Nat)] := TpAll.ints (ns := [(e.1.1 : Int), (e.1.2 : Int)]) q2
        rw [this] at q1
        exact ⟨b, rfl, q1⟩
    subst hb1
    refine ⟨_, DGet.t hd4 hb2, ?_⟩
    obtain ⟨v3, q3, q4⟩ := S2.2 3 _ rfl
    refine ⟨v3, q3, ?_⟩
    have q4 := hv_int q4
    subst q4
    have hval : ((valV (l.map rowE) (winK e.1)).getD (V.int 0)) = V.int ((valE l e.1).getD 0) := by
      rw [val_rows]
      cases valE l e.1 <;> rfl
    rw [hval]
    refine ⟨_, _, rfl, rfl, ⟨_, k2, ?_⟩⟩
    refine et_pair et_var et_var nol_int nol_int σ2 H4 ((S2.up e3).up e4) _ fun v5 H5 e5 hv5 => ?_
    have hd5 := e5 _ _ hd4
    obtain ⟨b', hb3, hb4⟩ : ∃ b, v5 = .ref b ∧ H5 b = some (.tup ((winK e.1).map kV)) := by
      cases (show Tp H5 v5 (winD e.1) from hv5) with
      | @tup b ys _ q1 q2 =>
        have : ys = [V.int (e.1.1 : Nat), V.int (e.1.2 : Nat)] := TpAll.ints (ns := [(e.1.1 : Int), (e.1.2 : Int)]) q2
        rw [this] at q1
        exact ⟨b, rfl, q1⟩
    subst hb3
    refine ⟨d, _, rfl, DPut.t hd5 hb4 (by rw [List.length_map]; exact small1000 (by omega)), ?_⟩
    have eT : Ex H H5 := (((eH.trans e2).trans e3).trans e4).trans e5
    have hl2 : σ2.length = 7 := S2.1
    refine ⟨eT.mut hd, hl2, k0, k2, putE l e.1 ((valE l e.1).getD 0 + e.2), ?_, putE_nd nd', ?_, ?_, ?_, fun P => ?_⟩
    · rw [upd_same, put_rows]
    · intro y hy
      rcases putE_mem hy with h | h
      · exact lw y h
      · rw [h]; exact hwe
    · intro y hy
      rcases putE_mem hy with h | h
      · exact lp y h
      · rw [h]
        show 1 ≤ (valE l e.1).getD 0 + e.2
        cases hv : valE l e.1 with
        | none => simpa using hpe
        | some x =>
          have := lp _ (valE_mem hv)
          simp at this ⊢
          omega
    · have := putE_len l e.1 ((valE l e.1).getD 0 + e.2)
      omega
    · rw [fs_put P nd', lf P, List.take_add_one, he]
      show _ = fs (G.take i ++ [e]) P
      rw [fs_app, fs_cons, fs_nil]
      by_cases hpp : P e.1 = true
      · rw [if_pos hpp, if_pos hpp]; omega
      · rw [if_neg hpp, if_neg hpp]; rfl
  · rintro σ' H' ⟨eH, s7, s0, s2, l, hdT, nd', lw, lp, ll, lf⟩
    rw [List.length_map] at ll lf
    rw [List.take_length] at lf
    refine ⟨_, s0, ?_⟩
    dsimp only [tCons, tCB, tNil]
    refine lc_items (ρ := [some (.int (n : Nat)), none, none, none, none, none, none]) (l := l) (vs := [6, 3]) (g := gTup K 2 (gCons (gName 6) (gCons (gName 3) gNil))) (fun e => decide (0 < e.2)) erD (l7 s7 s0) eH hd hdT (by omega) (fun a ha => ⟨_, eg2 (d := winD a.1) (e := .int a.2) (by decide) (by decide), eb_test (et_B0 (g := fun i j => decide (j < i)) et_var et_int), fun _ => ⟨et_pair et_var et_var nol_win nol_int, nol_tup⟩⟩) (fun v H5 e5 hv5 => ?_) (H := H') (fun Q h => ⟨_, s2, h⟩)
    refine raw_sort (H := H5) (v := v) erD unE un_er er_alike (fun a => ⟨_, _, rfl⟩) er_depth ?_ hv5 fun l' v' H6 pm e6 hv6 => ?_
    · exact Nat.le_trans (List.length_filter_le _ _) (by omega)
    obtain ⟨p6, us6, rfl, a6, t6⟩ := hv6
    refine ⟨p6, us6, rfl, .inl ⟨SqL.of a6, fun t hn => ?_⟩⟩
    refine ⟨by show 2 ≤ sizeLine; decide, fun t2 hn2 => ?_⟩
    have g1 : Ex H6 (upd H6 t (.tup us6)) := Evl.Ex.new hn
    have g2 : Ex (upd H6 t (.tup us6)) (upd (upd H6 t (.tup us6)) t2 (.tup [V.int (n : Nat), V.ref t])) := Evl.Ex.new hn2
    have gl : ∀ e ∈ l', e ∈ l := fun e he => (List.mem_filter.mp (pm.subset he)).1
    refine q (lotD n l') _ _ ⟨l', ⟨fun e he => lw e (gl e he), fun e he => lp e (gl e he), ?_, fun P => ?_⟩, rfl⟩ ((e5.trans e6).trans (g1.trans g2)) ?_
    · rw [pm.length_eq]
      exact Nat.le_trans (List.length_filter_le _ _) ll
    · rw [fs_perm pm, fs_pos P l fun e he => by have := lp e he; omega, lf]
    · exact .tup upd_same (.cons (.int _) (.cons (.tup (g2 _ _ upd_same) ((t6.mono (Ex.tex g1)).mono (Ex.tex g2))) .nil))
def LotW (T : Nat) (E : List Er) : Prop := (∀ e ∈ E, e.1.1 ≤ e.1.2 ∧ e.1.2 < T) ∧ (∀ e ∈ E, 1 ≤ e.2) ∧ E.length ≤ 36
def R_times_over (ds : List PyData) (Po : PyData → Prop) : Prop := ∃ (T : Nat) (E : List Er) (k : Int), ds = [lotD T E, .int k] ∧ LotW T E ∧ 1 ≤ k ∧ k ≤ 1000 ∧ Po = fun d => ∃ E', Like T (timesE k E) E' ∧ d = lotD T E'
abbrev N_times_over : List Str := ["lot", "many", "window", "work"]
theorem sc_times_over : FnScope N_times_over ["lot", "many"] (defScope s_times_over) := ⟨rfl, rfl, rfl, by decide +kernel, rfl, by decide +kernel, by decide +kernel⟩
/- slots: 0:lot 1:many 2:window 3:work ; cells: many ; callees: made_lot -/
theorem w_times_over {P : Program} {w : World} {K : PySem.W.Frag} {mg : Str → Option Value} {base : Heap} {f : Addr} {fd : FuncData} (T : Bn mg) (c_made_lot : C8.Cal P w K mg base 2 "made_lot" (spM R_made_lot) []) (F : FunD K "times_over" "times_over" (defArgs s_times_over) (defBody s_times_over) (defScope s_times_over) [] [] f fd) (hm : mg "times_over" = some (.ref f)) : C8.Cal P w K mg base 3 "times_over" (spM R_times_over) [] := by
  refine cal_ofM (N := N_times_over) (ps := ["lot", "many"]) F hm sc_times_over (fun kV doc pm an cdv ct us hl => by match us, hl with | [u0, u1], _ => rfl) (fun ds d h => by obtain ⟨n, G, k, rfl, hW, k1, k2, rfl⟩ := h; rfl) ?_
  intro cdv A outer s H E hr
  have nd := sc_times_over.nd
  refine ⟨_, (pss_one (ps_ret (C8.pe_c c_made_lot hr (by decide) (by rfl) (pa_cons (pe_ix (xT (K := K) rfl) (pv 0) pe_int (fun _ _ => rfl)) (pa_cons (pe_lc (own := [("window", 2), ("work", 3)]) (g := (gTup K 2 (gCons (gName 2) (gCons (gName 3) gNil)))) (tt := tYes)  rfl nd (iT (K := K) rfl (pe_ix (xT (K := K) rfl) (pv 0) pe_int (fun _ _ => rfl))) (blkOk_by (own := [("window", 2), ("work", 3)]) (N := N_times_over) (sc := defScope s_times_over) (by decide +kernel)) (fun _ _ _ _ _ => (gT (K := K) (n := 2) rfl rfl (pgs_cons (pg_name (i := 2) nd rfl (.inl rfl)) (pgs_cons (pg_name (i := 3) nd rfl (.inl rfl)) pgs_nil)))) (fun _ _ _ _ _ => pts_nil) (fun _ _ _ _ _ => (pe_tup (pa_cons (pv 2) (pa_cons (pe_op op_mul (pv 1) (pv 3)) pa_nil))))) pa_nil))))), ?_⟩
  intro ds d h
  obtain ⟨n, G, k, rfl, hW, k1, k2, rfl⟩ := h
  refine ot_retN (etn_call (ea2 (et_ix (n := 0) et_var et_int rfl) (et_mapV erD G erD (fun e => (e.1, k * e.2)) (it_tup (et_ix (n := 1) et_var et_int rfl)) (by have := hW.2.2; omega) fun x hx => ⟨_, eg2 (d := winD x.1) (e := .int x.2) (by decide) (by decide), et_pair et_var (et_I (g := fun i j => i * j) et_var et_var (.inl ⟨by omega, by omega⟩)) nol_win nol_int, nol_tup⟩)) ?_)
  refine ⟨n, timesE k G, rfl, fun e he => ?_, fun e he => ?_, by unfold timesE; rw [List.length_map]; have := hW.2.2; omega, rfl⟩
  · obtain ⟨x, hx, rfl⟩ := List.mem_map.mp he
    exact hW.1 x hx
  · obtain ⟨x, hx, rfl⟩ := List.mem_map.mp he
    have := hW.2.1 x hx
    show 1 ≤ k * x.2
    have h := Int.mul_le_mul k1 this (by decide) (by omega)
    omega
def R_longer (ds : List PyData) (Po : PyData → Prop) : Prop := ∃ (T : Nat) (E : List Er) (m : Nat), ds = [lotD T E, .int (m : Nat)] ∧ LotW T E ∧ Po = fun d => ∃ E', Like (T + m) (longE m E) E' ∧ d = lotD (T + m) E'
abbrev N_longer : List Str := ["lot", "late", "work", "first", "last"]
theorem sc_longer : FnScope N_longer ["lot", "late"] (defScope s_longer) := ⟨rfl, rfl, rfl, by decide +kernel, rfl, by decide +kernel, by decide +kernel⟩
/- slots: 0:lot 1:late 2:work 3:first 4:last ; cells: late ; callees: made_lot -/
theorem w_longer {P : Program} {w : World} {K : PySem.W.Frag} {mg : Str → Option Value} {base : Heap} {f : Addr} {fd : FuncData} (T : Bn mg) (c_made_lot : C8.Cal P w K mg base 2 "made_lot" (spM R_made_lot) []) (F : FunD K "longer" "longer" (defArgs s_longer) (defBody s_longer) (defScope s_longer) [] [] f fd) (hm : mg "longer" = some (.ref f)) : C8.Cal P w K mg base 3 "longer" (spM R_longer) [] := by
  refine cal_ofM (N := N_longer) (ps := ["lot", "late"]) F hm sc_longer (fun kV doc pm an cdv ct us hl => by match us, hl with | [u0, u1], _ => rfl) (fun ds d h => by obtain ⟨n, G, m, rfl, hW, rfl⟩ := h; rfl) ?_
  intro cdv A outer s H E hr
  have nd := sc_longer.nd
  refine ⟨_, (pss_one (ps_ret (C8.pe_c c_made_lot hr (by decide) (by rfl) (pa_cons (pe_op op_add (pe_ix (xT (K := K) rfl) (pv 0) pe_int (fun _ _ => rfl)) (pv 1)) (pa_cons (pe_lc (own := [("work", 2), ("first", 3), ("last", 4)]) (g := (gTup K 2 (gCons (gTup K 2 (gCons (gName 3) (gCons (gName 4) gNil))) (gCons (gName 2) gNil)))) (tt := tYes)  rfl nd (iT (K := K) rfl (pe_ix (xT (K := K) rfl) (pv 0) pe_int (fun _ _ => rfl))) (blkOk_by (own := [("work", 2), ("first", 3), ("last", 4)]) (N := N_longer) (sc := defScope s_longer) (by decide +kernel)) (fun _ _ _ _ _ => (gT (K := K) (n := 2) rfl rfl (pgs_cons (gT (K := K) (n := 2) rfl rfl (pgs_cons (pg_name (i := 3) nd rfl (.inl rfl)) (pgs_cons (pg_name (i := 4) nd rfl (.inl rfl)) pgs_nil))) (pgs_cons (pg_name (i := 2) nd rfl (.inl rfl)) pgs_nil)))) (fun _ _ _ _ _ => pts_nil) (fun _ _ _ _ _ => (pe_tup (pa_cons (pe_tup (pa_cons (pv 3) (pa_cons (pe_op op_add (pv 4) (pv 1)) pa_nil))) (pa_cons (pv 2) pa_nil))))) pa_nil))))), ?_⟩
  intro ds d h
  obtain ⟨n, G, m, rfl, hW, rfl⟩ := h
  refine ot_retN (etn_call (ea2 (et_is (et_I0 (et_ix (n := 0) et_var et_int rfl) et_var) (by simp : (PyData.int ((n : Int) + (m : Nat))) = .int ((n + m : Nat) : Int))) (et_mapV erD G erD (fun e => ((e.1.1, e.1.2 + m), e.2)) (it_tup (et_ix (n := 1) et_var et_int rfl)) (by have := hW.2.2; omega) fun x hx => ⟨_, eg21 (d := .int (x.1.1 : Nat)) (e := .int (x.1.2 : Nat)) (f := .int x.2) (by decide) (by decide) (by decide), et_pair (et_is (et_pair et_var (et_I0 et_var et_var) nol_int nol_int) (by simp [winD] : _ = winD (x.1.1, x.1.2 + m))) et_var nol_win nol_int, nol_tup⟩)) ?_)
  refine ⟨n + m, longE m G, rfl, fun e he => ?_, fun e he => ?_, by unfold longE; rw [List.length_map]; have := hW.2.2; omega, rfl⟩
  · obtain ⟨x, hx, rfl⟩ := List.mem_map.mp he
    have := hW.1 x hx
    exact ⟨by show x.1.1 ≤ x.1.2 + m; omega, by show x.1.2 + m < n + m; omega⟩
  · obtain ⟨x, hx, rfl⟩ := List.mem_map.mp he
    exact hW.2.1 x hx
end K68

namespace K68
open PySem PySem.Spec PyProof.Rows L2
open Evl (Ex)
/-- the answer is a new object -/
def spF (R : List PyData → PyData → Prop) : Sp := fun vs H Q _ => ∃ ds d, HvAll H vs ds ∧ R ds d ∧ ∀ p H', H p = none → Ex H H' → Hv H' (.ref p) d → Q (.ref p) H'
section
variable {ρ : Env} {ta tb te : TE} {tt tu : TT} {t u : TS} {K : PySem.W.Frag} {N M : Env → Prop} {R : PyData → Prop}
theorem hv_rows {H : Hp} {p : Addr} {l : List Er} (h : Hv H (.ref p) (dictD l)) : H p = some (.dT (l.map rowE)) := by
  obtain ⟨a, e, k⟩ := h
  cases e
  rw [dict_rows] at k
  exact k
theorem lc_items1 {g : TG} {vs : List Nat} {σ : L2.St} {H0 H1 : Hp} {Q : VK} {d : Addr} {l : List Er} (keep : Er → Bool) (val : Er → PyData) (S : Sl σ H0 ρ) (e : Ex H0 H1) (hn : H0 d = none) (hd : H1 d = some (.dT (l.map rowE))) (few : l.length ≤ 1000)
    (turn : ∀ a ∈ l, ∃ ρ2, EG vs g (erD a) (wipeD ρ vs) ρ2 ∧ EB ρ2 tt (keep a) ∧ (keep a = true → ET ρ2 te (val a) ∧ NoL (val a)))
    (q : ∀ v H', Ex H0 H' → Hv H' v (.list ((l.filter keep).map val)) → Q v H') {td : TE} {H : Hp} (ht : ∀ Q : VK, (∀ p H', (p = d ∧ H' = H1) → Q (.ref p) H') → td σ H Q) : tLc (iItemsT td) g tt te vs σ H Q :=
  lc_items keep val S e hn hd few turn q fun Q h => ht Q fun p H' z => by obtain ⟨rfl, rfl⟩ := z; exact h
/-- over the items of a dict that a call makes -/
theorem lc_itemsF {g : TG} {vs : List Nat} {σ : L2.St} {H : Hp} {Q : VK} {l : List Er} (keep : Er → Bool) (val : Er → PyData) (S : Sl σ H ρ) (few : l.length ≤ 1000)
    (turn : ∀ a ∈ l, ∃ ρ2, EG vs g (erD a) (wipeD ρ vs) ρ2 ∧ EB ρ2 tt (keep a) ∧ (keep a = true → ET ρ2 te (val a) ∧ NoL (val a)))
    (q : ∀ v H', Ex H H' → Hv H' v (.list ((l.filter keep).map val)) → Q v H') {td : TE} (ht : ∀ Q : VK, (∀ p H', H p = none → Ex H H' → Hv H' (.ref p) (dictD l) → Q (.ref p) H') → td σ H Q) : tLc (iItemsT td) g tt te vs σ H Q := by
  refine ht _ fun p H' hp e hv => ?_
  have := lc_items (σ := σ) (Q := Q) (d := p) keep val S e hp (hv_rows hv) few turn q (td := tC (.ref p)) (H := H') (fun Q h => h)
  exact this
theorem et_lcF {g : TG} {vs : List Nat} {l : List Er} (keep : Er → Bool) (val : Er → PyData) (few : l.length ≤ 1000)
    (turn : ∀ a ∈ l, ∃ ρ2, EG vs g (erD a) (wipeD ρ vs) ρ2 ∧ EB ρ2 tt (keep a) ∧ (keep a = true → ET ρ2 te (val a) ∧ NoL (val a)))
    {R : List PyData → PyData → Prop} {ta : TA} {E : XK} {ds : List PyData} (h : EA ρ ta ds) (hr : R ds (dictD l)) : ET ρ (tLc (iItemsT (tCall (spF R) [] E ta)) g tt te vs) (.list ((l.filter keep).map val)) := fun σ H S Q q =>
  lc_itemsF keep val S few turn q fun Q k => h σ H S _ fun vs H1 e1 hv => ⟨ds, _, by rw [List.append_nil]; exact hv, hr, fun p H' hp e2 h2 => k p H' (by
    cases h3 : H p with
    | none => rfl
    | some o => rw [e1 p o h3] at hp; cases hp) (e1.trans e2) h2⟩
/-- a new dict of ints by windows -/
theorem raw_dc {wi : TI} {g : TG} {tk tv : TE} {vs : List Nat} {σ : L2.St} {H : Hp} {Q : VK} {l : List Win} (f : Win → Int) (S : Sl σ H ρ) (hI : IT ρ wi (l.map winD)) (nd : l.Nodup) (few : l.length ≤ 1000)
    (turn : ∀ a ∈ l, ∃ ρ2, EG vs g (winD a) (wipeD ρ vs) ρ2 ∧ ET ρ2 tk (winD a) ∧ ET ρ2 tv (.int (f a)))
    (q : ∀ p H', H p = none → Ex H H' → Hv H' (.ref p) (dictD (l.map fun a => (a, f a))) → Q (.ref p) H') : tDcT wi g tk tv vs σ H Q := hI σ H S _ fun J H1 e1 good D hD => by
  have hD0 : H D = none := by
    cases h3 : H D with
    | none => rfl
    | some o => rw [e1 D o h3] at hD; cases hD
  have base : ∀ H', Ex H1 H' → Sl (wipe σ vs) H' (wipeD ρ vs) := fun H' e => ((S.up e1).up e).wipe vs
  refine ⟨fun i m H' => m = l.length - i ∧ i ≤ l.length ∧ Ex H1 H' ∧ H' D = some (.dT (((l.take i).map fun a => (a, f a)).map rowE)), ⟨l.length, by simp, Nat.zero_le _, Evl.Ex.new hD, by rw [upd_same]; simp⟩, ?_⟩
  rintro i m H' ⟨rfl, hi, eH, hd⟩
  obtain ⟨st, go⟩ := good H' eH
  by_cases hlt : i < l.length
  · refine .inr ?_
    obtain ⟨a, ha⟩ : ∃ a, l[i]? = some a := ⟨_, List.getElem?_eq_getElem hlt⟩
    obtain ⟨g1, g2⟩ := go i (winD a) (by rw [List.getElem?_map, ha]; rfl)
    refine ⟨g1, fun H'' => Ex H1 H'' ∧ H'' D = some (.dT (((l.take (i + 1)).map fun a => (a, f a)).map rowE)), fun H'' n => ⟨l.length - (i + 1), by omega, rfl, hlt, n⟩, fun x H2 y => ?_⟩
    obtain ⟨e2, hx⟩ := g2 x H2 y
    obtain ⟨ρ2, k1, k2, k3⟩ := turn a (List.mem_of_getElem? ha)
    have tk : l.take (i + 1) = l.take i ++ [a] := by rw [List.take_add_one, ha]; rfl
    refine k1 _ H2 x (base H2 (eH.trans e2)) hx _ fun σ2 S2 w2 => ⟨by rw [w2, wipe_idem], ?_⟩
    refine k2 σ2 H2 S2 _ fun v3 H3 e3 hv3 => ?_
    refine k3 σ2 H3 (S2.up e3) _ fun v4 H4 e4 hv4 => ?_
    have eD4 : Ex H' H4 := (e2.trans e3).trans e4
    have hv3 := hv3.up e4
    have h4 := hv_int hv4
    subst h4
    cases (show Tp H4 v3 (winD a) from hv3) with
    | @tup b ys _ q1 q2 =>
      have : ys = [V.int (a.1 : Nat), V.int (a.2 : Nat)] := TpAll.ints (ns := [(a.1 : Int), (a.2 : Int)]) q2
      rw [this] at q1
      refine ⟨b, _, winK a, rfl, q1, eD4 _ _ hd, ?_, ?_, ?_⟩
      · rw [List.length_map, List.length_map, List.length_take]
        exact small1000 (by omega)
      · exact (eH.trans eD4).mut hD
      · have hn : valE ((l.take i).map fun a => (a, f a)) a = none := by
          refine valE_none.mpr fun e he z => ?_
          obtain ⟨x, hxm, rfl⟩ := List.mem_map.mp he
          have z : x = a := z
          subst z
          have h2 : l = l.take i ++ x :: l.drop (i + 1) := by
            have hg := (List.getElem?_eq_some_iff.mp ha).2
            rw [← hg, List.getElem_cons_drop, List.take_append_drop]
          rw [h2] at nd
          have := (List.nodup_append.mp nd).2.2 x hxm x (List.mem_cons_self ..)
          exact this rfl
        rw [upd_same, put_rows, putE_new hn, tk, List.map_append (l₁ := l.take i)]
        rfl
  · have e : i = l.length := by omega
    subst e
    refine .inl ⟨by rw [List.length_map] at st; exact st, q D H' hD0 (e1.trans eH) ⟨D, rfl, ?_⟩⟩
    rw [List.take_length] at hd
    rw [dict_rows]
    exact hd
end
theorem good_zip3 {H : Hp} {a b c : Addr} {xs ys zs : List V} {as bs cs : List PyData} (p1 : H a = some (.lst xs)) (p2 : TpAll H xs as) (q1 : H b = some (.tup ys)) (q2 : TpAll H ys bs) (s1 : H c = some (.tup zs)) (s2 : TpAll H zs cs) : Good (It3 a b c) (zip3D as bs cs) H := by
  have := @it_zip3 [some (.list as), some (.tuple bs), some (.tuple cs)] (tVar 0) (tVar 1) (tVar 2) as bs cs (et_var (i := 0)) (et_var (i := 1)) (et_var (i := 2)) [some (.ref a), some (.ref b), some (.ref c)] H ⟨rfl, fun i d q => by
    match i, q with
    | 0, q => cases q; exact ⟨_, rfl, a, xs, rfl, p1, p2⟩
    | 1, q => cases q; exact ⟨_, rfl, .tup q1 q2⟩
    | 2, q => cases q; exact ⟨_, rfl, .tup s1 s2⟩
    | k + 3, q => simp at q⟩ (fun J H' => Good J (zip3D as bs cs) H') (fun J H' e g => g)
  obtain ⟨v1, e1, v2, e2, v3, e3, a', b', c', _, _, _, e4, _, _, _, g⟩ := this
  cases e1
  cases e2
  cases e3
  injection e4 with e5 e6
  injection e6 with e6 e7
  injection e7 with e7 e8
  cases e5
  cases e6
  cases e7
  exact g
/-- the heap without one object -/
def rm (H : Hp) (D : Addr) : Hp := fun x => if x = D then none else H x
theorem rm_self (H : Hp) (D : Addr) : rm H D D = none := if_pos rfl
theorem rm_ne {H : Hp} {D x : Addr} (h : x ≠ D) : rm H D x = H x := if_neg h
theorem tex_rm {H : Hp} {D : Addr} (h : ∀ xs, H D ≠ some (.tup xs)) : TEx H (rm H D) := fun a xs e => by
  rw [rm_ne (fun z => by rw [z] at e; exact h xs e)]
  exact e
theorem ex_rm (H : Hp) (D : Addr) : Ex (rm H D) H := fun a o e => by
  by_cases h : a = D
  · rw [h, rm_self] at e; cases e
  · rw [rm_ne h] at e; exact e
theorem spans_nd (T : Nat) (h : T ≤ 8) : (spans T).Nodup := by
  have : ∀ T, T ≤ 8 → (spans T).Nodup := by decide
  exact this T h
end K68

namespace K68
open PySem PySem.Spec PyProof.Rows L2
open Evl (Ex)
def lackL (T : Nat) (E : List Er) (c : List Int) : List Er := (spans T).map fun v => (v, asks E v.1 v.2 - csum c v.1 (v.2 + 1))
def R_lacks (ds : List PyData) (d : PyData) : Prop := ∃ (T : Nat) (E : List Er) (c : List Int), ds = [lotD T E, calD c] ∧ c.length = T ∧ T ≤ 8 ∧ E.length ≤ 1000 ∧ d = dictD (lackL T E c)
abbrev N_lacks : List Str := ["lot", "calendar", "rows", "first", "last"]
theorem sc_lacks : FnScope N_lacks ["lot", "calendar"] (defScope s_lacks) := ⟨rfl, rfl, rfl, by decide +kernel, rfl, by decide +kernel, by decide +kernel⟩
/- slots: 0:lot 1:calendar 2:rows 3:first 4:last ; cells: calendar lot ; callees: check_calendar all_stretches asked hands_in -/
theorem w_lacks {P : Program} {w : World} {K : PySem.W.Frag} {mg : Str → Option Value} {base : Heap} {f : Addr} {fd : FuncData} (T : Bn mg) (c_check_calendar : C8.Cal P w K mg base 1 "check_calendar" (spD R_check_calendar) []) (c_all_stretches : C8.Cal P w K mg base 1 "all_stretches" (spD R_all_stretches) []) (c_asked : C8.Cal P w K mg base 2 "asked" (spD R_asked) []) (c_hands_in : C8.Cal P w K mg base 2 "hands_in" (spD R_hands_in) []) (F : FunD K "lacks" "lacks" (defArgs s_lacks) (defBody s_lacks) (defScope s_lacks) [] [] f fd) (hm : mg "lacks" = some (.ref f)) : C8.Cal P w K mg base 3 "lacks" (spF R_lacks) [] := by
  refine cal_raw (N := N_lacks) (ps := ["lot", "calendar"]) F hm sc_lacks (fun kV doc pm an cdv ct us hl => by match us, hl with | [u0, u1], _ => rfl) (fun vs H Q E h => by obtain ⟨ds, d, h1, ⟨T, E, c, rfl, _⟩, _⟩ := h; exact h1.len) ?_
  intro cdv A outer s H vs Q E hr h
  have nd := sc_lacks.nd
  refine ⟨_, (pss_cons (ps_expr (C8.pe_c c_check_calendar hr (by decide) (by rfl) (pa_cons (pv 0) (pa_cons (pv 1) pa_nil))))
    (pss_cons (ps_set (i := 2) nd rfl (.inl rfl) (C8.pe_c c_all_stretches hr (by decide) (by rfl) (pa_cons (pe_ix (xT (K := K) rfl) (pv 0) pe_int (fun _ _ => rfl)) pa_nil)))
    (pss_one (ps_ret (pe_dcT (own := [("first", 3), ("last", 4)]) (g := (gTup K 2 (gCons (gName 3) (gCons (gName 4) gNil)))) hr.units rfl nd (iL (K := K) rfl (pv 2)) (blkOk_by (own := [("first", 3), ("last", 4)]) (N := N_lacks) (sc := defScope s_lacks) (by decide +kernel)) (fun _ _ _ _ _ => (gT (K := K) (n := 2) rfl rfl (pgs_cons (pg_name (i := 3) nd rfl (.inl rfl)) (pgs_cons (pg_name (i := 4) nd rfl (.inl rfl)) pgs_nil)))) (fun _ _ _ _ _ => (pe_tup (pa_cons (pv 3) (pa_cons (pv 4) pa_nil)))) (fun _ _ _ _ _ => (pe_op op_sub (C8.pe_c c_asked hr (by decide) (by rfl) (pa_cons (pv 0) (pa_cons (pv 3) (pa_cons (pv 4) pa_nil)))) (C8.pe_c c_hands_in hr (by decide) (by rfl) (pa_cons (pv 1) (pa_cons (pv 3) (pa_cons (pv 4) pa_nil))))))))))), ?_⟩
  obtain ⟨ds, d, hv, ⟨n, G, c, rfl, hl, h8, few, rfl⟩, q⟩ := h
  have S0 := sl_start (N := N_lacks) hv (by show 2 ≤ 5; decide)
  refine et_call (ea2 et_var et_var) ⟨n, G, c, rfl, hl, rfl⟩ _ H S0 _ fun v1 H1 e1 _ => ?_
  refine et_call (ea1 (et_ix (n := 0) et_var et_int rfl)) ⟨n, rfl, h8, rfl⟩ _ H1 (S0.up e1) _ fun v2 H2 e2 hv2 => ?_
  refine raw_dc (fun v => asks G v.1 v.2 - csum c v.1 (v.2 + 1)) (((S0.up e1).up e2).set 2 hv2) (it_list et_var) (spans_nd n h8) (by have := spans_len n h8; omega) (fun a ha => ?_) fun p H' hp e hd => q p H' ?_ ((e1.trans e2).trans e) hd
  · have := mem_spans.mp ha
    exact ⟨_, eg2 (by decide) (by decide), et_pair et_var et_var nol_int nol_int, et_I0 (et_call (ea3 et_var et_var et_var) ⟨n, G, a.1, a.2, rfl, this.1, this.2, few, rfl⟩) (et_call (ea3 et_var et_var et_var) ⟨c, a.1, a.2, rfl, this.1, by omega, rfl⟩)⟩
  · cases h3 : H p with
    | none => rfl
    | some o => rw [(e1.trans e2) p o h3] at hp; cases hp
def R_short_stretches (ds : List PyData) (d : PyData) : Prop := ∃ (T : Nat) (E : List Er) (c : List Int), ds = [lotD T E, calD c] ∧ c.length = T ∧ T ≤ 8 ∧ E.length ≤ 1000 ∧ d = .list (((lackL T E c).filter fun e => decide (0 < e.2)).map erD)
abbrev N_short_stretches : List Str := ["lot", "calendar", "stretch", "number"]
theorem sc_short_stretches : FnScope N_short_stretches ["lot", "calendar"] (defScope s_short_stretches) := ⟨rfl, rfl, rfl, by decide +kernel, rfl, by decide +kernel, by decide +kernel⟩
/- slots: 0:lot 1:calendar 2:stretch 3:number ; cells:  ; callees: lacks -/
theorem w_short_stretches {P : Program} {w : World} {K : PySem.W.Frag} {mg : Str → Option Value} {base : Heap} {f : Addr} {fd : FuncData} (T : Bn mg) (c_lacks : C8.Cal P w K mg base 3 "lacks" (spF R_lacks) []) (F : FunD K "short_stretches" "short_stretches" (defArgs s_short_stretches) (defBody s_short_stretches) (defScope s_short_stretches) [] [] f fd) (hm : mg "short_stretches" = some (.ref f)) : C8.Cal P w K mg base 4 "short_stretches" (spD R_short_stretches) [] := by
  refine cal_of (N := N_short_stretches) (ps := ["lot", "calendar"]) F hm sc_short_stretches (fun kV doc pm an cdv ct us hl => by match us, hl with | [u0, u1], _ => rfl) (fun ds d h => by obtain ⟨n, G, c, rfl, hl, h8, few, rfl⟩ := h; rfl) ?_
  intro cdv A outer s H E hr
  have nd := sc_short_stretches.nd
  refine ⟨_, (pss_one (ps_ret (pe_lc (own := [("stretch", 2), ("number", 3)]) (g := (gTup K 2 (gCons (gName 2) (gCons (gName 3) gNil))))  rfl nd (pi_itemsT (C8.pe_c c_lacks hr (by decide) (by rfl) (pa_cons (pv 0) (pa_cons (pv 1) pa_nil)))) (blkOk_by (own := [("stretch", 2), ("number", 3)]) (N := N_short_stretches) (sc := defScope s_short_stretches) (by decide +kernel)) (fun _ _ _ _ _ => (gT (K := K) (n := 2) rfl rfl (pgs_cons (pg_name (i := 2) nd rfl (.inl rfl)) (pgs_cons (pg_name (i := 3) nd rfl (.inl rfl)) pgs_nil)))) (fun _ _ _ _ _ => (pts_one (pt_cmpR op_gt (pv 3) pe_int (nomark _)))) (fun _ _ _ _ _ => (pe_tup (pa_cons (pv 2) (pa_cons (pv 3) pa_nil))))))), ?_⟩
  intro ds d h
  obtain ⟨n, G, c, rfl, hl, h8, few, rfl⟩ := h
  exact ot_ret (et_lcF (fun e => decide (0 < e.2)) erD (by unfold lackL; rw [List.length_map]; have := spans_len n h8; omega) (fun a ha => ⟨_, eg2 (d := winD a.1) (e := .int a.2) (by decide) (by decide), eb_test (et_B0 (g := fun i j => decide (j < i)) et_var et_int), fun _ => ⟨et_pair et_var et_var nol_win nol_int, nol_tup⟩⟩) (ea2 et_var et_var) ⟨n, G, c, rfl, hl, h8, few, rfl⟩) rfl
def R_is_done (ds : List PyData) (d : PyData) : Prop := ∃ (T : Nat) (E : List Er) (c : List Int), ds = [lotD T E, calD c] ∧ c.length = T ∧ T ≤ 8 ∧ E.length ≤ 1000 ∧ d = .bool (doneB T E c)
theorem done_len (T : Nat) (E : List Er) (c : List Int) : decide ((((((lackL T E c).filter fun e => decide (0 < e.2)).map erD).length : Nat) : Int) = 0) = doneB T E c := by
  rw [List.length_map, Bool.eq_iff_iff, decide_eq_true_iff, doneB_iff]
  constructor
  · intro h v hv
    have h : ((lackL T E c).filter fun e => decide (0 < e.2)) = [] := List.eq_nil_of_length_eq_zero (by omega)
    rw [List.filter_eq_nil_iff] at h
    have := h (v, asks E v.1 v.2 - csum c v.1 (v.2 + 1)) (List.mem_map.mpr ⟨v, hv, rfl⟩)
    simp at this
    omega
  · intro h
    have : ((lackL T E c).filter fun e => decide (0 < e.2)) = [] := by
      rw [List.filter_eq_nil_iff]
      intro e he
      obtain ⟨v, hv, rfl⟩ := List.mem_map.mp he
      have := h v hv
      simp
      omega
    rw [this]
    rfl
abbrev N_is_done : List Str := ["lot", "calendar"]
theorem sc_is_done : FnScope N_is_done ["lot", "calendar"] (defScope s_is_done) := ⟨rfl, rfl, rfl, by decide +kernel, rfl, by decide +kernel, by decide +kernel⟩
/- slots: 0:lot 1:calendar ; cells:  ; callees: short_stretches -/
theorem w_is_done {P : Program} {w : World} {K : PySem.W.Frag} {mg : Str → Option Value} {base : Heap} {f : Addr} {fd : FuncData} (T : Bn mg) (c_short_stretches : C8.Cal P w K mg base 4 "short_stretches" (spD R_short_stretches) []) (F : FunD K "is_done" "is_done" (defArgs s_is_done) (defBody s_is_done) (defScope s_is_done) [] [] f fd) (hm : mg "is_done" = some (.ref f)) : C8.Cal P w K mg base 5 "is_done" (spD R_is_done) [] := by
  refine cal_of (N := N_is_done) (ps := ["lot", "calendar"]) F hm sc_is_done (fun kV doc pm an cdv ct us hl => by match us, hl with | [u0, u1], _ => rfl) (fun ds d h => by obtain ⟨n, G, c, rfl, hl, h8, few, rfl⟩ := h; rfl) ?_
  intro cdv A outer s H E hr
  have nd := sc_is_done.nd
  refine ⟨_, (pss_one (ps_ret (pe_cmpR op_eq (pe_callB (bLen (K := K) rfl) (by rfl) T.blen (by decide +kernel) (pa_cons (C8.pe_c c_short_stretches hr (by decide) (by rfl) (pa_cons (pv 0) (pa_cons (pv 1) pa_nil))) pa_nil)) pe_int (nomark _)))), ?_⟩
  intro ds d h
  obtain ⟨n, G, c, rfl, hl, h8, few, rfl⟩ := h
  exact ot_ret (et_eqI (et_lenL (et_call (ea2 et_var et_var) ⟨n, G, c, rfl, hl, h8, few, rfl⟩)) et_int) (by rw [done_len])
/-! ### the order -/
def difD (e : Er) : PyData := .tuple [.int (e.1.1 : Nat), .int (e.1.2 : Nat), .int e.2]
def difL (T : Nat) (E F : List Er) : List Er := (spans T).map fun v => (v, asks E v.1 v.2 - asks F v.1 v.2)
def R_differences (ds : List PyData) (d : PyData) : Prop := ∃ (T : Nat) (E F : List Er), ds = [lotD T E, lotD T F] ∧ 1 ≤ T ∧ T ≤ 8 ∧ E.length ≤ 1000 ∧ F.length ≤ 1000 ∧ d = .list ((difL T E F).map difD)
theorem zip3_map {α : Type} (f g h : α → PyData) : ∀ l : List α, zip3D (l.map f) (l.map g) (l.map h) = l.map fun a => .tuple [f a, g a, h a]
  | [] => rfl
  | a :: l => by
    show PyData.tuple _ :: zip3D _ _ _ = _
    rw [zip3_map f g h l]
    rfl
abbrev N_differences : List Str := ["one", "other", "found", "mine", "its", "first", "last"]
theorem sc_differences : FnScope N_differences ["one", "other"] (defScope s_differences) := ⟨rfl, rfl, rfl, by decide +kernel, rfl, by decide +kernel, by decide +kernel⟩
/- slots: 0:one 1:other 2:found 3:mine 4:its 5:first 6:last ; cells:  ; callees: check_same all_stretches table_of -/
theorem w_differences {P : Program} {w : World} {K : PySem.W.Frag} {mg : Str → Option Value} {base : Heap} {f : Addr} {fd : FuncData} (T : Bn mg) (c_check_same : C8.Cal P w K mg base 1 "check_same" (spD R_check_same) []) (c_all_stretches : C8.Cal P w K mg base 1 "all_stretches" (spD R_all_stretches) []) (c_table_of : C8.Cal P w K mg base 3 "table_of" (spD R_table_of) []) (F : FunD K "differences" "differences" (defArgs s_differences) (defBody s_differences) (defScope s_differences) [] [] f fd) (hm : mg "differences" = some (.ref f)) : C8.Cal P w K mg base 4 "differences" (spD R_differences) [] := by
  refine cal_raw (N := N_differences) (ps := ["one", "other"]) F hm sc_differences (fun kV doc pm an cdv ct us hl => by match us, hl with | [u0, u1], _ => rfl) (fun vs H Q E h => by obtain ⟨ds, d, h1, ⟨T, E, F, rfl, _⟩, _⟩ := h; exact h1.len) ?_
  intro cdv A outer s H vs Q E hr h
  have nd := sc_differences.nd
  refine ⟨_, (pss_cons (ps_expr (C8.pe_c c_check_same hr (by decide) (by rfl) (pa_cons (pv 0) (pa_cons (pv 1) pa_nil))))
    (pss_cons (ps_set (i := 2) nd rfl (.inl rfl) (pe_lst pa_nil))
    (pss_cons (ps_for PassesOwn.never rfl (pi_zip3 (by rfl) T.bzip (pa_cons (C8.pe_c c_all_stretches hr (by decide) (by rfl) (pa_cons (pe_ix (xT (K := K) rfl) (pv 0) pe_int (fun _ _ => rfl)) pa_nil)) (pa_cons (C8.pe_c c_table_of hr (by decide) (by rfl) (pa_cons (pv 0) pa_nil)) (pa_cons (C8.pe_c c_table_of hr (by decide) (by rfl) (pa_cons (pv 1) pa_nil)) pa_nil)))) (gT (K := K) (n := 3) rfl rfl (pgs_cons (gT (K := K) (n := 2) rfl rfl (pgs_cons (pg_name (i := 5) nd rfl (.inl rfl)) (pgs_cons (pg_name (i := 6) nd rfl (.inl rfl)) pgs_nil))) (pgs_cons (pg_name (i := 3) nd rfl (.inl rfl)) (pgs_cons (pg_name (i := 4) nd rfl (.inl rfl)) pgs_nil))))
      (pss_one (ps_expr (pe_bm PySem.F.plainAttrs_list PySem.F.slot_list_append PySem.F.type_list_append mt_append (pv 2) (pa_cons (pe_tup (pa_cons (pv 5) (pa_cons (pv 6) (pa_cons (pe_op op_sub (pv 3) (pv 4)) pa_nil)))) pa_nil)))))
    (pss_one (ps_ret (pv 2)))))), ?_⟩
  obtain ⟨ds, d, hv, ⟨n, G1, G2, rfl, h1, h8, few1, few2, rfl⟩, q⟩ := h
  have S0 := sl_start (N := N_differences) hv (by show 2 ≤ 7; decide)
  refine et_call (ea2 et_var et_var) ⟨n, G1, G2, rfl, rfl⟩ _ H S0 _ fun v1 H1 e1 _ => ?_
  have S1 := S0.up e1
  refine ⟨by show 0 ≤ sizeLine; decide, fun D hD => ?_⟩
  have S2 : Sl (List.set (L2.start N_differences vs) 2 (some (.ref D))) (upd H1 D (.lst [])) [some (lotD n G1), some (lotD n G2), none, none, none, none, none] := by
    have := ((S1.up (Evl.Ex.new (o := .lst []) hD)).set 2 (d := .list []) (v := .ref D) ⟨D, [], rfl, upd_same, .nil⟩)
    exact this.weak (le_of ⟨.inr rfl, .inr rfl, .inl rfl, .inr rfl, .inr rfl, .inr rfl, .inr rfl, True.intro⟩)
  have k2 : (List.set (L2.start N_differences vs) 2 (some (.ref D)))[2]? = some (some (V.ref D)) := List.getElem?_set_self (by rw [S1.1]; show 2 < 7; decide)
  dsimp only [gName, tSeq, tFor, iZip3]
  generalize List.set (L2.start N_differences vs) 2 (some (.ref D)) = σ1 at S2 k2 ⊢
  refine ea3 (et_call (ea1 (et_ix (n := 0) et_var et_int rfl)) ⟨n, rfl, h8, rfl⟩) (et_call (ea1 et_var) ⟨n, G1, rfl, h8, few1, rfl⟩) (et_call (ea1 et_var) ⟨n, G2, rfl, h8, few2, rfl⟩) σ1 _ S2 _ fun vs3 H3 e3 hv3 => ?_
  match vs3, hv3 with
  | [u, v, w'], hv3 =>
  obtain ⟨⟨a, xs, rfl, p1, p2⟩, hvb, hvc, _⟩ := hv3
  cases (show Tp H3 v (calD _) from hvb) with
  | @tup b ys _ q1 q2 =>
  cases (show Tp H3 w' (calD _) from hvc) with
  | @tup c zs _ s1 s2 =>
  have hD3 : H3 D = some (.lst []) := e3 _ _ upd_same
  have haD : a ≠ D := fun z => by
    rw [z, hD3] at p1
    cases p1
    have := p2.len
    simp at this
    exact spans_ne h1 (List.eq_nil_of_length_eq_zero this.symm)
  have tx : TEx H3 (rm H3 D) := tex_rm fun xs e => by rw [hD3] at e; cases e
  have gd : Good (It3 a b c) (zip3D ((spans n).map winD) (((spans n).map fun v => asks G1 v.1 v.2).map .int) (((spans n).map fun v => asks G2 v.1 v.2).map .int)) (rm H3 D) :=
    good_zip3 (by rw [rm_ne haD]; exact p1) (p2.mono tx) (tx _ _ q1) (q2.mono tx) (tx _ _ s1) (s2.mono tx)
  rw [List.map_map, List.map_map, zip3_map] at gd
  have hHD : H D = none := by
    cases h3 : H D with
    | none => rfl
    | some o => rw [e1 D o h3] at hD; cases hD
  have eHr : Ex H (rm H3 D) := fun x o hx => by
    rw [rm_ne fun z => by rw [z, hHD] at hx; cases hx]
    exact e3 _ _ ((Evl.Ex.new hD) _ _ (e1 _ _ hx))
  refine ⟨a, b, c, xs, ys, zs, rfl, p1, q1, s1, raw_for (D := { nx := tRet (tVar 2) { nx := fun x H' => Q V.non H', rt := Q }, rt := Q }) gd (fun i σ' H' => Ex (rm H3 D) H' ∧ σ'.length = 7 ∧ σ'[2]? = some (some (.ref D)) ∧ ∃ us, H' D = some (.lst us) ∧ TpAll H' us (((difL n G1 G2).take i).map difD)) (fun i σ' H' iv => iv.1) ⟨ex_rm _ _, S2.1, k2, [], hD3, by simp; exact .nil⟩ ?_ ?_⟩
  · rintro i d σ' H' hd ⟨eH, s7, k2', us, hu, tu⟩ x H4 e4 hx
    rw [List.getElem?_map] at hd
    obtain ⟨v, hv, rfl⟩ : ∃ v, (spans n)[i]? = some v ∧ _ = d := by
      cases he : (spans n)[i]? with
      | none => rw [he] at hd; cases hd
      | some e => rw [he] at hd; exact ⟨e, rfl, Option.some.inj hd⟩
    have hi := (List.getElem?_eq_some_iff.mp hv).1
    have h36 := spans_len n h8
    have S7 : Sl σ' H4 [none, none, none, none, none, none, none] := ⟨s7, fun j d q => by
      match j, q with
      | 0, q => cases q
      | 1, q => cases q
      | 2, q => cases q
      | 3, q => cases q
      | 4, q => cases q
      | 5, q => cases q
      | 6, q => cases q
      | k + 7, q => simp at q⟩
    refine eg211 (K := K) (vs := [5, 6, 3, 4]) (d := .int (v.1 : Nat)) (e := .int (v.2 : Nat)) (f := .int (asks G1 v.1 v.2)) (h := .int (asks G2 v.1 v.2)) (by decide) (by decide) (by decide) (by decide) σ' H4 x S7 hx _ fun σ2 S2 w2 => ?_
    have k3 : σ2[2]? = some (some (.ref D)) := (keep_at w2 (by decide)).trans k2'
    refine ⟨_, k3, .inl ⟨rfl, _, SqL.of (e4 _ _ hu)⟩, ?_⟩
    refine ea1 (et_trip et_var et_var (et_I0 (g := fun i j => i - j) et_var et_var) nol_int nol_int nol_int) σ2 H4 S2 _ fun vs5 H5 e5 hv5 => ?_
    obtain ⟨v5, rfl, h5⟩ := hv1 hv5
    have hl5 := tu.len
    rw [List.length_map, List.length_take] at hl5
    have hu5 := e5 _ _ (e4 _ _ hu)
    refine ⟨D, us, v5, rfl, rfl, hu5, small1000 (by omega), ?_⟩
    have up : TEx H5 (upd H5 D (.lst (us ++ [v5]))) := fun b ys hb => by
      rw [upd_ne (ne_of hb hu5 (fun z => nomatch z))]
      exact hb
    refine ⟨((eH.trans e4).trans e5).mut (rm_self _ _), S2.1, k3, us ++ [v5], upd_same, ?_⟩
    have tk : (difL n G1 G2).take (i + 1) = (difL n G1 G2).take i ++ [(v, asks G1 v.1 v.2 - asks G2 v.1 v.2)] := by
      rw [List.take_add_one]
      unfold difL
      rw [List.getElem?_map, hv]
      rfl
    rw [tk, List.map_append]
    exact TpAll.snoc ((tu.mono (Ex.tex (e4.trans e5))).mono up) ((show Tp H5 v5 _ from h5).mono up)
  · rintro σ' H' ⟨eH, s7, k2', us, hu, tu⟩
    rw [List.length_map, show (spans n).length = (difL n G1 G2).length by unfold difL; rw [List.length_map], List.take_length] at tu
    exact ⟨_, k2', q _ H' (eHr.trans eH) ⟨D, us, rfl, hu, tu⟩⟩
end K68

namespace K68
open PySem PySem.Spec PyProof.Rows L2
open Evl (Ex)
/-! ### small data may be compared -/
def Sm (k : Nat) (d : PyData) : Prop := d.canLay0 = true ∧ d.depth ≤ k
theorem Sm.shaped {k : Nat} {d : PyData} (h : Sm k d) (hk : k ≤ 64) : SeqAt.shaped d = true := by
  unfold SeqAt.shaped
  rw [h.1, Bool.true_and, decide_eq_true_iff]
  exact Nat.le_trans h.2 hk
theorem sm_int {k : Nat} {i : Int} : Sm k (.int i) := ⟨rfl, Nat.zero_le _⟩
theorem sm_all {k : Nat} : ∀ {ds : List PyData}, (∀ d ∈ ds, Sm k d) → PyData.canLayAll0 ds = true ∧ PyData.depthAll ds ≤ k
  | [], _ => ⟨rfl, Nat.zero_le _⟩
  | d :: ds, h => by
    have h1 := h d (List.mem_cons_self ..)
    have h2 := sm_all (ds := ds) fun x hx => h x (List.mem_cons_of_mem _ hx)
    refine ⟨?_, ?_⟩
    · show (PyData.canLay0 d && PyData.canLayAll0 ds) = true
      rw [h1.1, h2.1]; rfl
    · show max (PyData.depth d) (PyData.depthAll ds) ≤ k
      exact Nat.max_le.mpr ⟨h1.2, h2.2⟩
theorem sm_tup {k : Nat} {ds : List PyData} (h : ∀ d ∈ ds, Sm k d) : Sm (k + 1) (.tuple ds) := ⟨(sm_all h).1, Nat.succ_le_succ (sm_all h).2⟩
theorem sm_lst {k : Nat} {ds : List PyData} (h : ∀ d ∈ ds, Sm k d) : Sm (k + 1) (.list ds) := ⟨(sm_all h).1, Nat.succ_le_succ (sm_all h).2⟩
theorem sm_win (w : Win) : Sm 1 (winD w) := sm_tup fun d hd => by
  rcases List.mem_cons.mp hd with h | h
  · rw [h]; exact sm_int
  · rcases List.mem_cons.mp h with h | h
    · rw [h]; exact sm_int
    · cases h
theorem sm_mono {k m : Nat} {d : PyData} (h : Sm k d) (hm : k ≤ m) : Sm m d := ⟨h.1, Nat.le_trans h.2 hm⟩
theorem sm_er (e : Er) : Sm 2 (erD e) := sm_tup fun d hd => by
  rcases List.mem_cons.mp hd with h | h
  · rw [h]; exact sm_win _
  · rcases List.mem_cons.mp h with h | h
    · rw [h]; exact sm_int
    · cases h
theorem eqv_nilL (ds : List PyData) : PyData.eqv (.list ds) (.list []) = ds.isEmpty := by cases ds <;> rfl
theorem eqv_nilT (ds : List PyData) : PyData.eqv (.tuple ds) (.tuple []) = ds.isEmpty := by cases ds <;> rfl
section
variable {ρ : Env} {ta tb te : TE} {tt tu : TT} {t u : TS} {K : PySem.W.Frag} {N M : Env → Prop} {R : PyData → Prop}
theorem et_nilL {α : Type} {l : List α} {f : α → PyData} (h : ET ρ te (.list (l.map f))) (sm : ∀ a, Sm 2 (f a)) : ET ρ (tOp (rEqD K) te (tLst tNil)) (.bool l.isEmpty) := by
  have := et_eqL (K := K) h (et_lst ea_nil True.intro (Nat.zero_le _)) ((sm_lst fun d hd => by obtain ⟨a, _, rfl⟩ := List.mem_map.mp hd; exact sm a).shaped (by decide)) rfl
  rw [eqv_nilL] at this
  simpa using this
theorem et_nilT {α : Type} {l : List α} {f : α → PyData} (h : ET ρ te (.tuple (l.map f))) (sm : ∀ a, Sm 2 (f a)) : ET ρ (tOp (rEqD K) te (tTup tNil)) (.bool l.isEmpty) := by
  have := et_eqd (K := K) h (et_tup ea_nil True.intro (Nat.zero_le _)) (fun H v h => h) (fun H v h => h) ((sm_tup fun d hd => by obtain ⟨a, _, rfl⟩ := List.mem_map.mp hd; exact sm a).shaped (by decide)) rfl
  rw [eqv_nilT] at this
  simpa using this
theorem EG.up {vs : List Nat} {g : TG} {d : PyData} {ρ' ρ2 : Env} (h : EG vs g d ρ ρ2) (l : Le ρ' ρ) : EG vs g d ρ' ρ2 := fun σ H x S hx Q q => h σ H x (S.weak l) hx Q q
/-- a loop whose slots are told by what is gone through, then the rest -/
theorem ot_forS {ι : Type} {wi : TI} {g : TG} {vs : List Nat} {l : List PyData} (J : ι → Env) (Pi : Nat → ι → Prop) (hI : IT ρ wi l) (x0 : ι) (h0 : Pi 0 x0) (l0 : Le ρ (J x0))
    (hs : ∀ (i : Nat) (d : PyData) (x : ι), l[i]? = some d → Pi i x → ∃ ρ2, EG vs g d (J x) ρ2 ∧ OT ρ2 t (fun ρ' => ∃ y, Pi (i + 1) y ∧ Le ρ' (J y)) R) (hd : ∀ x, Pi l.length x → OT (J x) u N R) : OT ρ (tSeq (tFor wi g t) u) N R := by
  refine ot_seq (M := fun ρ' => ∃ x, Pi l.length x ∧ Le ρ' (J x)) (ot_for (vs := vs) (fun i ρ' => ∃ x, Pi i x ∧ Le ρ' (J x)) hI ⟨x0, h0, l0⟩ (fun i d ρ' hdd iv => ?_) fun ρ' h => h) fun ρ' h => ?_
  · obtain ⟨x, hx, hle⟩ := iv
    obtain ⟨ρ2, k1, k2⟩ := hs i d x hdd hx
    exact ⟨ρ2, k1.up hle, k2⟩
  · obtain ⟨x, hx, hle⟩ := h
    exact (hd x hx).weak hle
end
theorem max_in : ∀ {ns : List Nat}, ns ≠ [] → ∃ M ∈ ns, ∀ n ∈ ns, n ≤ M
  | [a], _ => ⟨a, List.mem_cons_self .., fun n hn => by simp at hn; omega⟩
  | a :: b :: ns, _ => by
    obtain ⟨M, h1, h2⟩ := max_in (ns := b :: ns) (by simp)
    by_cases h : a ≤ M
    · exact ⟨M, List.mem_cons_of_mem _ h1, fun n hn => by
        rcases List.mem_cons.mp hn with q | q
        · omega
        · exact h2 n q⟩
    · refine ⟨a, List.mem_cons_self .., fun n hn => ?_⟩
      rcases List.mem_cons.mp hn with q | q
      · omega
      · have := h2 n q; omega
end K68

namespace K68
open PySem PySem.Spec PyProof.Rows L2
open Evl (Ex)
def encN (r : Option Nat) : PyData := encO (r.map fun n => (n : Int))
def R_never_more (ds : List PyData) (d : PyData) : Prop := ∃ (T : Nat) (E F : List Er), ds = [lotD T E, lotD T F] ∧ 1 ≤ T ∧ T ≤ 8 ∧ E.length ≤ 1000 ∧ F.length ≤ 1000 ∧ d = .bool (notMore T E F)
theorem dif_len (T : Nat) (E F : List Er) (h : T ≤ 8) : (difL T E F).length ≤ 36 := by unfold difL; rw [List.length_map]; exact spans_len T h
abbrev N_never_more : List Str := ["one", "other", "first", "last", "more"]
theorem sc_never_more : FnScope N_never_more ["one", "other"] (defScope s_never_more) := ⟨rfl, rfl, rfl, by decide +kernel, rfl, by decide +kernel, by decide +kernel⟩
/- slots: 0:one 1:other 2:first 3:last 4:more ; cells:  ; callees: differences -/
theorem w_never_more {P : Program} {w : World} {K : PySem.W.Frag} {mg : Str → Option Value} {base : Heap} {f : Addr} {fd : FuncData} (T : Bn mg) (c_differences : C8.Cal P w K mg base 4 "differences" (spD R_differences) []) (F : FunD K "never_more" "never_more" (defArgs s_never_more) (defBody s_never_more) (defScope s_never_more) [] [] f fd) (hm : mg "never_more" = some (.ref f)) : C8.Cal P w K mg base 5 "never_more" (spD R_never_more) [] := by
  refine cal_of (N := N_never_more) (ps := ["one", "other"]) F hm sc_never_more (fun kV doc pm an cdv ct us hl => by match us, hl with | [u0, u1], _ => rfl) (fun ds d h => by obtain ⟨n, G1, G2, rfl, h1, h8, few1, few2, rfl⟩ := h; rfl) ?_
  intro cdv A outer s H E hr
  have nd := sc_never_more.nd
  refine ⟨_, (pss_one (ps_ret (pe_callB (bAll (K := K) rfl rfl) (by rfl) T.ball (by decide +kernel) (pa_cons (pe_lc (own := [("first", 2), ("last", 3), ("more", 4)]) (g := (gTup K 3 (gCons (gName 2) (gCons (gName 3) (gCons (gName 4) gNil))))) (tt := tYes)  rfl nd (iL (K := K) rfl (C8.pe_c c_differences hr (by decide) (by rfl) (pa_cons (pv 0) (pa_cons (pv 1) pa_nil)))) (blkOk_by (own := [("first", 2), ("last", 3), ("more", 4)]) (N := N_never_more) (sc := defScope s_never_more) (by decide +kernel)) (fun _ _ _ _ _ => (gT (K := K) (n := 3) rfl rfl (pgs_cons (pg_name (i := 2) nd rfl (.inl rfl)) (pgs_cons (pg_name (i := 3) nd rfl (.inl rfl)) (pgs_cons (pg_name (i := 4) nd rfl (.inl rfl)) pgs_nil))))) (fun _ _ _ _ _ => pts_nil) (fun _ _ _ _ _ => (pe_cmpR op_le (pv 4) pe_int (nomark _)))) pa_nil)))), ?_⟩
  intro ds d h
  obtain ⟨n, G1, G2, rfl, h1, h8, few1, few2, rfl⟩ := h
  refine ot_ret (et_allL (et_mapV .bool (difL n G1 G2) difD (fun e => decide (e.2 ≤ 0)) (it_list (et_call (ea2 et_var et_var) ⟨n, G1, G2, rfl, h1, h8, few1, few2, rfl⟩)) (by have := dif_len n G1 G2 h8; omega) fun x hx => ⟨_, eg3 (by decide) (by decide) (by decide), et_B0 (g := fun i j => decide (i ≤ j)) et_var et_int, nol_bool⟩)) ?_
  unfold difL notMore
  rw [List.map_map, List.all_map]
  congr 2
  funext v
  simp only [Function.comp, id]
  exact decide_eq_decide.mpr (by omega)
def overL (T : Nat) (E F : List Er) : List Er := (difL T E F).filter fun e => decide (0 < e.2)
def R_over (ds : List PyData) (d : PyData) : Prop := ∃ (T : Nat) (E F : List Er), ds = [lotD T E, lotD T F] ∧ 1 ≤ T ∧ T ≤ 8 ∧ E.length ≤ 1000 ∧ F.length ≤ 1000 ∧ d = .list ((overL T E F).map difD)
abbrev N_over : List Str := ["one", "other", "first", "last", "more"]
theorem sc_over : FnScope N_over ["one", "other"] (defScope s_over) := ⟨rfl, rfl, rfl, by decide +kernel, rfl, by decide +kernel, by decide +kernel⟩
/- slots: 0:one 1:other 2:first 3:last 4:more ; cells:  ; callees: differences -/
theorem w_over {P : Program} {w : World} {K : PySem.W.Frag} {mg : Str → Option Value} {base : Heap} {f : Addr} {fd : FuncData} (T : Bn mg) (c_differences : C8.Cal P w K mg base 4 "differences" (spD R_differences) []) (F : FunD K "over" "over" (defArgs s_over) (defBody s_over) (defScope s_over) [] [] f fd) (hm : mg "over" = some (.ref f)) : C8.Cal P w K mg base 5 "over" (spD R_over) [] := by
  refine cal_of (N := N_over) (ps := ["one", "other"]) F hm sc_over (fun kV doc pm an cdv ct us hl => by match us, hl with | [u0, u1], _ => rfl) (fun ds d h => by obtain ⟨n, G1, G2, rfl, h1, h8, few1, few2, rfl⟩ := h; rfl) ?_
  intro cdv A outer s H E hr
  have nd := sc_over.nd
  refine ⟨_, (pss_one (ps_ret (pe_lc (own := [("first", 2), ("last", 3), ("more", 4)]) (g := (gTup K 3 (gCons (gName 2) (gCons (gName 3) (gCons (gName 4) gNil)))))  rfl nd (iL (K := K) rfl (C8.pe_c c_differences hr (by decide) (by rfl) (pa_cons (pv 0) (pa_cons (pv 1) pa_nil)))) (blkOk_by (own := [("first", 2), ("last", 3), ("more", 4)]) (N := N_over) (sc := defScope s_over) (by decide +kernel)) (fun _ _ _ _ _ => (gT (K := K) (n := 3) rfl rfl (pgs_cons (pg_name (i := 2) nd rfl (.inl rfl)) (pgs_cons (pg_name (i := 3) nd rfl (.inl rfl)) (pgs_cons (pg_name (i := 4) nd rfl (.inl rfl)) pgs_nil))))) (fun _ _ _ _ _ => (pts_one (pt_cmpR op_gt (pv 4) pe_int (nomark _)))) (fun _ _ _ _ _ => (pe_tup (pa_cons (pv 2) (pa_cons (pv 3) (pa_cons (pv 4) pa_nil)))))))), ?_⟩
  intro ds d h
  obtain ⟨n, G1, G2, rfl, h1, h8, few1, few2, rfl⟩ := h
  exact ot_ret (et_lc (difL n G1 G2) difD (fun e => decide (0 < e.2)) difD (it_list (et_call (ea2 et_var et_var) ⟨n, G1, G2, rfl, h1, h8, few1, few2, rfl⟩)) (by have := dif_len n G1 G2 h8; omega) fun x hx => ⟨_, eg3 (by decide) (by decide) (by decide), eb_test (et_B0 (g := fun i j => decide (j < i)) et_var et_int), fun _ => ⟨et_trip et_var et_var et_var nol_int nol_int nol_int, nol_tup⟩⟩) rfl
/-! ### waits -/
def R_wait_for (ds : List PyData) (d : PyData) : Prop := ∃ (c : List Int) (a : Int) (g l : Nat) (work : Int), ds = [calD c, .int a, winD (g, l), .int work] ∧ Nn c ∧ 0 ≤ a ∧ a < 1000000 ∧ g ≤ l ∧ l < c.length ∧ d = encN (wait c a g l work)
abbrev N_wait_for : List Str := ["calendar", "after", "stretch", "work", "rest", "first", "hour"]
theorem sc_wait_for : FnScope N_wait_for ["calendar", "after", "stretch", "work"] (defScope s_wait_for) := ⟨rfl, rfl, rfl, by decide +kernel, rfl, by decide +kernel, by decide +kernel⟩
/- slots: 0:calendar 1:after 2:stretch 3:work 4:rest 5:first 6:hour ; cells:  ; callees:  -/
theorem w_wait_for {P : Program} {w : World} {K : PySem.W.Frag} {mg : Str → Option Value} {base : Heap} {f : Addr} {fd : FuncData} (T : Bn mg) (F : FunD K "wait_for" "wait_for" (defArgs s_wait_for) (defBody s_wait_for) (defScope s_wait_for) [] [] f fd) (hm : mg "wait_for" = some (.ref f)) : C8.Cal P w K mg base 1 "wait_for" (spD R_wait_for) [] := by
  refine cal_of (N := N_wait_for) (ps := ["calendar", "after", "stretch", "work"]) F hm sc_wait_for (fun kV doc pm an cdv ct us hl => by match us, hl with | [u0, u1, u2, u3], _ => rfl) (fun ds d h => by obtain ⟨c, a, g, l, work, rfl, hc, ha, ha2, hgl, hl, rfl⟩ := h; rfl) ?_
  intro cdv A outer s H E hr
  have nd := sc_wait_for.nd
  refine ⟨_, (pss_cons (ps_asg (pv 2) (gT (K := K) (n := 2) rfl rfl (pgs_cons (pg_name (i := 5) nd rfl (.inl rfl)) (pgs_cons (pg_name (i := 6) nd rfl (.inl rfl)) pgs_nil))))
    (pss_cons (ps_set (i := 4) nd rfl (.inl rfl) (pe_op op_sub (pv 3) (pe_callB (bSumT (K := K) rfl rfl) (by rfl) T.bsum (by decide +kernel) (pa_cons (pe_slice (yT (K := K) rfl) (pv 0) (po_some (pv 5)) (po_some (pe_op op_add (pv 6) pe_int))) pa_nil))))
    (pss_cons (ps_while PassesOwn.never (pw_and (pt_cmpR op_gt (pv 4) pe_int (nomark _)) (pw_and1 (pt_cmpR op_lt (pv 6) (pe_op op_sub (pe_callB (bLen (K := K) rfl) (by rfl) T.blen (by decide +kernel) (pa_cons (pv 0) pa_nil)) pe_int) (nomark _)))).pt
      (pss_cons (ps_aug (i := 6) nd rfl (.inl rfl) pe_int ip_add)
    (pss_one (ps_aug (i := 4) nd rfl (.inl rfl) (pe_ix (xT (K := K) rfl) (pv 0) (pv 6) (fun _ _ => rfl)) ip_sub))))
    (pss_cons (ps_if (pw_and (pt_cmpR op_gt (pv 4) pe_int (nomark _)) (pw_and1 (pt_cmpR op_eq (pv 1) pe_int (nomark _)))).pt
      (pss_one (ps_ret pe_non)) pss_nil)
    (pss_one (ps_ret (pe_op op_add (pe_op op_sub (pv 6) (pe_ix (xT (K := K) rfl) (pv 2) pe_int (fun _ _ => rfl))) (pe_ifExp (pt_cmpR op_gt (pv 4) pe_int (nomark _)) (pe_un un_neg (pe_op op_fdiv (pe_un un_neg (pv 4)) (pv 1))) pe_int)))))))), ?_⟩
  intro ds d h
  obtain ⟨c, a, g, l, work, rfl, hc, ha, ha2, hgl, hl, rfl⟩ := h
  refine ot_letG (vs := [5, 6]) et_var (eg2 (by decide) (by decide)) ?_
  have e0 : work - ((c.drop g).take (l + 1 - g)).sum = work - csum c g (l + 1) := rfl
  refine ot_let (d := .int (work - csum c g (l + 1))) (et_I0 (g := fun i j => i - j) et_var (et_sumT (ns := (c.drop g).take (l + 1 - g)) (et_is (et_slT (lo := g) (hi := l + 1) et_var et_var (et_is (et_I0 et_var et_int) (by simp))) (by rw [cal_slice])))) ?_
  refine ot_seq (ot_while (m := c.length - l) (fun m ρ' => ∃ h : Nat, m = c.length - h ∧ l ≤ h ∧ h < c.length ∧ (∀ k, l + 1 ≤ k → k ≤ h → csum c g k < work) ∧ ρ' = [some (calD c), some (.int a), some (winD (g, l)), some (.int work), some (.int (work - csum c g (h + 1))), some (.int (g : Nat)), some (.int (h : Nat))])
    (N := fun ρ' => ∃ h : Nat, l ≤ h ∧ h < c.length ∧ (∀ k, l + 1 ≤ k → k ≤ h → csum c g k < work) ∧ (work - csum c g (h + 1) ≤ 0 ∨ h = c.length - 1) ∧ ρ' = [some (calD c), some (.int a), some (winD (g, l)), some (.int work), some (.int (work - csum c g (h + 1))), some (.int (g : Nat)), some (.int (h : Nat))])
    ⟨l, rfl, Nat.le_refl _, hl, fun k h1 h2 => by omega, rfl⟩ ?_) ?_
  · rintro m ρ' ⟨h, rfl, h1, h2, hb, rfl⟩
    refine ⟨decide (0 < work - csum c g (h + 1)) && decide ((h : Int) < ((c.map PyData.int).length : Nat) - 1), eb_and (eb_test (et_B0 (g := fun i j => decide (j < i)) et_var et_int)) fun _ => eb_test (et_B0 (g := fun i j => decide (i < j)) et_var (et_I0 (g := fun i j => i - j) (et_lenT et_var) et_int)), fun hk => ?_, fun hk => ?_⟩
    · rw [List.length_map, Bool.and_eq_true, decide_eq_true_iff, decide_eq_true_iff] at hk
      have hs := csum_succ c (f := g) (n := h + 1) (by omega)
      have hg : c[h + 1]? = some (c.getD (h + 1) 0) := by
        rw [List.getD_eq_getElem?_getD, List.getElem?_eq_getElem (by omega)]; rfl
      refine ot_seq (M := fun ρ' => ρ' = [some (calD c), some (.int a), some (winD (g, l)), some (.int work), some (.int (work - csum c g (h + 1))), some (.int (g : Nat)), some (.int ((h + 1 : Nat) : Int))]) (ot_aug (f := fun i j => i + j) (a := (h : Nat)) (b := 1) rfl et_int (by simp)) ?_
      rintro ρ2 rfl
      refine ot_aug (f := fun i j => i - j) (a := work - csum c g (h + 1)) (b := c.getD (h + 1) 0) rfl (et_ix (n := h + 1) et_var et_var (by rw [List.getElem?_map, hg]; rfl)) ⟨c.length - (h + 1), by omega, h + 1, rfl, by omega, by omega, fun k k1 k2 => ?_, ?_⟩
      · by_cases hk2 : k = h + 1
        · rw [hk2]; omega
        · exact hb k k1 (by omega)
      · rw [hs, Int.sub_sub]
        rfl
    · refine ⟨h, h1, h2, hb, ?_, rfl⟩
      rw [List.length_map, Bool.and_eq_false_iff, decide_eq_false_iff_not, decide_eq_false_iff_not] at hk
      omega
  · rintro ρ' ⟨h, h1, h2, hb, hor, rfl⟩
    refine ot_ifr (b := decide (0 < work - csum c g (h + 1)) && decide (a = 0)) (eb_and (eb_test (et_B0 (g := fun i j => decide (j < i)) et_var et_int)) fun _ => eb_test (et_eqI et_var et_int)) (fun hk => ?_) fun hk => ?_
    · rw [Bool.and_eq_true, decide_eq_true_iff, decide_eq_true_iff] at hk
      obtain ⟨k1, k2⟩ := hk
      subst k2
      have e : h = c.length - 1 := by omega
      subst e
      rw [show c.length - 1 + 1 = c.length by omega] at k1
      exact ot_ret et_non (by rw [wait_never hc hl k1]; rfl)
    · rw [Bool.and_eq_false_iff, decide_eq_false_iff_not, decide_eq_false_iff_not] at hk
      by_cases hr : 0 < work - csum c g (h + 1)
      · have hap : 0 < a := by omega
        have e : h = c.length - 1 := by omega
        have hr' := hr
        rw [show h + 1 = c.length by omega] at hr'
        refine ot_ret (et_I0 (g := fun i j => i + j) (et_I0 (g := fun i j => i - j) et_var (et_ix (n := 1) et_var et_int rfl)) (et_if (d := .int (-((-(work - csum c g (h + 1))) / a))) (eb_is (eb_test (et_B0 (g := fun i j => decide (j < i)) et_var et_int)) (decide_eq_true hr)) (fun _ => et_U (g := fun i => -i) (et_I (g := fun i j => i / j) (et_U (g := fun i => -i) et_var) et_var ⟨hap, by omega⟩)) (fun z => nomatch z))) ?_
        rw [wait_behind hc hap hl hr']
        have hcp := ceil_pos hap hr
        rw [show h + 1 = c.length by omega] at hcp ⊢
        show PyData.int ((h : Int) - (l : Nat) + _) = PyData.int ((_ : Nat) : Int)
        congr 1
        omega
      · refine ot_ret (et_I0 (g := fun i j => i + j) (et_I0 (g := fun i j => i - j) et_var (et_ix (n := 1) et_var et_int rfl)) (et_if (d := .int 0) (eb_is (eb_test (et_B0 (g := fun i j => decide (j < i)) et_var et_int)) (decide_eq_false hr)) (fun z => nomatch z) (fun _ => et_int))) ?_
        rw [wait_in hc ha h1 h2 (by omega) hb]
        show PyData.int ((h : Int) - (l : Nat) + 0) = PyData.int ((_ : Nat) : Int)
        congr 1
        omega
end K68

namespace K68
open PySem PySem.Spec PyProof.Rows L2
open Evl (Ex)
/-- a lot, a calendar, the hands behind it -/
structure CalOk (T : Nat) (E : List Er) (c : List Int) (a : Int) : Prop where
  lot : LotOk T E
  len : c.length = T
  nn : Nn c
  a0 : 0 ≤ a
  a1 : a < 1000000
theorem nol_n (r : Option Nat) : NoL (encN r) := nol_o _
noncomputable def rowW (E : List Er) (c : List Int) (a : Int) (v : Win) : PyData := .tuple [winD v, encN (wait c a v.1 v.2 (asks E v.1 v.2))]
def R_all_waits (ds : List PyData) (d : PyData) : Prop := ∃ (T : Nat) (E : List Er) (c : List Int) (a : Int), ds = [lotD T E, calD c, .int a] ∧ CalOk T E c a ∧ d = .list ((spans T).map (rowW E c a))
abbrev N_all_waits : List Str := ["lot", "calendar", "after", "spans", "span"]
theorem sc_all_waits : FnScope N_all_waits ["lot", "calendar", "after"] (defScope s_all_waits) := ⟨rfl, rfl, rfl, by decide +kernel, rfl, by decide +kernel, by decide +kernel⟩
/- slots: 0:lot 1:calendar 2:after 3:spans 4:span ; cells: after calendar lot ; callees: check_calendar all_stretches asked wait_for -/
theorem w_all_waits {P : Program} {w : World} {K : PySem.W.Frag} {mg : Str → Option Value} {base : Heap} {f : Addr} {fd : FuncData} (T : Bn mg) (c_check_calendar : C8.Cal P w K mg base 1 "check_calendar" (spD R_check_calendar) []) (c_all_stretches : C8.Cal P w K mg base 1 "all_stretches" (spD R_all_stretches) []) (c_asked : C8.Cal P w K mg base 2 "asked" (spD R_asked) []) (c_wait_for : C8.Cal P w K mg base 1 "wait_for" (spD R_wait_for) []) (F : FunD K "all_waits" "all_waits" (defArgs s_all_waits) (defBody s_all_waits) (defScope s_all_waits) [] [] f fd) (hm : mg "all_waits" = some (.ref f)) : C8.Cal P w K mg base 3 "all_waits" (spD R_all_waits) [] := by
  refine cal_of (N := N_all_waits) (ps := ["lot", "calendar", "after"]) F hm sc_all_waits (fun kV doc pm an cdv ct us hl => by match us, hl with | [u0, u1, u2], _ => rfl) (fun ds d h => by obtain ⟨n, G, c, a, rfl, hk, rfl⟩ := h; rfl) ?_
  intro cdv A outer s H E hr
  have nd := sc_all_waits.nd
  refine ⟨_, (pss_cons (ps_expr (C8.pe_c c_check_calendar hr (by decide) (by rfl) (pa_cons (pv 0) (pa_cons (pv 1) pa_nil))))
    (pss_cons (ps_set (i := 3) nd rfl (.inl rfl) (C8.pe_c c_all_stretches hr (by decide) (by rfl) (pa_cons (pe_ix (xT (K := K) rfl) (pv 0) pe_int (fun _ _ => rfl)) pa_nil)))
    (pss_one (ps_ret (pe_lc (own := [("span", 4)]) (g := (gName 4)) (tt := tYes)  rfl nd (iL (K := K) rfl (pv 3)) (blkOk_by (own := [("span", 4)]) (N := N_all_waits) (sc := defScope s_all_waits) (by decide +kernel)) (fun _ _ _ _ _ => (pg_name (i := 4) nd rfl (.inl rfl))) (fun _ _ _ _ _ => pts_nil) (fun _ _ _ _ _ => (pe_tup (pa_cons (pv 4) (pa_cons (C8.pe_c c_wait_for hr (by decide) (by rfl) (pa_cons (pv 1) (pa_cons (pv 2) (pa_cons (pv 4) (pa_cons (C8.pe_c c_asked hr (by decide) (by rfl) (pa_cons (pv 0) (pa_cons (pe_ix (xT (K := K) rfl) (pv 4) pe_int (fun _ _ => rfl)) (pa_cons (pe_ix (xT (K := K) rfl) (pv 4) pe_int (fun _ _ => rfl)) pa_nil)))) pa_nil))))) pa_nil))))))))), ?_⟩
  intro ds d h
  obtain ⟨n, G, c, a, rfl, hk, rfl⟩ := h
  have h8 := hk.lot.le8
  have few := hk.lot.few
  refine ot_do (et_call (ea2 et_var et_var) ⟨n, G, c, rfl, hk.len, rfl⟩) (ot_let (et_call (ea1 (et_ix (n := 0) et_var et_int rfl)) ⟨n, rfl, h8, rfl⟩) (ot_ret (et_map (spans n) winD (rowW G c a) (it_list et_var) (by have := spans_len n h8; omega) fun v hv => ⟨_, eg_name (by decide), et_pair et_var (et_call (ea4 et_var et_var et_var (et_call (ea3 et_var (et_ix (n := 0) et_var et_int rfl) (et_ix (n := 1) et_var et_int rfl)) ⟨n, G, v.1, v.2, rfl, (mem_spans.mp hv).1, (mem_spans.mp hv).2, by omega, rfl⟩)) ⟨c, a, v.1, v.2, _, rfl, hk.nn, hk.a0, hk.a1, (mem_spans.mp hv).1, by rw [hk.len]; exact (mem_spans.mp hv).2, rfl⟩) nol_win (nol_n _), nol_tup⟩) rfl))
def R_lateness (ds : List PyData) (d : PyData) : Prop := ∃ (T : Nat) (E : List Er) (c : List Int) (a : Int), ds = [lotD T E, calD c, .int a] ∧ CalOk T E c a ∧ d = encN (late T E c a)
abbrev N_lateness : List Str := ["lot", "calendar", "after", "waits", "span", "wait"]
theorem sc_lateness : FnScope N_lateness ["lot", "calendar", "after"] (defScope s_lateness) := ⟨rfl, rfl, rfl, by decide +kernel, rfl, by decide +kernel, by decide +kernel⟩
/- slots: 0:lot 1:calendar 2:after 3:waits 4:span 5:wait ; cells:  ; callees: all_waits -/
theorem w_lateness {P : Program} {w : World} {K : PySem.W.Frag} {mg : Str → Option Value} {base : Heap} {f : Addr} {fd : FuncData} (T : Bn mg) (c_all_waits : C8.Cal P w K mg base 3 "all_waits" (spD R_all_waits) []) (F : FunD K "lateness" "lateness" (defArgs s_lateness) (defBody s_lateness) (defScope s_lateness) [] [] f fd) (hm : mg "lateness" = some (.ref f)) : C8.Cal P w K mg base 4 "lateness" (spD R_lateness) [] := by
  refine cal_of (N := N_lateness) (ps := ["lot", "calendar", "after"]) F hm sc_lateness (fun kV doc pm an cdv ct us hl => by match us, hl with | [u0, u1, u2], _ => rfl) (fun ds d h => by obtain ⟨n, G, c, a, rfl, hk, rfl⟩ := h; rfl) ?_
  intro cdv A outer s H E hr
  have nd := sc_lateness.nd
  refine ⟨_, (pss_cons (ps_setLc (i := 3) (own := [("span", 4), ("wait", 5)]) (g := (gTup K 2 (gCons (gName 4) (gCons (gName 5) gNil)))) (tt := tYes)  rfl nd rfl rfl (sw_true rfl rfl rfl (by decide +kernel)) (iL (K := K) rfl (C8.pe_c c_all_waits hr (by decide) (by rfl) (pa_cons (pv 0) (pa_cons (pv 1) (pa_cons (pv 2) pa_nil))))) (blkOk_by (own := [("span", 4), ("wait", 5)]) (N := N_lateness) (sc := defScope s_lateness) (by decide +kernel)) (fun _ _ _ _ _ => (gT (K := K) (n := 2) rfl rfl (pgs_cons (pg_name (i := 4) nd rfl (.inl rfl)) (pgs_cons (pg_name (i := 5) nd rfl (.inl rfl)) pgs_nil)))) (fun _ _ _ _ _ => pts_nil) (fun _ _ _ _ _ => (pv 5)))
    (pss_one (ps_ret (pe_ifExp (pt_cmpR (oIn (K := K) rfl) pe_non (pv 3) (by with_unfolding_all rfl)) pe_non (pe_callB (bMax (K := K) rfl rfl) (by rfl) T.bmax (by decide +kernel) (pa_cons (pv 3) pa_nil)))))), ?_⟩
  intro ds d h
  obtain ⟨n, G, c, a, rfl, hk, rfl⟩ := h
  have h8 := hk.lot.le8
  have e1 : ((waits n G c a).map encN) = ((waits n G c a).map fun r => r.map fun k => (k : Int)).map encO := by rw [List.map_map]; rfl
  have hs : (spans n).length ≤ 36 := spans_len n h8
  refine ot_let (d := .list ((waits n G c a).map encN)) (et_is (et_mapV encN (spans n) (rowW G c a) (fun v => wait c a v.1 v.2 (asks G v.1 v.2)) (it_list (et_call (ea3 et_var et_var et_var) ⟨n, G, c, a, rfl, hk, rfl⟩)) (by omega) fun v hv => ⟨_, eg2 (by decide) (by decide), et_var, nol_n _⟩) rfl) (ot_ret (et_if (eb_test (et_nin (rs := (waits n G c a).map fun r => r.map fun k => (k : Int)) et_non (et_is et_var (by rw [e1])))) (fun h => ?_) fun h => ?_) rfl)
  · rw [List.any_map, List.any_eq_true] at h
    obtain ⟨r, hr, h⟩ := h
    have : r = none := by cases r with
      | none => rfl
      | some k => cases h
    rw [late_none hk.nn hk.a0 (this ▸ hr)]
    exact et_non
  · have hn : none ∉ waits n G c a := fun hm => by
      have := List.any_eq_false.mp h none (List.mem_map.mpr ⟨none, hm, rfl⟩)
      simp at this
    obtain ⟨ns, hns⟩ := all_some hn
    have hne : ns ≠ [] := fun z => by
      rw [z] at hns
      unfold waits at hns
      exact spans_ne hk.lot.pos (List.map_eq_nil_iff.mp hns)
    obtain ⟨M, m1, m2⟩ := max_in hne
    rw [late_max hk.nn hk.a0 hns m1 m2]
    refine et_maxL (ns := ns.map fun k : Nat => (k : Int)) (et_is et_var ?_) (List.mem_map.mpr ⟨M, m1, rfl⟩) fun y hy => ?_
    · rw [hns, List.map_map, List.map_map]
      rfl
    · obtain ⟨k, hk, rfl⟩ := List.mem_map.mp hy
      have := m2 k hk
      show (k : Int) ≤ (M : Int)
      omega
def R_done_late (ds : List PyData) (d : PyData) : Prop := ∃ (T : Nat) (E : List Er) (c : List Int) (a : Int) (m : Nat), ds = [lotD T E, calD c, .int a, .int (m : Nat)] ∧ CalOk T E c a ∧ d = .bool (leO (late T E c a) m)
abbrev N_done_late : List Str := ["lot", "calendar", "after", "late", "found"]
theorem sc_done_late : FnScope N_done_late ["lot", "calendar", "after", "late"] (defScope s_done_late) := ⟨rfl, rfl, rfl, by decide +kernel, rfl, by decide +kernel, by decide +kernel⟩
/- slots: 0:lot 1:calendar 2:after 3:late 4:found ; cells:  ; callees: lateness -/
theorem w_done_late {P : Program} {w : World} {K : PySem.W.Frag} {mg : Str → Option Value} {base : Heap} {f : Addr} {fd : FuncData} (T : Bn mg) (c_lateness : C8.Cal P w K mg base 4 "lateness" (spD R_lateness) []) (F : FunD K "done_late" "done_late" (defArgs s_done_late) (defBody s_done_late) (defScope s_done_late) [] [] f fd) (hm : mg "done_late" = some (.ref f)) : C8.Cal P w K mg base 5 "done_late" (spD R_done_late) [] := by
  refine cal_of (N := N_done_late) (ps := ["lot", "calendar", "after", "late"]) F hm sc_done_late (fun kV doc pm an cdv ct us hl => by match us, hl with | [u0, u1, u2, u3], _ => rfl) (fun ds d h => by obtain ⟨n, G, c, a, m, rfl, hk, rfl⟩ := h; rfl) ?_
  intro cdv A outer s H E hr
  have nd := sc_done_late.nd
  refine ⟨_, (pss_cons (ps_set (i := 4) nd rfl (.inl rfl) (C8.pe_c c_lateness hr (by decide) (by rfl) (pa_cons (pv 0) (pa_cons (pv 1) (pa_cons (pv 2) pa_nil)))))
    (pss_one (ps_ret (pe_and (pe_cmpR op_notN (pv 4) pe_non (nomark _)) (pe_one (pe_cmpR op_le (pv 4) (pv 3) (nomark _))))))), ?_⟩
  intro ds d h
  obtain ⟨n, G, c, a, m, rfl, hk, rfl⟩ := h
  refine ot_let (et_call (ea3 et_var et_var et_var) ⟨n, G, c, a, rfl, hk, rfl⟩) ?_
  cases e : late n G c a with
  | none => exact ot_ret (et_and (a := false) (b := true) (et_notN (d := encN none) et_var) (fun z => nomatch z)) rfl
  | some k =>
    refine ot_ret (et_and (a := true) (b := decide ((k : Int) ≤ (m : Nat))) (et_notN (d := encN (some k)) et_var) (fun _ => et_B0 (g := fun i j => decide (i ≤ j)) et_var et_var)) ?_
    unfold leO
    simp
theorem opt_dec (r s : Option Nat) : decide ((r.map fun k => (k : Int)) = s.map fun k => (k : Int)) = decide (r = s) := by
  cases r <;> cases s <;> simp <;> omega
noncomputable def lateS (T : Nat) (E : List Er) (c : List Int) (a : Int) : List Win := if late T E c a = some 0 then [] else (spans T).filter fun v => decide (wait c a v.1 v.2 (asks E v.1 v.2) = late T E c a)
def R_late_stretches (ds : List PyData) (d : PyData) : Prop := ∃ (T : Nat) (E : List Er) (c : List Int) (a : Int), ds = [lotD T E, calD c, .int a] ∧ CalOk T E c a ∧ d = .tuple ((lateS T E c a).map winD)
abbrev N_late_stretches : List Str := ["lot", "calendar", "after", "found", "span", "wait"]
theorem sc_late_stretches : FnScope N_late_stretches ["lot", "calendar", "after"] (defScope s_late_stretches) := ⟨rfl, rfl, rfl, by decide +kernel, rfl, by decide +kernel, by decide +kernel⟩
/- slots: 0:lot 1:calendar 2:after 3:found 4:span 5:wait ; cells: found ; callees: lateness all_waits -/
theorem w_late_stretches {P : Program} {w : World} {K : PySem.W.Frag} {mg : Str → Option Value} {base : Heap} {f : Addr} {fd : FuncData} (T : Bn mg) (c_lateness : C8.Cal P w K mg base 4 "lateness" (spD R_lateness) []) (c_all_waits : C8.Cal P w K mg base 3 "all_waits" (spD R_all_waits) []) (F : FunD K "late_stretches" "late_stretches" (defArgs s_late_stretches) (defBody s_late_stretches) (defScope s_late_stretches) [] [] f fd) (hm : mg "late_stretches" = some (.ref f)) : C8.Cal P w K mg base 5 "late_stretches" (spD R_late_stretches) [] := by
  refine cal_of (N := N_late_stretches) (ps := ["lot", "calendar", "after"]) F hm sc_late_stretches (fun kV doc pm an cdv ct us hl => by match us, hl with | [u0, u1, u2], _ => rfl) (fun ds d h => by obtain ⟨n, G, c, a, rfl, hk, rfl⟩ := h; rfl) ?_
  intro cdv A outer s H E hr
  have nd := sc_late_stretches.nd
  refine ⟨_, (pss_cons (ps_set (i := 3) nd rfl (.inr rfl) (C8.pe_c c_lateness hr (by decide) (by rfl) (pa_cons (pv 0) (pa_cons (pv 1) (pa_cons (pv 2) pa_nil)))))
    (pss_one (ps_ret (pe_ifExp (pt_cmpR op_eq (pv 3) pe_int (nomark _)) (pe_tup pa_nil) (pe_callTy (bTup (K := K) rfl) (by rfl) T.btuple (by decide +kernel) (pa_cons (pe_lc (own := [("span", 4), ("wait", 5)]) (g := (gTup K 2 (gCons (gName 4) (gCons (gName 5) gNil))))  rfl nd (iL (K := K) rfl (C8.pe_c c_all_waits hr (by decide) (by rfl) (pa_cons (pv 0) (pa_cons (pv 1) (pa_cons (pv 2) pa_nil))))) (blkOk_by (own := [("span", 4), ("wait", 5)]) (N := N_late_stretches) (sc := defScope s_late_stretches) (by decide +kernel)) (fun _ _ _ _ _ => (gT (K := K) (n := 2) rfl rfl (pgs_cons (pg_name (i := 4) nd rfl (.inl rfl)) (pgs_cons (pg_name (i := 5) nd rfl (.inl rfl)) pgs_nil)))) (fun _ _ _ _ _ => (pts_one (pt_cmpR op_eq (pv 5) (pv 3) (nomark _)))) (fun _ _ _ _ _ => (pv 4))) pa_nil)))))), ?_⟩
  intro ds d h
  obtain ⟨n, G, c, a, rfl, hk, rfl⟩ := h
  have h8 := hk.lot.le8
  have hs : (spans n).length ≤ 36 := spans_len n h8
  refine ot_let (et_call (ea3 et_var et_var et_var) ⟨n, G, c, a, rfl, hk, rfl⟩) (ot_ret (et_if (b := decide (late n G c a = some 0)) (eb_is (eb_test (et_eqO (r := (late n G c a).map fun k => (k : Int)) (s := some 0) et_var et_int)) ?_) (fun h => ?_) fun h => ?_) rfl)
  · exact opt_dec _ (some 0)
  · rw [decide_eq_true_iff] at h
    unfold lateS
    rw [if_pos h]
    exact et_tup ea_nil True.intro (Nat.zero_le _)
  · rw [decide_eq_false_iff_not] at h
    unfold lateS
    rw [if_neg h]
    refine et_tupL (et_is (et_lc (spans n) (rowW G c a) (fun v => decide (wait c a v.1 v.2 (asks G v.1 v.2) = late n G c a)) winD (it_list (et_call (ea3 et_var et_var et_var) ⟨n, G, c, a, rfl, hk, rfl⟩)) (by omega) fun v hv => ⟨_, eg2 (by decide) (by decide), eb_is (eb_test (et_eqO (r := (wait c a v.1 v.2 (asks G v.1 v.2)).map fun k => (k : Int)) (s := (late n G c a).map fun k => (k : Int)) et_var et_var)) (opt_dec _ _), fun _ => ⟨et_var, nol_win⟩⟩) rfl)
def encF (r : Option Nat) : PyData := encO (r.map fun k => (k : Int) - 1)
def R_finish (ds : List PyData) (d : PyData) : Prop := ∃ (T : Nat) (E : List Er) (c : List Int) (a : Int), ds = [lotD T E, calD c, .int a] ∧ CalOk T E c a ∧ d = encF (fin1 T E c a)
abbrev N_finish : List Str := ["lot", "calendar", "after", "first", "found", "last", "work", "wait"]
theorem sc_finish : FnScope N_finish ["lot", "calendar", "after"] (defScope s_finish) := ⟨rfl, rfl, rfl, by decide +kernel, rfl, by decide +kernel, by decide +kernel⟩
/- slots: 0:lot 1:calendar 2:after 3:first 4:found 5:last 6:work 7:wait ; cells:  ; callees: check_calendar asked wait_for -/
theorem w_finish {P : Program} {w : World} {K : PySem.W.Frag} {mg : Str → Option Value} {base : Heap} {f : Addr} {fd : FuncData} (T : Bn mg) (c_check_calendar : C8.Cal P w K mg base 1 "check_calendar" (spD R_check_calendar) []) (c_asked : C8.Cal P w K mg base 2 "asked" (spD R_asked) []) (c_wait_for : C8.Cal P w K mg base 1 "wait_for" (spD R_wait_for) []) (F : FunD K "finish" "finish" (defArgs s_finish) (defBody s_finish) (defScope s_finish) [] [] f fd) (hm : mg "finish" = some (.ref f)) : C8.Cal P w K mg base 3 "finish" (spD R_finish) [] := by
  refine cal_of (N := N_finish) (ps := ["lot", "calendar", "after"]) F hm sc_finish (fun kV doc pm an cdv ct us hl => by match us, hl with | [u0, u1, u2], _ => rfl) (fun ds d h => by obtain ⟨n, G, c, a, rfl, hk, rfl⟩ := h; rfl) ?_
  intro cdv A outer s H E hr
  have nd := sc_finish.nd
  refine ⟨_, (pss_cons (ps_expr (C8.pe_c c_check_calendar hr (by decide) (by rfl) (pa_cons (pv 0) (pa_cons (pv 1) pa_nil))))
    (pss_cons (ps_par (i := 4) (j := 5) (by rfl) nd rfl rfl (by decide) rfl rfl (pa_cons (pe_un un_neg pe_int) (pa_cons (pe_op op_sub (pe_ix (xT (K := K) rfl) (pv 0) pe_int (fun _ _ => rfl)) pe_int) pa_nil)) (by rfl))
    (pss_cons (ps_for PassesOwn.never rfl (pi_range1 (by rfl) T.brange (pa_cons (pe_ix (xT (K := K) rfl) (pv 0) pe_int (fun _ _ => rfl)) pa_nil)) (pg_name (i := 3) nd rfl (.inl rfl))
      (pss_cons (ps_set (i := 6) nd rfl (.inl rfl) (C8.pe_c c_asked hr (by decide) (by rfl) (pa_cons (pv 0) (pa_cons (pv 3) (pa_cons (pv 5) pa_nil)))))
    (pss_one (ps_if (pt_cmpR op_gt (pv 6) pe_int (nomark _))
      (pss_cons (ps_set (i := 7) nd rfl (.inl rfl) (C8.pe_c c_wait_for hr (by decide) (by rfl) (pa_cons (pv 1) (pa_cons (pv 2) (pa_cons (pe_tup (pa_cons (pv 3) (pa_cons (pv 3) pa_nil))) (pa_cons (pv 6) pa_nil))))))
    (pss_cons (ps_if (pt_cmpR op_isN (pv 7) pe_non (nomark _))
      (pss_one (ps_ret pe_non)) pss_nil)
    (pss_one (ps_set (i := 4) nd rfl (.inl rfl) (pe_callB (call_max2 rfl) (by rfl) T.bmax (by decide +kernel) (pa_cons (pv 4) (pa_cons (pe_op op_add (pv 3) (pv 7)) pa_nil))))))) pss_nil))))
    (pss_one (ps_ret (pv 4)))))), ?_⟩
  intro ds d h
  obtain ⟨n, G, c, a, rfl, hk, rfl⟩ := h
  have h8 := hk.lot.le8
  have hp := hk.lot.pos
  have few := hk.lot.few
  refine ot_do (et_call (ea2 et_var et_var) ⟨n, G, c, rfl, hk.len, rfl⟩) (ot_let2 (ea2 (et_U (g := fun i => -i) et_int) (et_is (et_I0 (g := fun i j => i - j) (et_ix (n := 0) et_var et_int rfl) et_int) (by show PyData.int ((n : Int) - 1) = PyData.int ((n - 1 : Nat) : Int); congr 1; omega))) ?_)
  refine ot_forS (ι := Nat) (vs := [3]) (fun r => [some (lotD n G), some (calD c), some (.int a), none, some (.int ((r : Int) - 1)), some (.int ((n - 1 : Nat) : Int)), none, none]) (fun i r => Thr (FPs i n G c a) (some r)) (IT.is (it_range1 (n := (n : Nat)) (et_ix (n := 0) et_var et_int rfl) (by omega)) (rng0 n)) 0 FPs_zero (le_of ⟨.inr rfl, .inr rfl, .inr rfl, .inl rfl, .inr rfl, .inr rfl, .inl rfl, .inl rfl, True.intro⟩) ?_ ?_
  · intro i d r hd hr
    rw [List.getElem?_map] at hd
    have hi : i < n := by
      by_cases z : i < n
      · exact z
      · rw [List.getElem?_eq_none (by simpa using z)] at hd; cases hd
    rw [List.getElem?_range hi] at hd
    cases hd
    refine ⟨_, eg_name (by decide), ot_let (et_call (ea3 et_var et_var et_var) ⟨n, G, i, n - 1, rfl, by omega, by omega, by omega, rfl⟩) (ot_if (eb_test (et_B0 (g := fun i j => decide (j < i)) et_var et_int)) (fun h => ?_) fun h => ?_)⟩
    · rw [decide_eq_true_iff] at h
      refine ot_let (et_call (ea4 et_var et_var (et_pair et_var et_var nol_int nol_int) et_var) ⟨c, a, i, i, _, rfl, hk.nn, hk.a0, hk.a1, Nat.le_refl _, by rw [hk.len]; exact hi, rfl⟩) ?_
      cases e : wait c a i i (asks G i (n - 1)) with
      | none =>
        refine ot_ifr (b := true) (eb_test (et_isN (d := encN none) et_var)) (fun _ => ot_ret et_non ?_) (fun z => nomatch z)
        have : fin1 n G c a = none := (Thr.eq (FPs_none hk.nn hk.a0 hi e)).symm
        rw [this]
        rfl
      | some k =>
        refine ot_ifr (b := false) (eb_test (et_isN (d := encN (some k)) et_var)) (fun z => nomatch z) fun _ => ?_
        refine ot_asg (et_max2 et_var (et_I0 (g := fun i j => i + j) et_var et_var)) ⟨max r (i + 1 + k), FPs_more hk.nn hk.a0 (by rw [hk.len]; exact hi) hr h e, le_of ⟨.inr rfl, .inr rfl, .inr rfl, .inl rfl, .inr ?_, .inr rfl, .inl rfl, .inl rfl, True.intro⟩⟩
        refine congrArg (fun z => some (PyData.int z)) ?_
        show (if (i : Int) + (k : Nat) > (r : Int) - 1 then (i : Int) + (k : Nat) else (r : Int) - 1) = ((max r (i + 1 + k) : Nat) : Int) - 1
        rcases Nat.le_total r (i + 1 + k) with z | z
        · rw [Nat.max_eq_right z]
          split <;> omega
        · rw [Nat.max_eq_left z]
          split <;> omega
    · rw [decide_eq_false_iff_not] at h
      exact ot_nx ⟨r, FPs_pass hk.nn hk.a0 hr (by omega), le_of ⟨.inr rfl, .inr rfl, .inr rfl, .inl rfl, .inr rfl, .inr rfl, .inl rfl, .inl rfl, True.intro⟩⟩
  · intro r hr
    rw [List.length_map, List.length_range] at hr
    refine ot_ret et_var ?_
    have : fin1 n G c a = some r := Thr.eq hr |>.symm
    rw [this]
    rfl
end K68

namespace K68
open PySem PySem.Spec PyProof.Rows L2
open Evl (Ex)
def R_least_after (ds : List PyData) (d : PyData) : Prop := ∃ (T : Nat) (E : List Er) (c : List Int) (m : Nat), ds = [lotD T E, calD c, .int (m : Nat)] ∧ LotOk T E ∧ c.length = T ∧ m ≤ 1000 ∧ d = encN (need T E c m)
abbrev N_least_after : List Str := ["lot", "calendar", "late", "span", "found", "last", "rest", "hours"]
theorem sc_least_after : FnScope N_least_after ["lot", "calendar", "late"] (defScope s_least_after) := ⟨rfl, rfl, rfl, by decide +kernel, rfl, by decide +kernel, by decide +kernel⟩
/- slots: 0:lot 1:calendar 2:late 3:span 4:found 5:last 6:rest 7:hours ; cells:  ; callees: check_calendar all_stretches asked -/
theorem w_least_after {P : Program} {w : World} {K : PySem.W.Frag} {mg : Str → Option Value} {base : Heap} {f : Addr} {fd : FuncData} (T : Bn mg) (c_check_calendar : C8.Cal P w K mg base 1 "check_calendar" (spD R_check_calendar) []) (c_all_stretches : C8.Cal P w K mg base 1 "all_stretches" (spD R_all_stretches) []) (c_asked : C8.Cal P w K mg base 2 "asked" (spD R_asked) []) (F : FunD K "least_after" "least_after" (defArgs s_least_after) (defBody s_least_after) (defScope s_least_after) [] [] f fd) (hm : mg "least_after" = some (.ref f)) : C8.Cal P w K mg base 3 "least_after" (spD R_least_after) [] := by
  refine cal_of (N := N_least_after) (ps := ["lot", "calendar", "late"]) F hm sc_least_after (fun kV doc pm an cdv ct us hl => by match us, hl with | [u0, u1, u2], _ => rfl) (fun ds d h => by obtain ⟨n, G, c, m, rfl, hk, hl, hm1, rfl⟩ := h; rfl) ?_
  intro cdv A outer s H E hr
  have nd := sc_least_after.nd
  refine ⟨_, (pss_cons (ps_expr (C8.pe_c c_check_calendar hr (by decide) (by rfl) (pa_cons (pv 0) (pa_cons (pv 1) pa_nil))))
    (pss_cons (ps_par (i := 4) (j := 5) (by rfl) nd rfl rfl (by decide) rfl rfl (pa_cons pe_int (pa_cons (pe_op op_sub (pe_ix (xT (K := K) rfl) (pv 0) pe_int (fun _ _ => rfl)) pe_int) pa_nil)) (by rfl))
    (pss_cons (ps_for PassesOwn.never rfl (iL (K := K) rfl (C8.pe_c c_all_stretches hr (by decide) (by rfl) (pa_cons (pe_ix (xT (K := K) rfl) (pv 0) pe_int (fun _ _ => rfl)) pa_nil))) (pg_name (i := 3) nd rfl (.inl rfl))
      (pss_cons (ps_set (i := 6) nd rfl (.inl rfl) (pe_op op_sub (C8.pe_c c_asked hr (by decide) (by rfl) (pa_cons (pv 0) (pa_cons (pe_ix (xT (K := K) rfl) (pv 3) pe_int (fun _ _ => rfl)) (pa_cons (pe_ix (xT (K := K) rfl) (pv 3) pe_int (fun _ _ => rfl)) pa_nil)))) (pe_callB (bSumT (K := K) rfl rfl) (by rfl) T.bsum (by decide +kernel) (pa_cons (pe_slice (yT (K := K) rfl) (pv 1) (po_some (pe_ix (xT (K := K) rfl) (pv 3) pe_int (fun _ _ => rfl))) (po_some (pe_op op_add (pe_op op_add (pe_ix (xT (K := K) rfl) (pv 3) pe_int (fun _ _ => rfl)) (pv 2)) pe_int))) pa_nil))))
    (pss_cons (ps_set (i := 7) nd rfl (.inl rfl) (pe_op op_sub (pe_op op_add (pe_ix (xT (K := K) rfl) (pv 3) pe_int (fun _ _ => rfl)) (pv 2)) (pv 5)))
    (pss_cons (ps_if (pw_and (pt_cmpR op_gt (pv 6) pe_int (nomark _)) (pw_and1 (pt_cmpR op_lt (pv 7) pe_int (nomark _)))).pt
      (pss_one (ps_ret pe_non)) pss_nil)
    (pss_one (ps_if (pt_cmpR op_gt (pv 6) pe_int (nomark _))
      (pss_one (ps_set (i := 4) nd rfl (.inl rfl) (pe_callB (call_max2 rfl) (by rfl) T.bmax (by decide +kernel) (pa_cons (pv 4) (pa_cons (pe_un un_neg (pe_op op_fdiv (pe_un un_neg (pv 6)) (pv 7))) pa_nil))))) pss_nil))))))
    (pss_one (ps_ret (pv 4)))))), ?_⟩
  intro ds d h
  obtain ⟨n, G, c, m, rfl, hk, hl, hm1, rfl⟩ := h
  have h8 := hk.le8
  have hp := hk.pos
  have few := hk.few
  have hs : (spans n).length ≤ 36 := spans_len n h8
  refine ot_do (et_call (ea2 et_var et_var) ⟨n, G, c, rfl, hl, rfl⟩) (ot_let2 (ea2 et_int (et_is (et_I0 (g := fun i j => i - j) (et_ix (n := 0) et_var et_int rfl) et_int) (by show PyData.int ((n : Int) - 1) = PyData.int ((n - 1 : Nat) : Int); congr 1; omega))) ?_)
  refine ot_forS (ι := Nat) (vs := [3]) (fun r => [some (lotD n G), some (calD c), some (.int (m : Nat)), none, some (.int (r : Nat)), some (.int ((n - 1 : Nat) : Int)), none, none]) (fun i r => Thr (NPs ((spans n).take i) G c m) (some r)) (it_list (et_call (ea1 (et_ix (n := 0) et_var et_int rfl)) ⟨n, rfl, h8, rfl⟩)) 0 NPs_nil (le_of ⟨.inr rfl, .inr rfl, .inr rfl, .inl rfl, .inr rfl, .inr rfl, .inl rfl, .inl rfl, True.intro⟩) ?_ ?_
  · intro i d r hd hr
    rw [List.getElem?_map] at hd
    obtain ⟨v, hv, rfl⟩ : ∃ v, (spans n)[i]? = some v ∧ winD v = d := by
      cases he : (spans n)[i]? with
      | none => rw [he] at hd; cases hd
      | some e => rw [he] at hd; exact ⟨e, rfl, Option.some.inj hd⟩
    have hvm := List.mem_of_getElem? hv
    obtain ⟨hv1, hv2⟩ := mem_spans.mp hvm
    have tk : (spans n).take (i + 1) = (spans n).take i ++ [v] := by rw [List.take_add_one, hv]; rfl
    have hcs : ((c.drop v.1).take (v.2 + m + 1 - v.1)).sum = csum c v.1 (v.2 + 1 + m) := by
      unfold csum
      rw [show v.2 + m + 1 = v.2 + 1 + m by omega]
    refine ⟨_, eg_name (by decide), ot_let (d := .int (asks G v.1 v.2 - csum c v.1 (v.2 + 1 + m))) (et_is (et_I0 (g := fun i j => i - j) (et_call (ea3 et_var (et_ix (n := 0) et_var et_int rfl) (et_ix (n := 1) et_var et_int rfl)) ⟨n, G, v.1, v.2, rfl, hv1, hv2, by omega, rfl⟩) (et_sumT (ns := (c.drop v.1).take (v.2 + m + 1 - v.1)) (et_is (et_slT (lo := v.1) (hi := v.2 + m + 1) et_var (et_ix (n := 0) et_var et_int rfl) (et_is (et_I0 (g := fun i j => i + j) (et_I0 (g := fun i j => i + j) (et_ix (n := 1) et_var et_int rfl) et_var) et_int) (by simp))) (by rw [cal_slice])))) (by rw [hcs])) ?_⟩
    refine ot_let (et_I0 (g := fun i j => i - j) (et_I0 (g := fun i j => i + j) (et_ix (n := 1) et_var et_int rfl) et_var) et_var) ?_
    have ehh : (v.2 : Int) + (m : Nat) - ((n - 1 : Nat) : Int) = (v.2 : Int) + m - ((c.length : Int) - 1) := by rw [hl]; omega
    refine ot_ifr (b := decide (0 < asks G v.1 v.2 - csum c v.1 (v.2 + 1 + m)) && decide ((v.2 : Int) + (m : Nat) - ((n - 1 : Nat) : Int) < 1)) (eb_and (eb_test (et_B0 (g := fun i j => decide (j < i)) et_var et_int)) fun _ => eb_test (et_B0 (g := fun i j => decide (i < j)) et_var et_int)) (fun h => ?_) fun h => ?_
    · rw [Bool.and_eq_true, decide_eq_true_iff, decide_eq_true_iff] at h
      refine ot_ret et_non ?_
      have : need n G c m = none := (Thr.eq (NPs_none hvm h.1 (by rw [← ehh]; exact h.2))).symm
      rw [this]
      rfl
    · rw [Bool.and_eq_false_iff, decide_eq_false_iff_not, decide_eq_false_iff_not] at h
      refine ot_if (eb_test (et_B0 (g := fun i j => decide (j < i)) et_var et_int)) (fun hpos => ?_) fun hpos => ?_
      · rw [decide_eq_true_iff] at hpos
        have h1 : 1 ≤ (v.2 : Int) + (m : Nat) - ((n - 1 : Nat) : Int) := by omega
        refine ot_asg (et_max2 et_var (et_U (g := fun i => -i) (et_I (g := fun i j => i / j) (et_U (g := fun i => -i) et_var) et_var ⟨by omega, by omega⟩))) ⟨_, by rw [tk]; exact NPs_more hr hpos ehh h1, le_of ⟨.inr rfl, .inr rfl, .inr rfl, .inl rfl, .inr ?_, .inr rfl, .inl rfl, .inl rfl, True.intro⟩⟩
        refine congrArg (fun z => some (PyData.int z)) ?_
        have hcp := ceil_pos (r := asks G v.1 v.2 - csum c v.1 (v.2 + 1 + m)) (a := (v.2 : Int) + (m : Nat) - ((n - 1 : Nat) : Int)) (by omega) hpos
        generalize -((-(asks G v.1 v.2 - csum c v.1 (v.2 + 1 + m))) / ((v.2 : Int) + (m : Nat) - ((n - 1 : Nat) : Int))) = z at hcp
        show (if z > (r : Int) then z else (r : Int)) = ((max r z.toNat : Nat) : Int)
        rcases Nat.le_total r z.toNat with q | q
        · rw [Nat.max_eq_right q]
          split <;> omega
        · rw [Nat.max_eq_left q]
          split <;> omega
      · rw [decide_eq_false_iff_not] at hpos
        exact ot_nx ⟨r, by rw [tk]; exact NPs_pass hr (by omega), le_of ⟨.inr rfl, .inr rfl, .inr rfl, .inl rfl, .inr rfl, .inr rfl, .inl rfl, .inl rfl, True.intro⟩⟩
  · intro r hr
    rw [List.length_map, List.take_length] at hr
    refine ot_ret et_var ?_
    have : need n G c m = some r := Thr.eq hr |>.symm
    rw [this]
    rfl
def R_never_later (ds : List PyData) (d : PyData) : Prop := ∃ (T : Nat) (E F : List Er), ds = [lotD T E, lotD T F] ∧ 1 ≤ T ∧ T ≤ 8 ∧ E.length ≤ 1000 ∧ F.length ≤ 1000 ∧ d = .bool (notMore T E F)
theorem over_nil (T : Nat) (E F : List Er) : (overL T E F).isEmpty = notMore T E F := by
  rw [Bool.eq_iff_iff, notMore_iff, List.isEmpty_iff]
  unfold overL
  rw [List.filter_eq_nil_iff]
  constructor
  · intro h v hv
    have := h (v, asks E v.1 v.2 - asks F v.1 v.2) (List.mem_map.mpr ⟨v, hv, rfl⟩)
    simp at this
    omega
  · intro h e he
    obtain ⟨v, hv, rfl⟩ := List.mem_map.mp he
    have := h v hv
    simp
    omega
theorem sm_dif (e : Er) : Sm 2 (difD e) := sm_mono (k := 1) (sm_tup fun d hd => by
  rcases List.mem_cons.mp hd with h | h
  · rw [h]; exact sm_int
  · rcases List.mem_cons.mp h with h | h
    · rw [h]; exact sm_int
    · rcases List.mem_cons.mp h with h | h
      · rw [h]; exact sm_int
      · cases h) (by decide)
abbrev N_never_later : List Str := ["one", "other"]
theorem sc_never_later : FnScope N_never_later ["one", "other"] (defScope s_never_later) := ⟨rfl, rfl, rfl, by decide +kernel, rfl, by decide +kernel, by decide +kernel⟩
/- slots: 0:one 1:other ; cells:  ; callees: over -/
theorem w_never_later {P : Program} {w : World} {K : PySem.W.Frag} {mg : Str → Option Value} {base : Heap} {f : Addr} {fd : FuncData} (T : Bn mg) (c_over : C8.Cal P w K mg base 5 "over" (spD R_over) []) (F : FunD K "never_later" "never_later" (defArgs s_never_later) (defBody s_never_later) (defScope s_never_later) [] [] f fd) (hm : mg "never_later" = some (.ref f)) : C8.Cal P w K mg base 6 "never_later" (spD R_never_later) [] := by
  refine cal_of (N := N_never_later) (ps := ["one", "other"]) F hm sc_never_later (fun kV doc pm an cdv ct us hl => by match us, hl with | [u0, u1], _ => rfl) (fun ds d h => by obtain ⟨n, G1, G2, rfl, h1, h8, few1, few2, rfl⟩ := h; rfl) ?_
  intro cdv A outer s H E hr
  have nd := sc_never_later.nd
  refine ⟨_, (pss_one (ps_ret (pe_cmpR (oEqD (K := K) rfl hr.units) (C8.pe_c c_over hr (by decide) (by rfl) (pa_cons (pv 0) (pa_cons (pv 1) pa_nil))) (pe_lst pa_nil) (nomark _)))), ?_⟩
  intro ds d h
  obtain ⟨n, G1, G2, rfl, h1, h8, few1, few2, rfl⟩ := h
  exact ot_ret (et_nilL (et_call (ea2 et_var et_var) ⟨n, G1, G2, rfl, h1, h8, few1, few2, rfl⟩) sm_dif) (by rw [over_nil])
def R_is_later (ds : List PyData) (d : PyData) : Prop := ∃ r s : Option Nat, ds = [encN r, encN s] ∧ d = .bool (abv r s)
abbrev N_is_later : List Str := ["one", "other"]
theorem sc_is_later : FnScope N_is_later ["one", "other"] (defScope s_is_later) := ⟨rfl, rfl, rfl, by decide +kernel, rfl, by decide +kernel, by decide +kernel⟩
/- slots: 0:one 1:other ; cells:  ; callees:  -/
theorem w_is_later {P : Program} {w : World} {K : PySem.W.Frag} {mg : Str → Option Value} {base : Heap} {f : Addr} {fd : FuncData} (T : Bn mg) (F : FunD K "is_later" "is_later" (defArgs s_is_later) (defBody s_is_later) (defScope s_is_later) [] [] f fd) (hm : mg "is_later" = some (.ref f)) : C8.Cal P w K mg base 1 "is_later" (spD R_is_later) [] := by
  refine cal_of (N := N_is_later) (ps := ["one", "other"]) F hm sc_is_later (fun kV doc pm an cdv ct us hl => by match us, hl with | [u0, u1], _ => rfl) (fun ds d h => by obtain ⟨r, t, rfl, rfl⟩ := h; rfl) ?_
  intro cdv A outer s H E hr
  have nd := sc_is_later.nd
  refine ⟨_, (pss_one (ps_ret (pe_and (pe_cmpR op_notN (pv 1) pe_non (nomark _)) (pe_one (pe_or (pe_cmpR op_isN (pv 0) pe_non (nomark _)) (pe_one (pe_cmpR op_gt (pv 0) (pv 1) (nomark _)))))))), ?_⟩
  intro ds d h
  obtain ⟨r, t, rfl, rfl⟩ := h
  cases t with
  | none => cases r <;> exact ot_ret (et_and (a := false) (b := true) (et_notN (d := encN none) et_var) (fun z => nomatch z)) rfl
  | some b =>
    cases r with
    | none => exact ot_ret (et_and (a := true) (b := true) (et_notN (d := encN (some b)) et_var) fun _ => et_or (a := true) (b := true) (et_isN (d := encN none) et_var) (fun z => nomatch z)) rfl
    | some a =>
      refine ot_ret (et_and (a := true) (b := decide ((b : Int) < (a : Nat))) (et_notN (d := encN (some b)) et_var) fun _ => et_or (a := false) (b := decide ((b : Int) < (a : Nat))) (et_isN (d := encN (some a)) et_var) (fun _ => et_B0 (g := fun i j => decide (j < i)) et_var et_var)) ?_
      unfold abv
      simp
def R_is_later_calendar (ds : List PyData) (d : PyData) : Prop := ∃ (T : Nat) (E F : List Er) (c : List Int) (a : Int), ds = [lotD T E, lotD T F, .tuple [calD c, .int a]] ∧ CalOk T E c a ∧ CalOk T F c a ∧ d = .bool (abv (late T E c a) (late T F c a))
abbrev N_is_later_calendar : List Str := ["one", "other", "thing"]
theorem sc_is_later_calendar : FnScope N_is_later_calendar ["one", "other", "thing"] (defScope s_is_later_calendar) := ⟨rfl, rfl, rfl, by decide +kernel, rfl, by decide +kernel, by decide +kernel⟩
/- slots: 0:one 1:other 2:thing ; cells:  ; callees: check_same is_calendar is_number lateness is_later -/
theorem w_is_later_calendar {P : Program} {w : World} {K : PySem.W.Frag} {mg : Str → Option Value} {base : Heap} {f : Addr} {fd : FuncData} (T : Bn mg) (c_check_same : C8.Cal P w K mg base 1 "check_same" (spD R_check_same) []) (c_is_calendar : C8.Cal P w K mg base 3 "is_calendar" (spD R_is_calendar) []) (c_is_number : C8.Cal P w K mg base 1 "is_number" (spD R_is_number) []) (c_lateness : C8.Cal P w K mg base 4 "lateness" (spD R_lateness) []) (c_is_later : C8.Cal P w K mg base 1 "is_later" (spD R_is_later) []) (F : FunD K "is_later_calendar" "is_later_calendar" (defArgs s_is_later_calendar) (defBody s_is_later_calendar) (defScope s_is_later_calendar) [] [] f fd) (hm : mg "is_later_calendar" = some (.ref f)) : C8.Cal P w K mg base 5 "is_later_calendar" (spD R_is_later_calendar) [] := by
  refine cal_of (N := N_is_later_calendar) (ps := ["one", "other", "thing"]) F hm sc_is_later_calendar (fun kV doc pm an cdv ct us hl => by match us, hl with | [u0, u1, u2], _ => rfl) (fun ds d h => by obtain ⟨n, G1, G2, c, a, rfl, k1, k2, rfl⟩ := h; rfl) ?_
  intro cdv A outer s H E hr
  have nd := sc_is_later_calendar.nd
  refine ⟨_, (pss_cons (ps_expr (C8.pe_c c_check_same hr (by decide) (by rfl) (pa_cons (pv 0) (pa_cons (pv 1) pa_nil))))
    (pss_cons (ps_if (pw_or (pt_not (pt_val (pe_callB (bIsi (K := K) rfl) (by rfl) T.bisinstance (by decide +kernel) (pa_cons (pv 2) (pa_cons (pe_bltn (v := .ty "tuple") (u := .type "tuple") (by rfl) T.btuple (by decide +kernel) rfl) pa_nil))))) (pw_or (pt_cmpR op_ne (pe_callB (bLen (K := K) rfl) (by rfl) T.blen (by decide +kernel) (pa_cons (pv 2) pa_nil)) (pe_glob (v := .int 2) (by rfl) T.bPAIR.choose_spec ⟨_, rfl⟩) (nomark _)) (pw_or1 (pt_not (pt_val (C8.pe_c c_is_calendar hr (by decide) (by rfl) (pa_cons (pe_ix (xT (K := K) rfl) (pv 0) pe_int (fun _ _ => rfl)) (pa_cons (pe_ix (xT (K := K) rfl) (pv 2) pe_int (fun _ _ => rfl)) pa_nil)))))))).pt
      (pss_one (ps_ret pe_bl)) pss_nil)
    (pss_cons (ps_if (pw_or (pt_not (pt_val (C8.pe_c c_is_number hr (by decide) (by rfl) (pa_cons (pe_ix (xT (K := K) rfl) (pv 2) pe_int (fun _ _ => rfl)) pa_nil)))) (pw_or1 (pt_cmpR op_lt (pe_ix (xT (K := K) rfl) (pv 2) pe_int (fun _ _ => rfl)) pe_int (nomark _)))).pt
      (pss_one (ps_ret pe_bl)) pss_nil)
    (pss_one (ps_ret (C8.pe_c c_is_later hr (by decide) (by rfl) (pa_cons (C8.pe_c c_lateness hr (by decide) (by rfl) (pa_cons (pv 0) (pa_cons (pe_ix (xT (K := K) rfl) (pv 2) pe_int (fun _ _ => rfl)) (pa_cons (pe_ix (xT (K := K) rfl) (pv 2) pe_int (fun _ _ => rfl)) pa_nil)))) (pa_cons (C8.pe_c c_lateness hr (by decide) (by rfl) (pa_cons (pv 1) (pa_cons (pe_ix (xT (K := K) rfl) (pv 2) pe_int (fun _ _ => rfl)) (pa_cons (pe_ix (xT (K := K) rfl) (pv 2) pe_int (fun _ _ => rfl)) pa_nil)))) pa_nil)))))))), ?_⟩
  intro ds d h
  obtain ⟨n, G1, G2, c, a, rfl, k1, k2, rfl⟩ := h
  have h8 := k1.lot.le8
  refine ot_do (et_call (ea2 et_var et_var) ⟨n, G1, G2, rfl, rfl⟩) ?_
  refine ot_ifr (b := !true || (false || !true)) (eb_or (eb_not (eb_val (et_isi (d := .tuple [calD c, .int a]) (b := true) et_var kit_tt))) fun _ => eb_or (eb_is (b := false) (eb_test (et_neI (et_lenT (ds := [calD c, .int a]) et_var) et_int)) rfl) fun _ => eb_not (eb_val (et_call (ea2 (et_ix (n := 0) et_var et_int rfl) (et_ix (n := 0) et_var et_int rfl)) ⟨n, c, rfl, k1.len, k1.nn, by rw [k1.len]; omega, rfl⟩))) (fun z => nomatch z) fun _ => ?_
  refine ot_ifr (b := !true || decide (a < 0)) (eb_or (eb_not (eb_val (et_call (ea1 (et_ix (n := 1) et_var et_int rfl)) ⟨a, rfl, rfl⟩))) fun _ => eb_test (et_B0 (g := fun i j => decide (i < j)) (et_ix (n := 1) et_var et_int rfl) et_int)) (fun z => ?_) fun _ => ?_
  · have := k1.a0
    simp at z
    omega
  · exact ot_ret (et_call (ea2 (et_call (ea3 et_var (et_ix (n := 0) et_var et_int rfl) (et_ix (n := 1) et_var et_int rfl)) ⟨n, G1, c, a, rfl, k1, rfl⟩) (et_call (ea3 et_var (et_ix (n := 0) et_var et_int rfl) (et_ix (n := 1) et_var et_int rfl)) ⟨n, G2, c, a, rfl, k2, rfl⟩)) ⟨_, _, rfl, rfl⟩) rfl
end K68

namespace K68
open PySem PySem.Spec PyProof.Rows L2
open Evl (Ex)
theorem Sl.know {σ : L2.St} {H : Hp} {ρ : Env} {v : V} {d : PyData} (S : Sl σ H ρ) {j : Nat} (e : σ[j]? = some (some v)) (h : Hv H v d) : Sl σ H (ρ.set j (some d)) := by
  have := S.set j h
  have e2 : σ.set j (some v) = σ := by
    refine List.ext_getElem? fun i => ?_
    by_cases hi : j = i
    · subst hi
      rw [List.getElem?_set_self (List.getElem?_eq_some_iff.mp e).1, e]
    · rw [List.getElem?_set_ne hi]
  rwa [e2] at this
/-- what is made is a new list -/
def ETF (ρ : Env) (te : TE) (ds : List PyData) : Prop := ∀ σ H, Sl σ H ρ → ∀ Q : VK, (∀ p xs H', H p = none → Ex H H' → H' p = some (.lst xs) → TpAll H' xs ds → Q (.ref p) H') → te σ H Q
theorem none_back {H H' : Hp} {p : Addr} (e : Ex H H') (h : H' p = none) : H p = none := by
  cases h3 : H p with
  | none => rfl
  | some o => rw [e p o h3] at h; cases h
section
variable {ρ : Env} {ta tb te : TE} {tt tu : TT} {t u : TS} {K : PySem.W.Frag} {N M : Env → Prop} {R : PyData → Prop}
theorem etf_repL {d : PyData} {n : Nat} (h1 : ET ρ ta (.list [d])) (h2 : ET ρ tb (.int (n : Nat))) (few : n ≤ 1000) : ETF ρ (tOp rRep ta tb) (List.replicate n d) := fun σ H S Q q =>
  h1 σ H S _ fun x H1 e1 x1 => h2 σ H1 (S.up e1) _ fun y H2 e2 x2 => by
    have e12 := e1.trans e2
    rw [hv_int x2]
    obtain ⟨a, xs, rfl, k1, k2⟩ := x1.up e2
    match xs, k2 with
    | [v], k2 =>
      cases k2 with
      | cons t _ =>
        refine ⟨a, n, [v], rfl, rfl, k1, by omega, by omega, small1k (by rw [Int.toNat_natCast]; simpa using few), fun p hp => ?_⟩
        have e3 : Ex H2 (upd H2 p (.lst (List.replicate n v))) := Evl.Ex.new hp
        rw [Int.toNat_natCast, rep_flat]
        exact q p _ _ (none_back e12 hp) (e12.trans e3) upd_same ((TpAll.rep t n).mono (Ex.tex e3))
theorem etf_nil : ETF ρ (tLst tNil) [] := fun σ H S Q q => ⟨Nat.zero_le _, fun p hp => q p [] _ hp (Evl.Ex.new hp) upd_same .nil⟩
theorem etf_list {ds : List PyData} (h : ET ρ te (.list ds)) : ETF ρ (tCB (fun xs H Q => ∃ p ys, xs = [.ref p] ∧ (SqL K H p ys ∨ SqT K H p ys) ∧ ∀ l, H l = none → Q (.ref l) (upd H l (.lst ys))) (tCons te tNil)) ds := fun σ H S Q q => h σ H S _ fun v H1 e1 hv => by
  obtain ⟨a, xs, rfl, k1, k2⟩ := hv
  exact ⟨a, xs, rfl, .inl (SqL.of k1), fun l hl => q l xs _ (none_back e1 hl) (e1.trans (Evl.Ex.new hl)) upd_same (k2.mono (Ex.tex (Evl.Ex.new hl)))⟩
end
theorem g_name {i : Nat} {x : V} {σ : L2.St} {H : Hp} {Q : L2.St → Hp → Prop} (h : Q (σ.set i (some x)) H) : gName i x σ H Q := h
theorem set_ints (xs : List Int) (j : Nat) (v : Int) : (xs.map V.int).set j (V.int v) = (xs.set j v).map V.int := by rw [List.map_set]
end K68

namespace K68
open PySem PySem.Spec PyProof.Rows L2
open Evl (Ex)
def R_later_calendar (ds : List PyData) (Po : PyData → Prop) : Prop := ∃ (T : Nat) (E F : List Er), ds = [lotD T E, lotD T F] ∧ LotOk T E ∧ LotOk T F ∧ Po = fun d => (notMore T E F = true ∧ d = .none) ∨ (notMore T E F = false ∧ ∃ g l : Nat, g ≤ l ∧ l < T ∧ asks F g l < asks E g l ∧ d = .tuple [calD (laterH T F g l (allW E + allW F)), .int (allW E + allW F)])
def partH (T : Nat) (F : List Er) (g l : Nat) (p : Int) (i : Nat) : List Int := (List.range T).map fun h => if g ≤ h ∧ h < g + i then Bq F l h else p
theorem part_zero (T : Nat) (F : List Er) (g l : Nat) (p : Int) : partH T F g l p 0 = List.replicate T p := by
  unfold partH
  refine List.ext_getElem? fun i => ?_
  rw [List.getElem?_map, List.getElem?_replicate]
  by_cases h : i < T
  · rw [List.getElem?_range h, if_pos h]
    simp
    omega
  · rw [List.getElem?_eq_none (by simpa using h), if_neg h]; rfl
theorem part_end (T : Nat) (F : List Er) (g l : Nat) (p : Int) (h : g ≤ l) : partH T F g l p (l + 1 - g) = laterH T F g l p := by
  unfold partH laterH
  refine List.map_congr_left fun i _ => ?_
  by_cases k : g ≤ i ∧ i ≤ l
  · rw [if_pos k, if_pos (by omega)]
  · rw [if_neg k, if_neg (by omega)]
theorem part_step (T : Nat) (F : List Er) (g l : Nat) (p : Int) (i : Nat) (h : g + i < T) : (partH T F g l p i).set (g + i) (Bq F l (g + i)) = partH T F g l p (i + 1) := by
  refine List.ext_getElem? fun j => ?_
  unfold partH
  by_cases hj : g + i = j
  · subst hj
    rw [List.getElem?_set_self (by simpa using h), List.getElem?_map, List.getElem?_range h]
    simp
  · rw [List.getElem?_set_ne hj, List.getElem?_map, List.getElem?_map]
    by_cases hT : j < T
    · rw [List.getElem?_range hT]
      simp only [Option.map_some]
      congr 1
      by_cases k : g ≤ j ∧ j < g + i
      · rw [if_pos k, if_pos (by omega)]
      · rw [if_neg k, if_neg (by omega)]
    · rw [List.getElem?_eq_none (by simpa using hT)]; rfl
abbrev N_later_calendar : List Str := ["one", "other", "found", "plenty", "hands", "hour", "first", "last", "more", "work", "early", "late"]
theorem sc_later_calendar : FnScope N_later_calendar ["one", "other"] (defScope s_later_calendar) := ⟨rfl, rfl, rfl, by decide +kernel, rfl, by decide +kernel, by decide +kernel⟩
/- slots: 0:one 1:other 2:found 3:plenty 4:hands 5:hour 6:first 7:last 8:more 9:work 10:early 11:late ; cells: hour last ; callees: over all_work -/
theorem w_later_calendar {P : Program} {w : World} {K : PySem.W.Frag} {mg : Str → Option Value} {base : Heap} {f : Addr} {fd : FuncData} (T : Bn mg) (c_over : C8.Cal P w K mg base 5 "over" (spD R_over) []) (c_all_work : C8.Cal P w K mg base 1 "all_work" (spD R_all_work) []) (F : FunD K "later_calendar" "later_calendar" (defArgs s_later_calendar) (defBody s_later_calendar) (defScope s_later_calendar) [] [] f fd) (hm : mg "later_calendar" = some (.ref f)) : C8.Cal P w K mg base 6 "later_calendar" (spM R_later_calendar) [] := by
  refine cal_ofM (N := N_later_calendar) (ps := ["one", "other"]) F hm sc_later_calendar (fun kV doc pm an cdv ct us hl => by match us, hl with | [u0, u1], _ => rfl) (fun ds d h => by obtain ⟨n, G1, G2, rfl, k1, k2, rfl⟩ := h; rfl) ?_
  intro cdv A outer s H E hr
  have nd := sc_later_calendar.nd
  refine ⟨_, (pss_cons (ps_set (i := 2) nd rfl (.inl rfl) (C8.pe_c c_over hr (by decide) (by rfl) (pa_cons (pv 0) (pa_cons (pv 1) pa_nil))))
    (pss_cons (ps_if (pt_cmpR (oEqD (K := K) rfl hr.units) (pv 2) (pe_lst pa_nil) (nomark _))
      (pss_one (ps_ret pe_non)) pss_nil)
    (pss_cons (ps_asg (pe_ix (xL (K := K) rfl) (pv 2) pe_int (fun _ _ => rfl)) (gT (K := K) (n := 3) rfl rfl (pgs_cons (pg_name (i := 6) nd rfl (.inl rfl)) (pgs_cons (pg_name (i := 7) nd rfl (.inr rfl)) (pgs_cons (pg_name (i := 8) nd rfl (.inl rfl)) pgs_nil)))))
    (pss_cons (ps_set (i := 3) nd rfl (.inl rfl) (pe_op op_add (C8.pe_c c_all_work hr (by decide) (by rfl) (pa_cons (pv 0) pa_nil)) (C8.pe_c c_all_work hr (by decide) (by rfl) (pa_cons (pv 1) pa_nil))))
    (pss_cons (ps_set (i := 4) nd rfl (.inl rfl) (pe_op op_rep (pe_lst (pa_cons (pv 3) pa_nil)) (pe_ix (xT (K := K) rfl) (pv 1) pe_int (fun _ _ => rfl))))
    (pss_cons (ps_for PassesOwn.never rfl (pi_range2 (by rfl) T.brange (pa_cons (pv 6) (pa_cons (pe_op op_add (pv 7) pe_int) pa_nil))) (pg_name (i := 5) nd rfl (.inr rfl))
      (pss_one (ps_asg (pe_callB (bSum (K := K) rfl rfl) (by rfl) T.bsum (by decide +kernel) (pa_cons (pe_lc (own := [("work", 9), ("early", 10), ("late", 11)]) (g := (gTup K 2 (gCons (gTup K 2 (gCons (gName 10) (gCons (gName 11) gNil))) (gCons (gName 9) gNil))))  rfl nd (iT (K := K) rfl (pe_ix (xT (K := K) rfl) (pv 1) pe_int (fun _ _ => rfl))) (blkOk_by (own := [("work", 9), ("early", 10), ("late", 11)]) (N := N_later_calendar) (sc := defScope s_later_calendar) (by decide +kernel)) (fun _ _ _ _ _ => (gT (K := K) (n := 2) rfl rfl (pgs_cons (gT (K := K) (n := 2) rfl rfl (pgs_cons (pg_name (i := 10) nd rfl (.inl rfl)) (pgs_cons (pg_name (i := 11) nd rfl (.inl rfl)) pgs_nil))) (pgs_cons (pg_name (i := 9) nd rfl (.inl rfl)) pgs_nil)))) (fun _ _ _ _ _ => (pts_one (pw_and (pt_cmpR op_eq (pv 10) (pv 5) (nomark _)) (pw_and1 (pt_cmpR op_le (pv 11) (pv 7) (nomark _)))).pt)) (fun _ _ _ _ _ => (pv 9))) pa_nil)) (pg_sub (pv 4) (pv 5) set_list))))
    (pss_one (ps_ret (pe_tup (pa_cons (pe_callTy (bTup (K := K) rfl) (by rfl) T.btuple (by decide +kernel) (pa_cons (pv 4) pa_nil)) (pa_cons (pv 3) pa_nil))))))))))), ?_⟩
  intro ds d h
  obtain ⟨n, G1, G2, rfl, k1, k2, rfl⟩ := h
  have h8 := k1.le8
  have f1 := k1.few
  have f2 := k2.few
  refine ot_let (et_call (ea2 et_var et_var) ⟨n, G1, G2, rfl, k1.pos, h8, by omega, by omega, rfl⟩) (ot_ifr (b := notMore n G1 G2) (eb_is (eb_test (et_nilL et_var sm_dif)) (over_nil n G1 G2)) (fun h => ot_ret et_non (.inl ⟨h, rfl⟩)) fun h => ?_)
  cases eo : overL n G1 G2 with
  | nil => have := over_nil n G1 G2; rw [eo, h] at this; cases this
  | cons e rest =>
  have hm : e ∈ overL n G1 G2 := by rw [eo]; exact List.mem_cons_self ..
  obtain ⟨hm1, hm2⟩ := List.mem_filter.mp hm
  obtain ⟨v, hv, rfl⟩ := List.mem_map.mp hm1
  obtain ⟨hv1, hv2⟩ := mem_spans.mp hv
  have hmore : asks G2 v.1 v.2 < asks G1 v.1 v.2 := by simp at hm2; omega
  refine ot_letG (vs := [6, 7, 8]) (d := difD (v, asks G1 v.1 v.2 - asks G2 v.1 v.2)) (et_ixL (n := 0) et_var et_int rfl) (eg3 (by decide) (by decide) (by decide)) ?_
  refine ot_let (et_I0 (g := fun i j => i + j) (et_call (ea1 et_var) ⟨n, G1, rfl, by omega, rfl⟩) (et_call (ea1 et_var) ⟨n, G2, rfl, by omega, rfl⟩)) ?_
  generalize hp : allW G1 + allW G2 = p
  intro σ H S D nx rt
  refine etf_repL (n := n) (d := .int p) (et_lst (ea1 et_var) ⟨nol_int, True.intro⟩ (by show 1 ≤ 1000; decide)) (et_ix (n := 0) et_var et_int rfl) (by omega) σ H S _ fun b xs H1 hb e1 hx1 tx1 => ?_
  have hxs : xs = (partH n G2 v.1 v.2 p 0).map V.int := by
    rw [part_zero]
    refine TpAll.ints (H := H1) ?_
    rw [List.map_replicate]
    exact tx1
  subst hxs
  have SL : Sl σ H [some (lotD n G1), some (lotD n G2), none, some (.int p), none, none, some (.int (v.1 : Nat)), some (.int (v.2 : Nat)), none, none, none, none] := S.weak (le_of ⟨.inr rfl, .inr rfl, .inl rfl, .inr rfl, .inr rfl, .inr rfl, .inr rfl, .inr rfl, .inl rfl, .inr rfl, .inr rfl, .inr rfl, True.intro⟩)
  clear S
  have SL4 : Sl (σ.set 4 (some (.ref b))) H [some (lotD n G1), some (lotD n G2), none, some (.int p), none, none, some (.int (v.1 : Nat)), some (.int (v.2 : Nat)), none, none, none, none] := ⟨by rw [List.length_set]; exact SL.1, fun i d q => by
    by_cases hi : 4 = i
    · subst hi; cases q
    · rw [List.getElem?_set_ne hi]; exact SL.2 i d q⟩
  have k4 : (σ.set 4 (some (V.ref b)))[4]? = some (some (V.ref b)) := List.getElem?_set_self (by rw [SL.1]; show 4 < 12; decide)
  refine g_name ?_
  dsimp only
  generalize σ.set 4 (some (V.ref b)) = σ1 at SL4 k4
  dsimp only [tSeq, tFor, iRng2]
  refine ea2 et_var (et_is (et_I0 (g := fun i j => i + j) et_var et_int) (by simp : _ = PyData.int ((v.2 + 1 : Nat) : Int))) σ1 H1 (SL4.up e1) _ fun vs2 H2 e2 hvs2 => ?_
  obtain ⟨x1, x2, rfl, y1, y2⟩ := K68.hv2 hvs2
  rw [hv_int y1, hv_int y2]
  refine ⟨(v.1 : Nat), ((v.2 + 1 : Nat) : Int), rfl, by omega, ?_⟩
  refine raw_forE (l := rngD (v.1 : Nat) (((v.2 + 1 : Nat) : Int) - (v.1 : Nat)).toNat) (H0 := H) (good_range _ _ _) (fun i σ' H' => Ex H H' ∧ Sl σ' H [some (lotD n G1), some (lotD n G2), none, some (.int p), none, none, some (.int (v.1 : Nat)), some (.int (v.2 : Nat)), none, none, none, none] ∧ σ'[4]? = some (some (.ref b)) ∧ H' b = some (.lst ((partH n G2 v.1 v.2 p i).map V.int))) (fun i σ' H' iv => iv.1) ⟨e1.trans e2, SL4, k4, e2 _ _ hx1⟩ ?_ ?_
  · rintro i d σ' H' hd ⟨eH, S', k', hb'⟩ x H3 e3 hx
    have hi : i < v.2 + 1 - v.1 := by
      have := (List.getElem?_eq_some_iff.mp hd).1
      unfold rngD at this
      rw [List.length_map, List.length_range] at this
      omega
    unfold rngD at hd
    rw [List.getElem?_map, List.getElem?_range (by omega)] at hd
    cases hd
    rw [hv_int hx]
    have S5 : Sl (σ'.set 5 (some (V.int ((v.1 : Nat) + (i : Nat))))) H [some (lotD n G1), some (lotD n G2), none, some (.int p), none, some (.int ((v.1 : Nat) + (i : Nat))), some (.int (v.1 : Nat)), some (.int (v.2 : Nat)), none, none, none, none] := S'.set 5 (.int _)
    have k5 : (σ'.set 5 (some (V.int ((v.1 : Nat) + (i : Nat)))))[4]? = some (some (V.ref b)) := by rw [List.getElem?_set_ne (by decide)]; exact k'
    refine g_name ?_
    generalize σ'.set 5 (some (V.int ((v.1 : Nat) + (i : Nat)))) = σ5 at S5 k5
    refine et_sumL (et_lcV .int G2 erD (fun e => decide (e.1.1 = v.1 + i) && decide (e.1.2 ≤ v.2)) (·.2) (it_tup (et_ix (n := 1) et_var et_int rfl)) (by omega) fun e he => ⟨_, eg21 (d := .int (e.1.1 : Nat)) (e := .int (e.1.2 : Nat)) (f := .int e.2) (by decide) (by decide) (by decide), eb_is (eb_and (eb_test (et_eqI et_var et_var)) fun _ => eb_test (et_B0 (g := fun i j => decide (i ≤ j)) et_var et_var)) ?_, fun _ => ⟨et_var, nol_int⟩⟩) σ5 H3 (S5.up (eH.trans e3)) _ fun w4 H4 e4 hw4 => ?_
    · congr 1
      · exact decide_eq_decide.mpr (by omega)
      · exact decide_eq_decide.mpr (by omega)
    rw [hv_int hw4]
    have hb4 := e4 _ _ (e3 _ _ hb')
    obtain ⟨v5, q5, r5⟩ := S5.2 5 _ rfl
    rw [hv_int r5] at q5
    refine ⟨_, k5, _, q5, b, _, _, v.1 + i, rfl, rfl, hb4, ?_, ?_⟩
    · have : ((v.1 : Nat) : Int) + (i : Nat) = ((v.1 + i : Nat) : Int) := by omega
      rw [this]
      exact Evl.ixN_nat (by rw [List.length_map]; unfold partH; rw [List.length_map, List.length_range]; omega)
    · refine ⟨((eH.trans e3).trans e4).mut hb, S5.weak (le_of ⟨.inr rfl, .inr rfl, .inr rfl, .inr rfl, .inr rfl, .inl rfl, .inr rfl, .inr rfl, .inr rfl, .inr rfl, .inr rfl, .inr rfl, True.intro⟩), k5, ?_⟩
      rw [upd_same, set_ints]
      have : ((G2.filter fun e => decide (e.1.1 = v.1 + i) && decide (e.1.2 ≤ v.2)).map (·.2)).sum = Bq G2 v.2 (v.1 + i) := fs_filter (fun w => decide (w.1 = v.1 + i) && decide (w.2 ≤ v.2)) G2
      rw [this, part_step n G2 v.1 v.2 p i (by omega)]
  · rintro σ' H' ⟨eH, S', k', hb'⟩
    have hlen : (rngD (v.1 : Nat) (((v.2 + 1 : Nat) : Int) - (v.1 : Nat)).toNat).length = v.2 + 1 - v.1 := by
      unfold rngD
      rw [List.length_map, List.length_range]
      omega
    rw [hlen, part_end n G2 v.1 v.2 p hv1] at hb'
    have S6 := (S'.up eH).know (j := 4) (d := .list ((laterH n G2 v.1 v.2 p).map .int)) k' ⟨b, _, rfl, hb', TpAll.ofInts _⟩
    refine et_pair (et_tupL et_var) et_var nol_tup nol_int σ' H' S6 _ fun w7 H7 e7 h7 => ?_
    exact rt _ w7 H7 (.inr ⟨h, v.1, v.2, hv1, hv2, hmore, rfl⟩) (eH.trans e7) h7
end K68

namespace K68
open PySem PySem.Spec PyProof.Rows L2
open Evl (Ex)
/-! ### sorted keys -/
theorem sort_core {α : Type} {H : Hp} {xs : List V} {l : List α} (enc : α → PyData) (un : PyData → α) (hun : ∀ a, un (enc a) = a) (hal : ∀ a b, PySem.W.alike (enc a) (enc b) = true) (htu : ∀ a, ∃ x r, enc a = .tuple (x :: r)) (hdp : ∀ a, (enc a).depth ≤ 10) (few : l.length ≤ 1000) (h2 : TpAll H xs (l.map enc)) :
    Srtb H (xs.zip (l.map enc)) ∧ ∀ ys : List (V × PyData), ys.Perm (xs.zip (l.map enc)) → ∃ l' : List α, l'.Perm l ∧ TpAll H (ys.map (·.1)) (l'.map enc) := by
  have hlen := h2.len
  have m1 : (xs.zip (l.map enc)).map (·.1) = xs := List.map_fst_zip (by omega)
  have m2 : (xs.zip (l.map enc)).map (·.2) = l.map enc := List.map_snd_zip (by omega)
  have hb : ∀ b ∈ xs.zip (l.map enc), ∃ e, b.2 = enc e := fun b hb => by
    have : b.2 ∈ l.map enc := by rw [← m2]; exact List.mem_map.mpr ⟨b, hb, rfl⟩
    obtain ⟨e, _, h⟩ := List.mem_map.mp this
    exact ⟨e, h.symm⟩
  refine ⟨⟨h2.zip, ?_, .inl ?_, ?_, ?_⟩, fun ys hp => ⟨ys.map fun y => un y.2, ?_, ?_⟩⟩
  · rw [m2]
    intro d hd d' hd'
    obtain ⟨e, _, rfl⟩ := List.mem_map.mp hd
    obtain ⟨e', _, rfl⟩ := List.mem_map.mp hd'
    exact hal e e'
  · rw [m2]
    intro d hd
    obtain ⟨e, _, rfl⟩ := List.mem_map.mp hd
    exact htu e
  · rw [List.length_zip, List.length_map]; omega
  · intro b hbm
    obtain ⟨e, h⟩ := hb b hbm
    rw [h]
    exact hdp e
  · refine (hp.map fun y : V × PyData => un y.2).trans ?_
    have e3 : (xs.zip (l.map enc)).map (fun y => un y.2) = l := by
      have := congrArg (List.map un) m2
      rw [List.map_map, List.map_map] at this
      rw [show (fun y : V × PyData => un y.2) = un ∘ (fun y => y.2) from rfl, this]
      conv => rhs; rw [← List.map_id l]
      exact List.map_congr_left fun e _ => hun e
    rw [e3]
  · have e4 : (ys.map fun y => un y.2).map enc = ys.map (·.2) := by
      rw [List.map_map]
      refine List.map_congr_left fun y hy => ?_
      obtain ⟨e, h⟩ := hb y (hp.subset hy)
      simp only [Function.comp]
      rw [h, hun]
    rw [e4]
    exact TpAll.of fun b hbm => h2.zip b (hp.subset hbm)
theorem keys_tp {H : Hp} : ∀ {l : List Er} {ks : List Addr}, IsKeys H (l.map rowE) ks → TpAll H (ks.map V.ref) ((l.map (·.1)).map winD)
  | [], ks, h => by cases h; exact .nil
  | e :: l, ks, h => by
    cases h with
    | cons h1 h2 => exact .cons (.tup h1 (.cons (.int _) (.cons (.int _) .nil))) (keys_tp h2)
section
variable {ρ : Env} {ta tb te : TE} {tt tu : TT} {t u : TS} {K : PySem.W.Frag} {N M : Env → Prop} {R : PyData → Prop}
theorem etn_sortK {l : List Er} (h : ET ρ te (dictD l)) (few : l.length ≤ 1000) : ETN ρ (tCB rSortK (tCons te tNil)) (fun d => ∃ ws : List Win, ws.Perm (l.map (·.1)) ∧ d = .list (ws.map winD)) := fun σ H S Q q => h σ H S _ fun v H1 e1 hv => by
  obtain ⟨a, e2, e3⟩ := hv
  subst e2
  rw [dict_rows] at e3
  refine ⟨a, _, rfl, e3, fun ks hk => ?_⟩
  have ht := keys_tp hk
  have hl := ht.len
  rw [List.length_map, List.length_map] at hl
  obtain ⟨s1, s2⟩ := sort_core winD unW un_win win_alike (fun a => ⟨_, _, rfl⟩) win_depth (by rw [List.length_map]; exact few) ht
  refine ⟨(l.map (·.1)).map winD, by rw [List.length_map]; exact hl.symm, s1, fun ys hp p hn => ?_⟩
  obtain ⟨ws, h1, h2⟩ := s2 ys hp
  exact q _ _ _ ⟨ws, h1, rfl⟩ (e1.trans (Evl.Ex.new hn)) ⟨p, _, rfl, upd_same, h2.mono (Ex.tex (Evl.Ex.new hn))⟩
/-- a comprehension over a list that is one of several -/
theorem etn_lc {α : Type} {tl : TE} {g : TG} {vs : List Nat} {Pw : List α → Prop} (enc : α → PyData) (keep : α → Bool) (val : α → PyData) (h : ETN ρ tl (fun d => ∃ ws, Pw ws ∧ d = .list (ws.map enc))) (few : ∀ ws, Pw ws → ws.length ≤ 1000)
    (turn : ∀ ws, Pw ws → ∀ a ∈ ws, ∃ ρ2, EG vs g (enc a) (wipeD ρ vs) ρ2 ∧ EB ρ2 tt (keep a) ∧ (keep a = true → ET ρ2 te (val a) ∧ NoL (val a))) : ETN ρ (tLc (iList K tl) g tt te vs) (fun d => ∃ ws, Pw ws ∧ d = .list ((ws.filter keep).map val)) := fun σ H S Q q => h σ H S _ fun d v H1 p e1 hv => by
  obtain ⟨ws, hp, rfl⟩ := p
  obtain ⟨a, xs, rfl, k1, k2⟩ := hv
  exact ⟨a, rfl, ⟨xs, SqL.of k1⟩, lc_raw ws enc keep val (S.up e1) (good_list k1 k2) (few ws hp) (turn ws hp) fun v H' e hv => q _ v H' ⟨ws, hp, rfl⟩ (e1.trans e) hv⟩
theorem etn_tupL {Po : PyData → Prop} (h : ETN ρ te (fun d => ∃ ds, Po (.list ds) ∧ d = .list ds)) : ETN ρ (tCB (fun xs H Q => ∃ p ys, xs = [.ref p] ∧ ((SqL K H p ys ∧ ∀ l, H l = none → Q (.ref l) (upd H l (.tup ys))) ∨ (SqT K H p ys ∧ Q (.ref p) H))) (tCons te tNil)) (fun d => ∃ ds, Po (.list ds) ∧ d = .tuple ds) := fun σ H S Q q => h σ H S _ fun d v H1 p e1 hv => by
  obtain ⟨ds, hp, rfl⟩ := p
  obtain ⟨a, xs, rfl, k1, k2⟩ := hv
  exact ⟨a, xs, rfl, .inl ⟨SqL.of k1, fun l hl => q _ _ _ ⟨ds, hp, rfl⟩ (e1.trans (Evl.Ex.new hl)) (.tup upd_same (k2.mono (Ex.tex (Evl.Ex.new hl))))⟩⟩
theorem etn_pair {d : PyData} {Po : PyData → Prop} (h : ET ρ ta d) (k : ETN ρ tb Po) (hd : NoL d) (hp : ∀ e, Po e → NoL e) : ETN ρ (tTup (tCons ta (tCons tb tNil))) (fun x => ∃ e, Po e ∧ x = .tuple [d, e]) := fun σ H S Q q => h σ H S _ fun v H1 e1 hv => k σ H1 (S.up e1) _ fun e w H2 p e2 hw =>
  ⟨by show 2 ≤ sizeLine; decide, fun t hn => q _ _ _ ⟨e, p, rfl⟩ ((e1.trans e2).trans (Evl.Ex.new hn)) (.tup upd_same (.cons ((hd _ _ (hv.up e2)).mono (Ex.tex (Evl.Ex.new hn))) (.cons ((hp e p _ _ hw).mono (Ex.tex (Evl.Ex.new hn))) .nil)))⟩
/-- d[w] -/
theorem et_dget {l : List Er} {w : Win} {v : Int} (h : ET ρ ta (dictD l)) (k : ET ρ tb (winD w)) (hv : valE l w = some v) : ET ρ (tDGet ta tb) (.int v) := fun σ H S Q q => h σ H S _ fun x H1 e1 hx => k σ H1 (S.up e1) _ fun y H2 e2 hy => by
  obtain ⟨a, e3, e4⟩ := hx.up e2
  subst e3
  rw [dict_rows] at e4
  cases (show Tp H2 y (winD w) from hy) with
  | @tup b ys _ q1 q2 =>
    have : ys = [V.int (w.1 : Nat), V.int (w.2 : Nat)] := TpAll.ints (ns := [(w.1 : Int), (w.2 : Int)]) q2
    rw [this] at q1
    have g := DGet.t (k := winK w) e4 q1
    rw [val_rows, hv] at g
    exact ⟨a, _, rfl, g, q _ H2 (e1.trans e2) (.int v)⟩
end
/-! ### alike lots -/
section
variable {T : Nat} {E F : List Er} {c : List Int} {a : Int}
theorem asks_eq (h : ∀ P, fs E P = fs F P) : asks E = asks F := by
  funext f l
  exact h _
theorem late_eq (h : ∀ P, fs E P = fs F P) : late T E c a = late T F c a := by
  show thr (LP T E c a) = thr (LP T F c a)
  congr 1
  funext m
  unfold LP
  rw [asks_eq h]
theorem fin1_eq (h : ∀ P, fs E P = fs F P) : fin1 T E c a = fin1 T F c a := by
  show thr (FP T E c a) = thr (FP T F c a)
  congr 1
  funext m
  unfold FP
  rw [asks_eq h]
theorem doneB_eq (h : ∀ P, fs E P = fs F P) : doneB T E c = doneB T F c := by
  unfold doneB
  rw [asks_eq h]
theorem Like.ok (h : Like T F E) (h1 : 1 ≤ T) (h8 : T ≤ 8) (few : F.length ≤ 36) : LotOk T E := ⟨h1, h8, h.1, h.2.1, Nat.le_trans h.2.2.1 few⟩
theorem LotOk.w (h : LotOk T E) : LotW T E := ⟨h.win, h.one, h.few⟩
end
end K68

namespace K68
open PySem PySem.Spec PyProof.Rows L2
open Evl (Ex)
def R__law_spans (ds : List PyData) (d : PyData) : Prop := ∃ T : Nat, ds = [.int (T : Nat)] ∧ T ≤ 8 ∧ d = .list ((spans T).map winD)
def spanP (T i : Nat) : List Win := (List.range i).flatMap fun g => (List.range' g (T - g)).map fun l => (g, l)
theorem spanP_len (T i : Nat) (h : T ≤ 8) (hi : i < T) : (spanP T i).length + (T - i) ≤ 36 := by
  have : ∀ T, T ≤ 8 → ∀ i, i < T → (spanP T i).length + (T - i) ≤ 36 := by decide
  exact this T h i hi
abbrev N__law_spans : List Str := ["_law_size_so", "_law_found", "_law_near_so", "_law_far_so"]
theorem sc__law_spans : FnScope N__law_spans ["_law_size_so"] (defScope s__law_spans) := ⟨rfl, rfl, rfl, by decide +kernel, rfl, by decide +kernel, by decide +kernel⟩
/- slots: 0:_law_size_so 1:_law_found 2:_law_near_so 3:_law_far_so ; cells: _law_near_so ; callees:  -/
theorem w__law_spans {P : Program} {w : World} {K : PySem.W.Frag} {mg : Str → Option Value} {base : Heap} {f : Addr} {fd : FuncData} (T : Bn mg) (F : FunD K "_law_spans" "_law_spans" (defArgs s__law_spans) (defBody s__law_spans) (defScope s__law_spans) [] [] f fd) (hm : mg "_law_spans" = some (.ref f)) : C8.Cal P w K mg base 1 "_law_spans" (spD R__law_spans) [] := by
  refine cal_of (N := N__law_spans) (ps := ["_law_size_so"]) F hm sc__law_spans (fun kV doc pm an cdv ct us hl => by match us, hl with | [u0], _ => rfl) (fun ds d h => by obtain ⟨n, rfl, h8, rfl⟩ := h; rfl) ?_
  intro cdv A outer s H E hr
  have nd := sc__law_spans.nd
  refine ⟨_, (pss_cons (ps_set (i := 1) nd rfl (.inl rfl) (pe_lst pa_nil))
    (pss_cons (ps_for PassesOwn.never rfl (pi_range1 (by rfl) T.brange (pa_cons (pv 0) pa_nil)) (pg_name (i := 2) nd rfl (.inr rfl))
      (pss_one (ps_set (i := 1) nd rfl (.inl rfl) (pe_op op_cat (pv 1) (pe_lc (own := [("_law_far_so", 3)]) (g := (gName 3)) (tt := tYes)  rfl nd (pi_range2 (by rfl) T.brange (pa_cons (pv 2) (pa_cons (pv 0) pa_nil))) (blkOk_by (own := [("_law_far_so", 3)]) (N := N__law_spans) (sc := defScope s__law_spans) (by decide +kernel)) (fun _ _ _ _ _ => (pg_name (i := 3) nd rfl (.inl rfl))) (fun _ _ _ _ _ => pts_nil) (fun _ _ _ _ _ => (pe_tup (pa_cons (pv 2) (pa_cons (pv 3) pa_nil)))))))))
    (pss_one (ps_ret (pv 1))))), ?_⟩
  intro ds d h
  obtain ⟨n, rfl, h8, rfl⟩ := h
  refine ot_let (et_lst ea_nil True.intro (Nat.zero_le _)) ?_
  refine ot_forS (ι := Nat) (vs := [2]) (fun i => [some (.int (n : Nat)), some (.list ((spanP n i).map winD)), none, none]) (fun i x => x = i) (IT.is (it_range1 (n := (n : Nat)) et_var (by omega)) (rng0 n)) 0 rfl (le_of ⟨.inr rfl, .inr rfl, .inl rfl, .inl rfl, True.intro⟩) ?_ ?_
  · rintro i d x hd rfl
    rw [List.getElem?_map] at hd
    have hi : x < n := by
      by_cases z : x < n
      · exact z
      · rw [List.getElem?_eq_none (by simpa using z)] at hd; cases hd
    rw [List.getElem?_range hi] at hd
    cases hd
    have hl := spanP_len n x h8 hi
    refine ⟨_, eg_name (by decide), ot_asg (et_catL et_var (et_mapV winD (List.range' x (n - x)) (fun i => .int (i : Nat)) (fun l => (x, l)) (IT.is (it_range2 (lo := (x : Nat)) (n := (n : Nat)) et_var et_var (by omega)) (rng2 x n)) (by rw [List.length_range']; omega) fun l hl => ⟨_, eg_name (by decide), et_pair et_var et_var nol_int nol_int, nol_win⟩) (by rw [List.length_map, List.length_map, List.length_map, List.length_range']; omega)) ⟨x + 1, rfl, le_of ⟨.inr rfl, .inr ?_, .inl rfl, .inl rfl, True.intro⟩⟩⟩
    refine congrArg (fun z => some (PyData.list z)) ?_
    rw [← List.map_append]
    congr 1
    unfold spanP
    rw [List.range_succ, List.flatMap_append, List.flatMap_cons, List.flatMap_nil, List.append_nil]
  · rintro x rfl
    refine ot_ret et_var ?_
    rw [List.length_map, List.length_range]
    rfl
def R__law_above (ds : List PyData) (d : PyData) : Prop := ∃ r s : Option Nat, ds = [encN r, encN s] ∧ d = .bool (abv r s)
abbrev N__law_above : List Str := ["_law_one_so", "_law_two_so"]
theorem sc__law_above : FnScope N__law_above ["_law_one_so", "_law_two_so"] (defScope s__law_above) := ⟨rfl, rfl, rfl, by decide +kernel, rfl, by decide +kernel, by decide +kernel⟩
/- slots: 0:_law_one_so 1:_law_two_so ; cells:  ; callees:  -/
theorem w__law_above {P : Program} {w : World} {K : PySem.W.Frag} {mg : Str → Option Value} {base : Heap} {f : Addr} {fd : FuncData} (T : Bn mg) (F : FunD K "_law_above" "_law_above" (defArgs s__law_above) (defBody s__law_above) (defScope s__law_above) [] [] f fd) (hm : mg "_law_above" = some (.ref f)) : C8.Cal P w K mg base 1 "_law_above" (spD R__law_above) [] := by
  refine cal_of (N := N__law_above) (ps := ["_law_one_so", "_law_two_so"]) F hm sc__law_above (fun kV doc pm an cdv ct us hl => by match us, hl with | [u0, u1], _ => rfl) (fun ds d h => by obtain ⟨r, t, rfl, rfl⟩ := h; rfl) ?_
  intro cdv A outer s H E hr
  have nd := sc__law_above.nd
  refine ⟨_, (pss_one (ps_ret (pe_and (pe_cmpR op_notN (pv 1) pe_non (nomark _)) (pe_one (pe_or (pe_cmpR op_isN (pv 0) pe_non (nomark _)) (pe_one (pe_cmpR op_gt (pv 0) (pv 1) (nomark _)))))))), ?_⟩
  intro ds d h
  obtain ⟨r, t, rfl, rfl⟩ := h
  cases t with
  | none => cases r <;> exact ot_ret (et_and (a := false) (b := true) (et_notN (d := encN none) et_var) (fun z => nomatch z)) rfl
  | some b =>
    cases r with
    | none => exact ot_ret (et_and (a := true) (b := true) (et_notN (d := encN (some b)) et_var) fun _ => et_or (a := true) (b := true) (et_isN (d := encN none) et_var) (fun z => nomatch z)) rfl
    | some a =>
      refine ot_ret (et_and (a := true) (b := decide ((b : Int) < (a : Nat))) (et_notN (d := encN (some b)) et_var) fun _ => et_or (a := false) (b := decide ((b : Int) < (a : Nat))) (et_isN (d := encN (some a)) et_var) (fun _ => et_B0 (g := fun i j => decide (j < i)) et_var et_var)) ?_
      unfold abv
      simp
def R__law_made (ds : List PyData) (Po : PyData → Prop) : Prop := ∃ (T : Nat) (l : List Er), ds = [.int (T : Nat), dictD l] ∧ l.length ≤ 36 ∧ (l.map (·.1)).Nodup ∧ Po = fun d => ∃ E, d = lotD T E ∧ E.length ≤ l.length ∧ ∀ e ∈ E, e ∈ l ∧ 1 ≤ e.2
abbrev N__law_made : List Str := ["_law_size_so", "_law_table_so", "_law_own"]
theorem sc__law_made : FnScope N__law_made ["_law_size_so", "_law_table_so"] (defScope s__law_made) := ⟨rfl, rfl, rfl, by decide +kernel, rfl, by decide +kernel, by decide +kernel⟩
/- slots: 0:_law_size_so 1:_law_table_so 2:_law_own ; cells: _law_table_so ; callees:  -/
theorem w__law_made {P : Program} {w : World} {K : PySem.W.Frag} {mg : Str → Option Value} {base : Heap} {f : Addr} {fd : FuncData} (T : Bn mg) (F : FunD K "_law_made" "_law_made" (defArgs s__law_made) (defBody s__law_made) (defScope s__law_made) [] [] f fd) (hm : mg "_law_made" = some (.ref f)) : C8.Cal P w K mg base 1 "_law_made" (spM R__law_made) [] := by
  refine cal_ofM (N := N__law_made) (ps := ["_law_size_so", "_law_table_so"]) F hm sc__law_made (fun kV doc pm an cdv ct us hl => by match us, hl with | [u0, u1], _ => rfl) (fun ds d h => by obtain ⟨n, l, rfl, few, hnd, rfl⟩ := h; rfl) ?_
  intro cdv A outer s H E hr
  have nd := sc__law_made.nd
  refine ⟨_, (pss_one (ps_ret (pe_tup (pa_cons (pv 0) (pa_cons (pe_callTy (bTup (K := K) rfl) (by rfl) T.btuple (by decide +kernel) (pa_cons (pe_lc (own := [("_law_own", 2)]) (g := (gName 2))  rfl nd (iL (K := K) rfl (pe_callB (cr_sortK rfl hr.units) (by rfl) T.bsorted (by decide +kernel) (pa_cons (pv 1) pa_nil))) (blkOk_by (own := [("_law_own", 2)]) (N := N__law_made) (sc := defScope s__law_made) (by decide +kernel)) (fun _ _ _ _ _ => (pg_name (i := 2) nd rfl (.inl rfl))) (fun _ _ _ _ _ => (pts_one (pt_cmpR op_gt (pe_dget (hu_of hr) (pv 1) (pv 2) (fun _ _ => rfl)) pe_int (nomark _)))) (fun _ _ _ _ _ => (pe_tup (pa_cons (pv 2) (pa_cons (pe_dget (hu_of hr) (pv 1) (pv 2) (fun _ _ => rfl)) pa_nil))))) pa_nil)) pa_nil))))), ?_⟩
  intro ds d h
  obtain ⟨n, l, rfl, few, hnd, rfl⟩ := h
  have hval : ∀ ws : List Win, ws.Perm (l.map (·.1)) → ∀ a ∈ ws, ∃ v, valE l a = some v := fun ws hp a ha => by
    obtain ⟨e, he, h⟩ := List.mem_map.mp (hp.subset ha)
    exact valE_in ⟨e, he, h⟩
  refine ot_retN (ETN.imp (etn_pair (Po := fun d => ∃ ds, (∃ ws : List Win, ws.Perm (l.map (·.1)) ∧ PyData.list ds = .list ((ws.filter fun a => decide (0 < (valE l a).getD 0)).map fun a => erD (a, (valE l a).getD 0))) ∧ d = .tuple ds) et_var (etn_tupL (Po := fun d => ∃ ws : List Win, ws.Perm (l.map (·.1)) ∧ d = .list ((ws.filter fun a => decide (0 < (valE l a).getD 0)).map fun a => erD (a, (valE l a).getD 0))) (ETN.imp (etn_lc winD (fun a => decide (0 < (valE l a).getD 0)) (fun a => erD (a, (valE l a).getD 0)) (etn_sortK et_var (by omega)) (fun ws hp => ?_) fun ws hp a ha => ?_) fun d h => ?_)) nol_int fun e h => ?_) fun d h => ?_)
  · rw [hp.length_eq, List.length_map]; omega
  · obtain ⟨v, hv⟩ := hval ws hp a ha
    rw [hv]
    exact ⟨_, eg_name (by decide), eb_test (et_B0 (g := fun i j => decide (j < i)) (et_dget et_var et_var hv) et_int), fun _ => ⟨et_pair et_var (et_dget et_var et_var hv) nol_win nol_int, nol_tup⟩⟩
  · obtain ⟨ws, h1, rfl⟩ := h
    exact ⟨_, ⟨ws, h1, rfl⟩, rfl⟩
  · obtain ⟨ds, _, rfl⟩ := h
    exact nol_tup
  · obtain ⟨e, ⟨ds, ⟨ws, hp, h2⟩, rfl⟩, rfl⟩ := h
    injection h2 with h2
    subst h2
    refine ⟨(ws.filter fun a => decide (0 < (valE l a).getD 0)).map fun a => (a, (valE l a).getD 0), ?_, ?_, fun e he => ?_⟩
    · unfold lotD
      rw [List.map_map]
      rfl
    · rw [List.length_map]
      have h9 := hp.length_eq
      rw [List.length_map] at h9
      rw [← h9]
      exact List.length_filter_le _ _
    · obtain ⟨a, ha, rfl⟩ := List.mem_map.mp he
      obtain ⟨ha1, ha2⟩ := List.mem_filter.mp ha
      obtain ⟨v, hv⟩ := hval ws hp a ha1
      rw [hv] at ha2 ⊢
      rw [decide_eq_true_iff] at ha2
      exact ⟨valE_mem hv, ha2⟩
end K68

namespace K68
open PySem PySem.Spec PyProof.Rows L2
open Evl (Ex)
def R__law_same0 (ds : List PyData) (d : PyData) : Prop := ∃ a b : Bool, ds = [.bool a, .bool b] ∧ d = .bool (a == b)
abbrev N__law_same : List Str := ["_law_got", "_law_due_so", "_law_mine", "_law_its"]
theorem sc__law_same : FnScope N__law_same ["_law_got", "_law_due_so"] (defScope s__law_same) := ⟨rfl, rfl, rfl, by decide +kernel, rfl, by decide +kernel, by decide +kernel⟩
/- slots: 0:_law_got 1:_law_due_so 2:_law_mine 3:_law_its ; cells:  ; callees:  -/
theorem w__law_same0 {P : Program} {w : World} {K : PySem.W.Frag} {mg : Str → Option Value} {base : Heap} {f : Addr} {fd : FuncData} (T : Bn mg) (F : FunD K "_law_same" "_law_same" (defArgs s__law_same) (defBody s__law_same) (defScope s__law_same) [] [] f fd) (hm : mg "_law_same" = some (.ref f)) : C8.Cal P w K mg base 1 "_law_same" (spD R__law_same0) [] := by
  refine cal_of (N := N__law_same) (ps := ["_law_got", "_law_due_so"]) F hm sc__law_same (fun kV doc pm an cdv ct us hl => by match us, hl with | [u0, u1], _ => rfl) (fun ds d h => by obtain ⟨a, b, rfl, rfl⟩ := h; rfl) ?_
  intro cdv A outer s H E hr
  have nd := sc__law_same.nd
  refine ⟨_, (pss_cons (ps_if (pt_val (pe_callB (bIsiT (K := K) rfl) (by rfl) T.bisinstance (by decide +kernel) (pa_cons (pv 1) (pa_cons (pe_tup (pa_cons (pe_bltn (v := .ty "list") (u := .type "list") (by rfl) T.blist (by decide +kernel) rfl) (pa_cons (pe_bltn (v := .ty "tuple") (u := .type "tuple") (by rfl) T.btuple (by decide +kernel) rfl) pa_nil))) pa_nil))))
      pss_never pss_nil)
    (pss_cons (ps_if (pw_or (pt_cmpR op_isN (pv 1) pe_non (nomark _)) (pw_or1 (pt_val (pe_callB (bIsiT (K := K) rfl) (by rfl) T.bisinstance (by decide +kernel) (pa_cons (pv 1) (pa_cons (pe_tup (pa_cons (pe_bltn (v := .ty "bool") (u := .type "bool") (by rfl) T.bbool (by decide +kernel) rfl) (pa_cons (pe_bltn (v := .ty "str") (u := .type "str") (by rfl) T.bstr (by decide +kernel) rfl) pa_nil))) pa_nil)))))).pt
      (pss_one (ps_ret (pe_and (pe_cmpR op_eq (pv 0) (pv 1) (nomark _)) (pe_and (pe_cmpR op_eq (pe_callB (bIsi (K := K) rfl) (by rfl) T.bisinstance (by decide +kernel) (pa_cons (pv 0) (pa_cons (pe_bltn (v := .ty "bool") (u := .type "bool") (by rfl) T.bbool (by decide +kernel) rfl) pa_nil))) (pe_callB (bIsi (K := K) rfl) (by rfl) T.bisinstance (by decide +kernel) (pa_cons (pv 1) (pa_cons (pe_bltn (v := .ty "bool") (u := .type "bool") (by rfl) T.bbool (by decide +kernel) rfl) pa_nil))) (nomark _)) (pe_one (pe_cmpR op_eq (pe_cmpR op_isN (pv 0) pe_non (nomark _)) (pe_cmpR op_isN (pv 1) pe_non (nomark _)) (nomark _))))))) pss_nil)
    (pss_one (ps_ret (pe_and (pe_callB (bIsi (K := K) rfl) (by rfl) T.bisinstance (by decide +kernel) (pa_cons (pv 0) (pa_cons (pe_bltn (v := .ty "int") (u := .type "int") (by rfl) T.bint (by decide +kernel) rfl) pa_nil))) (pe_and (pe_not (pe_callB (bIsi (K := K) rfl) (by rfl) T.bisinstance (by decide +kernel) (pa_cons (pv 0) (pa_cons (pe_bltn (v := .ty "bool") (u := .type "bool") (by rfl) T.bbool (by decide +kernel) rfl) pa_nil)))) (pe_one (pe_cmpR op_eq (pv 0) (pv 1) (nomark _))))))))), ?_⟩
  intro ds d h
  obtain ⟨a, b, rfl, rfl⟩ := h
  refine ot_ifr (b := false) (eb_val (et_isi2 (d := .bool b) (b1 := false) (b2 := false) et_var kit_bl kit_bt)) (fun z => nomatch z) fun _ => ?_
  refine ot_ifr (b := false || (true || false)) (eb_or (eb_is (eb_test (et_isN (d := .bool b) et_var)) rfl) fun _ => eb_val (et_isi2 (d := .bool b) (b1 := true) (b2 := false) et_var kit_bb kit_bs)) (fun _ => ?_) (fun z => nomatch z)
  refine ot_ret (et_and (et_eqB et_var et_var) fun _ => et_and (b := (false == false)) (et_eqB (et_isi (d := .bool a) (b := true) et_var kit_bb) (et_isi (d := .bool b) (b := true) et_var kit_bb)) fun _ => et_eqB (et_isN (d := .bool a) et_var) (et_isN (d := .bool b) et_var)) ?_
  cases a <;> cases b <;> rfl
def R__law_same (ds : List PyData) (d : PyData) : Prop := ∃ a a' b b' : Bool, ds = [.list [.bool a, .bool a'], .list [.bool b, .bool b']] ∧ d = .bool (a == b && a' == b')
theorem w__law_same {P : Program} {w : World} {K : PySem.W.Frag} {mg : Str → Option Value} {base : Heap} {f : Addr} {fd : FuncData} (T : Bn mg) (c__law_same : C8.Cal P w K mg base 1 "_law_same" (spD R__law_same0) []) (F : FunD K "_law_same" "_law_same" (defArgs s__law_same) (defBody s__law_same) (defScope s__law_same) [] [] f fd) (hm : mg "_law_same" = some (.ref f)) : C8.Cal P w K mg base 2 "_law_same" (spD R__law_same) [] := by
  refine cal_of (N := N__law_same) (ps := ["_law_got", "_law_due_so"]) F hm sc__law_same (fun kV doc pm an cdv ct us hl => by match us, hl with | [u0, u1], _ => rfl) (fun ds d h => by obtain ⟨a, a', b, b', rfl, rfl⟩ := h; rfl) ?_
  intro cdv A outer s H E hr
  have nd := sc__law_same.nd
  refine ⟨_, (pss_cons (ps_if (pt_val (pe_callB (bIsiT (K := K) rfl) (by rfl) T.bisinstance (by decide +kernel) (pa_cons (pv 1) (pa_cons (pe_tup (pa_cons (pe_bltn (v := .ty "list") (u := .type "list") (by rfl) T.blist (by decide +kernel) rfl) (pa_cons (pe_bltn (v := .ty "tuple") (u := .type "tuple") (by rfl) T.btuple (by decide +kernel) rfl) pa_nil))) pa_nil))))
      (pss_cons (ps_if (pw_or (pt_cmpR op_ne (pe_callB (bIsi (K := K) rfl) (by rfl) T.bisinstance (by decide +kernel) (pa_cons (pv 0) (pa_cons (pe_bltn (v := .ty "list") (u := .type "list") (by rfl) T.blist (by decide +kernel) rfl) pa_nil))) (pe_callB (bIsi (K := K) rfl) (by rfl) T.bisinstance (by decide +kernel) (pa_cons (pv 1) (pa_cons (pe_bltn (v := .ty "list") (u := .type "list") (by rfl) T.blist (by decide +kernel) rfl) pa_nil))) (nomark _)) (pw_or1 (pt_cmpR op_ne (pe_callB (bIsi (K := K) rfl) (by rfl) T.bisinstance (by decide +kernel) (pa_cons (pv 0) (pa_cons (pe_bltn (v := .ty "tuple") (u := .type "tuple") (by rfl) T.btuple (by decide +kernel) rfl) pa_nil))) (pe_callB (bIsi (K := K) rfl) (by rfl) T.bisinstance (by decide +kernel) (pa_cons (pv 1) (pa_cons (pe_bltn (v := .ty "tuple") (u := .type "tuple") (by rfl) T.btuple (by decide +kernel) rfl) pa_nil))) (nomark _)))).pt
      (pss_one (ps_ret pe_bl)) pss_nil)
    (pss_one (ps_ret (pe_and (pe_cmpR op_eq (pe_callB (bLen (K := K) rfl) (by rfl) T.blen (by decide +kernel) (pa_cons (pv 0) pa_nil)) (pe_callB (bLen (K := K) rfl) (by rfl) T.blen (by decide +kernel) (pa_cons (pv 1) pa_nil)) (nomark _)) (pe_one (pe_callB (bAll (K := K) rfl rfl) (by rfl) T.ball (by decide +kernel) (pa_cons (pe_lc (own := [("_law_mine", 2), ("_law_its", 3)]) (g := (gTup K 2 (gCons (gName 2) (gCons (gName 3) gNil)))) (tt := tYes)  rfl nd (pi_zip (by rfl) T.bzip (pa_cons (pv 0) (pa_cons (pv 1) pa_nil))) (blkOk_by (own := [("_law_mine", 2), ("_law_its", 3)]) (N := N__law_same) (sc := defScope s__law_same) (by decide +kernel)) (fun _ _ _ _ _ => (gT (K := K) (n := 2) rfl rfl (pgs_cons (pg_name (i := 2) nd rfl (.inl rfl)) (pgs_cons (pg_name (i := 3) nd rfl (.inl rfl)) pgs_nil)))) (fun _ _ _ _ _ => pts_nil) (fun _ _ _ _ _ => (C8.pe_c c__law_same hr (by decide) (by rfl) (pa_cons (pv 2) (pa_cons (pv 3) pa_nil))))) pa_nil))))))) pss_nil)
    pss_never), ?_⟩
  intro ds d h
  obtain ⟨a, a', b, b', rfl, rfl⟩ := h
  refine ot_ifr (b := true) (eb_val (et_isi2 (d := .list [.bool b, .bool b']) (b1 := true) (b2 := false) et_var kit_ll kit_lt)) (fun _ => ?_) (fun z => nomatch z)
  refine ot_ifr (b := (true != true) || (false != false)) (eb_or (eb_test (et_neB (et_isi (d := .list [.bool a, .bool a']) (b := true) et_var kit_ll) (et_isi (d := .list [.bool b, .bool b']) (b := true) et_var kit_ll))) fun _ => eb_test (et_neB (et_isi (d := .list [.bool a, .bool a']) (b := false) et_var kit_lt) (et_isi (d := .list [.bool b, .bool b']) (b := false) et_var kit_lt))) (fun z => nomatch z) fun _ => ?_
  refine ot_ret (et_and (a := true) (et_is (et_eqI (et_lenL (ds := [.bool a, .bool a']) et_var) (et_lenL (ds := [.bool b, .bool b']) et_var)) rfl) fun _ => et_allL (bs := [a == b, a' == b']) (et_is (et_mapV .bool [(a, b), (a', b')] (fun p => .tuple [.bool p.1, .bool p.2]) (fun p => p.1 == p.2) (it_zip (as := [.bool a, .bool a']) (bs := [.bool b, .bool b']) et_var et_var rfl) (by show 2 ≤ 1000; decide) fun p hp => ⟨_, eg2 (by decide) (by decide), et_call (ea2 et_var et_var) ⟨p.1, p.2, rfl, rfl⟩, nol_bool⟩) rfl)) ?_
  simp
end K68

namespace K68
open PySem PySem.Spec PyProof.Rows L2
open Evl (Ex)
section
variable {ρ : Env} {ta tb te : TE} {K : PySem.W.Frag}
theorem et_leO {r : Option Nat} {m : Nat} (h : ET ρ ta (encN r)) (k : ET ρ tb (.int (m : Nat))) : ET ρ (tAndV (tOp (fun x y H Q => y = .non ∧ Q (.bl (!decide (x = .non))) H) ta (tC .non)) (tOp (rI0 fun i j => .bl (decide (i ≤ j))) ta tb)) (.bool (leO r m)) := by
  cases r with
  | none => exact et_is (et_and (a := false) (b := true) (et_notN (d := encN none) h) (fun z => nomatch z)) rfl
  | some n => exact et_is (et_and (a := true) (b := decide ((n : Int) ≤ (m : Nat))) (et_notN (d := encN (some n)) h) (fun _ => et_B0 (g := fun i j => decide (i ≤ j)) h k)) (by unfold leO; simp)
end
theorem lateS_nil {T : Nat} {E : List Er} {c : List Int} {a : Int} (h : CalOk T E c a) : (lateS T E c a).isEmpty = decide (late T E c a = some 0) := by
  by_cases k : late T E c a = some 0
  · unfold lateS
    rw [if_pos k, decide_eq_true k]
    rfl
  · rw [decide_eq_false k]
    unfold lateS
    rw [if_neg k]
    obtain ⟨v, hv, e⟩ := List.mem_map.mp (late_mem h.lot.pos h.nn h.a0 (E := E))
    rw [List.isEmpty_eq_false_iff_exists_mem]
    exact ⟨v, List.mem_filter.mpr ⟨hv, decide_eq_true e⟩⟩
theorem lateS_pos {T : Nat} {E : List Er} {c : List Int} {a : Int} (h : CalOk T E c a) {v : Win} (hv : v ∈ lateS T E c a) : 0 < asks E v.1 v.2 ∧ v ∈ spans T := by
  unfold lateS at hv
  split at hv
  · cases hv
  · rename_i k
    obtain ⟨h1, h2⟩ := List.mem_filter.mp hv
    refine ⟨?_, h1⟩
    rw [decide_eq_true_iff] at h2
    by_cases hp : 0 < asks E v.1 v.2
    · exact hp
    · rw [wait_zero h.nn h.a0 (by omega)] at h2
      exact absurd h2.symm k
def R__law_times_right (ds : List PyData) (d : PyData) : Prop := ∃ (T : Nat) (E : List Er) (c : List Int) (a : Int), ds = [lotD T E, calD c, .int a] ∧ CalOk T E c a ∧ allW E < 1000000 ∧ d = .bool true
abbrev N__law_times_right : List Str := ["_law_lot_so", "_law_hands_so", "_law_after_so", "_law_more_so", "_law_spans_so", "_law_late_so", "_law_size_so", "_law_wide_so", "_law_got", "_law_need_so", "_law_own"]
theorem sc__law_times_right : FnScope N__law_times_right ["_law_lot_so", "_law_hands_so", "_law_after_so"] (defScope s__law_times_right) := ⟨rfl, rfl, rfl, by decide +kernel, rfl, by decide +kernel, by decide +kernel⟩
/- slots: 0:_law_lot_so 1:_law_hands_so 2:_law_after_so 3:_law_more_so 4:_law_spans_so 5:_law_late_so 6:_law_size_so 7:_law_wide_so 8:_law_got 9:_law_need_so 10:_law_own ; cells: _law_lot_so ; callees: lateness hours_of done_late longer is_done _law_same least_after all_work late_stretches asked -/
theorem w__law_times_right {P : Program} {w : World} {K : PySem.W.Frag} {mg : Str → Option Value} {base : Heap} {f : Addr} {fd : FuncData} (T : Bn mg) (c_lateness : C8.Cal P w K mg base 4 "lateness" (spD R_lateness) []) (c_hours_of : C8.Cal P w K mg base 1 "hours_of" (spD R_hours_of) []) (c_done_late : C8.Cal P w K mg base 5 "done_late" (spD R_done_late) []) (c_longer : C8.Cal P w K mg base 3 "longer" (spM R_longer) []) (c_is_done : C8.Cal P w K mg base 5 "is_done" (spD R_is_done) []) (c__law_same : C8.Cal P w K mg base 2 "_law_same" (spD R__law_same) []) (c_least_after : C8.Cal P w K mg base 3 "least_after" (spD R_least_after) []) (c_all_work : C8.Cal P w K mg base 1 "all_work" (spD R_all_work) []) (c_late_stretches : C8.Cal P w K mg base 5 "late_stretches" (spD R_late_stretches) []) (c_asked : C8.Cal P w K mg base 2 "asked" (spD R_asked) []) (F : FunD K "_law_times_right" "_law_times_right" (defArgs s__law_times_right) (defBody s__law_times_right) (defScope s__law_times_right) [] [] f fd) (hm : mg "_law_times_right" = some (.ref f)) : C8.Cal P w K mg base 6 "_law_times_right" (spD R__law_times_right) [] := by
  refine cal_of (N := N__law_times_right) (ps := ["_law_lot_so", "_law_hands_so", "_law_after_so"]) F hm sc__law_times_right (fun kV doc pm an cdv ct us hl => by match us, hl with | [u0, u1, u2], _ => rfl) (fun ds d h => by obtain ⟨n, G, c, a, rfl, hk, hw, rfl⟩ := h; rfl) ?_
  intro cdv A outer s H E hr
  have nd := sc__law_times_right.nd
  refine ⟨_, (pss_cons (ps_par (i := 5) (j := 6) (by rfl) nd rfl rfl (by decide) rfl rfl (pa_cons (C8.pe_c c_lateness hr (by decide) (by rfl) (pa_cons (pv 0) (pa_cons (pv 1) (pa_cons (pv 2) pa_nil)))) (pa_cons (C8.pe_c c_hours_of hr (by decide) (by rfl) (pa_cons (pv 0) pa_nil)) pa_nil)) (by rfl))
    (pss_cons (ps_for PassesOwn.never rfl (pi_range1 (by rfl) T.brange (pa_cons (pe_op op_sub pe_int (pv 6)) pa_nil)) (pg_name (i := 3) nd rfl (.inl rfl))
      (pss_cons (ps_set (i := 7) nd rfl (.inl rfl) (pe_op (oCatT (K := K) rfl) (pe_callTy (bTup (K := K) rfl) (by rfl) T.btuple (by decide +kernel) (pa_cons (pv 1) pa_nil)) (pe_op (oRepT (K := K) rfl) (pe_tup (pa_cons (pv 2) pa_nil)) (pv 3))))
    (pss_cons (ps_set (i := 8) nd rfl (.inl rfl) (pe_lst (pa_cons (C8.pe_c c_done_late hr (by decide) (by rfl) (pa_cons (pv 0) (pa_cons (pv 1) (pa_cons (pv 2) (pa_cons (pv 3) pa_nil))))) (pa_cons (C8.pe_c c_is_done hr (by decide) (by rfl) (pa_cons (C8.pe_c c_longer hr (by decide) (by rfl) (pa_cons (pv 0) (pa_cons (pv 3) pa_nil))) (pa_cons (pv 7) pa_nil))) pa_nil))))
    (pss_cons (ps_if (pt_not (pt_val (C8.pe_c c__law_same hr (by decide) (by rfl) (pa_cons (pv 8) (pa_cons (pe_op op_rep (pe_lst (pa_cons (pe_and (pe_cmpR op_notN (pv 5) pe_non (nomark _)) (pe_one (pe_cmpR op_le (pv 5) (pv 3) (nomark _)))) pa_nil)) pe_int) pa_nil)))))
      (pss_one (ps_ret pe_bl)) pss_nil)
    (pss_cons (ps_set (i := 9) nd rfl (.inl rfl) (C8.pe_c c_least_after hr (by decide) (by rfl) (pa_cons (pv 0) (pa_cons (pv 1) (pa_cons (pv 3) pa_nil)))))
    (pss_cons (ps_if (pw_and (pt_cmpR op_notN (pv 9) pe_non (nomark _)) (pw_and1 (pt_not (pt_val (C8.pe_c c_done_late hr (by decide) (by rfl) (pa_cons (pv 0) (pa_cons (pv 1) (pa_cons (pv 9) (pa_cons (pv 3) pa_nil))))))))).pt
      (pss_one (ps_ret pe_bl)) pss_nil)
    (pss_cons (ps_if (pw_and (pt_cmpR op_notN (pv 9) pe_non (nomark _)) (pw_and (pt_cmpR op_gt (pv 9) pe_int (nomark _)) (pw_and1 (pt_val (C8.pe_c c_done_late hr (by decide) (by rfl) (pa_cons (pv 0) (pa_cons (pv 1) (pa_cons (pe_op op_sub (pv 9) pe_int) (pa_cons (pv 3) pa_nil))))))))).pt
      (pss_one (ps_ret pe_bl)) pss_nil)
    (pss_one (ps_if (pw_and (pt_cmpR op_isN (pv 9) pe_non (nomark _)) (pw_and1 (pt_val (C8.pe_c c_done_late hr (by decide) (by rfl) (pa_cons (pv 0) (pa_cons (pv 1) (pa_cons (C8.pe_c c_all_work hr (by decide) (by rfl) (pa_cons (pv 0) pa_nil)) (pa_cons (pv 3) pa_nil)))))))).pt
      (pss_one (ps_ret pe_bl)) pss_nil)))))))))
    (pss_cons (ps_set (i := 4) nd rfl (.inl rfl) (C8.pe_c c_late_stretches hr (by decide) (by rfl) (pa_cons (pv 0) (pa_cons (pv 1) (pa_cons (pv 2) pa_nil)))))
    (pss_cons (ps_if (pt_not (pt_val (C8.pe_c c__law_same hr (by decide) (by rfl) (pa_cons (pe_lst (pa_cons (C8.pe_c c_is_done hr (by decide) (by rfl) (pa_cons (pv 0) (pa_cons (pv 1) pa_nil))) (pa_cons (pe_cmpR (oEqD (K := K) rfl hr.units) (pv 4) (pe_tup pa_nil) (nomark _)) pa_nil))) (pa_cons (pe_op op_rep (pe_lst (pa_cons (pe_cmpR op_eq (pv 5) pe_int (nomark _)) pa_nil)) pe_int) pa_nil)))))
      (pss_one (ps_ret pe_bl)) pss_nil)
    (pss_one (ps_ret (pe_callB (bAll (K := K) rfl rfl) (by rfl) T.ball (by decide +kernel) (pa_cons (pe_lc (own := [("_law_own", 10)]) (g := (gName 10)) (tt := tYes)  rfl nd (iT (K := K) rfl (pv 4)) (blkOk_by (own := [("_law_own", 10)]) (N := N__law_times_right) (sc := defScope s__law_times_right) (by decide +kernel)) (fun _ _ _ _ _ => (pg_name (i := 10) nd rfl (.inl rfl))) (fun _ _ _ _ _ => pts_nil) (fun _ _ _ _ _ => (pe_cmpR op_gt (C8.pe_c c_asked hr (by decide) (by rfl) (pa_cons (pv 0) (pa_cons (pe_ix (xT (K := K) rfl) (pv 10) pe_int (fun _ _ => rfl)) (pa_cons (pe_ix (xT (K := K) rfl) (pv 10) pe_int (fun _ _ => rfl)) pa_nil)))) pe_int (nomark _)))) pa_nil)))))))), ?_⟩
  intro ds d h
  obtain ⟨n, G, c, a, rfl, hk, hw, rfl⟩ := h
  have h8 := hk.lot.le8
  have h1 := hk.lot.pos
  have few := hk.lot.few
  have hc := hk.nn
  have hal := hk.len
  have w0 : 0 ≤ allW G := by rw [allW_fs]; exact fs_nonneg hk.lot.nn
  refine ot_let2 (ea2 (et_call (ea3 et_var et_var et_var) ⟨n, G, c, a, rfl, hk, rfl⟩) (et_call (ea1 et_var) ⟨n, G, rfl, rfl⟩)) ?_
  refine ot_forS (ι := Unit) (vs := [3]) (fun _ => [some (lotD n G), some (calD c), some (.int a), none, none, some (encN (late n G c a)), some (.int (n : Nat)), none, none, none, none]) (fun _ _ => True) (IT.is (it_range1 (n := ((9 - n : Nat) : Int)) (et_is (et_I0 (g := fun i j => i - j) et_int et_var) (by congr 1; omega)) (by omega)) (rng0 (9 - n))) () True.intro (le_of ⟨.inr rfl, .inr rfl, .inr rfl, .inr rfl, .inr rfl, .inr rfl, .inr rfl, .inr rfl, .inr rfl, .inr rfl, .inr rfl, True.intro⟩) ?_ ?_
  · rintro m d _ hd -
    rw [List.getElem?_map] at hd
    have hm : m < 9 - n := by
      by_cases z : m < 9 - n
      · exact z
      · rw [List.getElem?_eq_none (by simpa using z)] at hd; cases hd
    rw [List.getElem?_range hm] at hd
    cases hd
    have hfs : ∀ e ∈ G, e.1.1 ≤ e.1.2 := fun e he => (hk.lot.win e he).1
    have key : ∀ E', Like (n + m) (longE m G) E' → doneB (n + m) E' (c ++ List.replicate m a) = leO (late n G c a) m := fun E' hl => by
      rw [doneB_eq hl.2.2.2, doneB_long hfs hal hc hk.a0 m, leO_late hc hk.a0]
    refine ⟨_, eg_name (by decide), ot_let (d := calD (c ++ List.replicate m a)) (et_is (et_catT (et_tupT et_var) (et_repT (n := m) (et_tup (ea1 et_var) ⟨nol_int, True.intro⟩ (by show 1 ≤ 1000; decide)) et_var (by omega)) (by rw [List.length_map, List.length_replicate]; omega)) (by unfold calD; rw [List.map_append, List.map_replicate])) ?_⟩
    refine ot_let (d := .list [.bool (leO (late n G c a) m), .bool (leO (late n G c a) m)]) (et_lst (ea2 (et_call (ea4 et_var et_var et_var et_var) ⟨n, G, c, a, m, rfl, hk, rfl⟩) (et_callN (ean_cons (etn_call (ea2 et_var et_var) ⟨n, G, m, rfl, hk.lot.w, rfl⟩) (ea1 et_var)) ?_)) ⟨nol_bool, nol_bool, True.intro⟩ (by show 2 ≤ 1000; decide)) ?_
    · rintro es ⟨d, ⟨E', hl, rfl⟩, rfl⟩
      refine ⟨n + m, E', c ++ List.replicate m a, rfl, by rw [List.length_append, List.length_replicate, hal], by omega, ?_, by rw [key E' hl]⟩
      have := hl.2.2.1
      unfold longE at this
      rw [List.length_map] at this
      omega
    refine ot_ifr (b := !(leO (late n G c a) m == leO (late n G c a) m && leO (late n G c a) m == leO (late n G c a) m)) (eb_not (eb_val (et_call (ea2 et_var (et_repL (n := 2) (et_lst (ea1 (et_leO et_var et_var)) ⟨nol_bool, True.intro⟩ (by show 1 ≤ 1000; decide)) et_int (by decide))) ⟨_, _, _, _, rfl, rfl⟩))) (fun z => ?_) fun _ => ?_
    · simp at z
    refine ot_let (et_call (ea3 et_var et_var et_var) ⟨n, G, c, m, rfl, hk.lot, hal, by omega, rfl⟩) ?_
    cases hne : need n G c m with
    | none =>
      refine ot_ifr (b := false && true) (eb_and (eb_test (et_notN (d := encN none) et_var)) (fun z => nomatch z)) (fun z => nomatch z) fun _ => ?_
      refine ot_ifr (b := false && true) (eb_and (eb_test (et_notN (d := encN none) et_var)) (fun z => nomatch z)) (fun z => nomatch z) fun _ => ?_
      refine ot_if (b := true && false) (eb_and (eb_test (et_isN (d := encN none) et_var)) fun _ => eb_val (et_call (ea4 et_var et_var (et_call (ea1 et_var) ⟨n, G, rfl, by omega, rfl⟩) et_var) ⟨n, G, c, allW G, m, rfl, ⟨hk.lot, hal, hc, w0, hw⟩, by rw [need_none hc hk.lot hne]⟩)) (fun z => nomatch z) fun _ => ?_
      exact ot_nx ⟨(), True.intro, le_of ⟨.inr rfl, .inr rfl, .inr rfl, .inl rfl, .inr rfl, .inr rfl, .inr rfl, .inl rfl, .inl rfl, .inl rfl, .inr rfl, True.intro⟩⟩
    | some r =>
      have hr := need_le hc hk.lot hne
      have kr : CalOk n G c (r : Int) := ⟨hk.lot, hal, hc, by omega, by omega⟩
      refine ot_ifr (b := true && !true) (eb_and (eb_test (et_notN (d := encN (some r)) et_var)) fun _ => eb_not (eb_val (et_call (ea4 et_var et_var et_var et_var) ⟨n, G, c, (r : Int), m, rfl, kr, by rw [need_done hc hne]⟩))) (fun z => nomatch z) fun _ => ?_
      refine ot_ifr (b := true && (decide (0 < (r : Int)) && false)) (eb_and (eb_test (et_notN (d := encN (some r)) et_var)) fun _ => eb_and (eb_test (et_B0 (g := fun i j => decide (j < i)) et_var et_int)) fun hz => eb_val (et_call (ea4 et_var et_var (et_I0 (g := fun i j => i - j) et_var et_int) et_var) ⟨n, G, c, (r : Int) - 1, m, rfl, ?_, ?_⟩)) (fun z => ?_) fun _ => ?_
      · rw [decide_eq_true_iff] at hz
        exact ⟨hk.lot, hal, hc, by omega, by omega⟩
      · rw [decide_eq_true_iff] at hz
        rw [need_less hc hne (by omega)]
      · simp at z
      refine ot_if (b := false && true) (eb_and (eb_test (et_isN (d := encN (some r)) et_var)) (fun z => nomatch z)) (fun z => nomatch z) fun _ => ?_
      exact ot_nx ⟨(), True.intro, le_of ⟨.inr rfl, .inr rfl, .inr rfl, .inl rfl, .inr rfl, .inr rfl, .inr rfl, .inl rfl, .inl rfl, .inl rfl, .inr rfl, True.intro⟩⟩
  · rintro _ -
    refine ot_let (et_call (ea3 et_var et_var et_var) ⟨n, G, c, a, rfl, hk, rfl⟩) ?_
    have hz : decide ((late n G c a).map (fun k => (k : Int)) = some 0) = decide (late n G c a = some 0) := opt_dec _ (some 0)
    refine ot_ifr (b := !(decide (late n G c a = some 0) == decide (late n G c a = some 0) && decide (late n G c a = some 0) == decide (late n G c a = some 0))) (eb_not (eb_val (et_call (ea2 (et_lst (ea2 (et_call (ea2 et_var et_var) ⟨n, G, c, rfl, hal, h8, by omega, by rw [doneB_late hal hc hk.a0]⟩) (et_is (et_nilT et_var (fun v => sm_mono (sm_win v) (by decide))) (by rw [lateS_nil hk]))) ⟨nol_bool, nol_bool, True.intro⟩ (by show 2 ≤ 1000; decide)) (et_repL (n := 2) (et_lst (ea1 (et_is (et_eqO (r := (late n G c a).map fun k => (k : Int)) (s := some 0) et_var et_int) (by rw [hz]))) ⟨nol_bool, True.intro⟩ (by show 1 ≤ 1000; decide)) et_int (by decide))) ⟨_, _, _, _, rfl, rfl⟩))) (fun z => ?_) fun _ => ?_
    · simp at z
    have hls : (lateS n G c a).length ≤ 36 := by
      unfold lateS
      split
      · exact Nat.zero_le _
      · exact Nat.le_trans (List.length_filter_le _ _) (spans_len n h8)
    refine ot_ret (et_allL (et_mapV .bool (lateS n G c a) winD (fun v => decide (0 < asks G v.1 v.2)) (it_tup et_var) (by omega) fun v hv => ⟨_, eg_name (by decide), et_B0 (g := fun i j => decide (j < i)) (et_call (ea3 et_var (et_ix (n := 0) et_var et_int rfl) (et_ix (n := 1) et_var et_int rfl)) ⟨n, G, v.1, v.2, rfl, (mem_spans.mp (lateS_pos hk hv).2).1, (mem_spans.mp (lateS_pos hk hv).2).2, by omega, rfl⟩) et_int, nol_bool⟩)) ?_
    refine congrArg PyData.bool ?_
    rw [List.all_map, List.all_eq_true]
    intro v hv
    exact decide_eq_true (lateS_pos hk hv).1
end K68

namespace K68
open PySem PySem.Spec PyProof.Rows L2
open Evl (Ex)
theorem optF_dec (r s : Option Nat) : decide ((r.map fun k => (k : Int) - 1) = s.map fun k => (k : Int) - 1) = decide (r = s) := by
  cases r <;> cases s <;> simp <;> omega
def R__law_end_right (ds : List PyData) (d : PyData) : Prop := ∃ (T : Nat) (E : List Er) (c : List Int) (a : Int), ds = [lotD T E, calD c, .int a] ∧ CalOk T E c a ∧ d = .bool true
abbrev N__law_end_right : List Str := ["_law_lot_so", "_law_hands_so", "_law_after_so", "_law_size_so", "_law_flat_so", "_law_end_so", "_law_late_so", "_law_own", "_law_many_so"]
theorem sc__law_end_right : FnScope N__law_end_right ["_law_lot_so", "_law_hands_so", "_law_after_so"] (defScope s__law_end_right) := ⟨rfl, rfl, rfl, by decide +kernel, rfl, by decide +kernel, by decide +kernel⟩
/- slots: 0:_law_lot_so 1:_law_hands_so 2:_law_after_so 3:_law_size_so 4:_law_flat_so 5:_law_end_so 6:_law_late_so 7:_law_own 8:_law_many_so ; cells: _law_size_so ; callees: finish lateness hours_of made_lot -/
theorem w__law_end_right {P : Program} {w : World} {K : PySem.W.Frag} {mg : Str → Option Value} {base : Heap} {f : Addr} {fd : FuncData} (T : Bn mg) (c_finish : C8.Cal P w K mg base 3 "finish" (spD R_finish) []) (c_lateness : C8.Cal P w K mg base 4 "lateness" (spD R_lateness) []) (c_hours_of : C8.Cal P w K mg base 1 "hours_of" (spD R_hours_of) []) (c_made_lot : C8.Cal P w K mg base 2 "made_lot" (spM R_made_lot) []) (F : FunD K "_law_end_right" "_law_end_right" (defArgs s__law_end_right) (defBody s__law_end_right) (defScope s__law_end_right) [] [] f fd) (hm : mg "_law_end_right" = some (.ref f)) : C8.Cal P w K mg base 5 "_law_end_right" (spD R__law_end_right) [] := by
  refine cal_of (N := N__law_end_right) (ps := ["_law_lot_so", "_law_hands_so", "_law_after_so"]) F hm sc__law_end_right (fun kV doc pm an cdv ct us hl => by match us, hl with | [u0, u1, u2], _ => rfl) (fun ds d h => by obtain ⟨n, G, c, a, rfl, hk, rfl⟩ := h; rfl) ?_
  intro cdv A outer s H E hr
  have nd := sc__law_end_right.nd
  refine ⟨_, (pss_cons (ps_par (i := 5) (j := 6) (by rfl) nd rfl rfl (by decide) rfl rfl (pa_cons (C8.pe_c c_finish hr (by decide) (by rfl) (pa_cons (pv 0) (pa_cons (pv 1) (pa_cons (pv 2) pa_nil)))) (pa_cons (C8.pe_c c_lateness hr (by decide) (by rfl) (pa_cons (pv 0) (pa_cons (pv 1) (pa_cons (pv 2) pa_nil)))) pa_nil)) (by rfl))
    (pss_cons (ps_set (i := 3) nd rfl (.inr rfl) (C8.pe_c c_hours_of hr (by decide) (by rfl) (pa_cons (pv 0) pa_nil)))
    (pss_cons (ps_set (i := 4) nd rfl (.inl rfl) (C8.pe_c c_made_lot hr (by decide) (by rfl) (pa_cons (pv 3) (pa_cons (pe_lc (own := [("_law_own", 7), ("_law_many_so", 8)]) (g := (gTup K 2 (gCons (gName 7) (gCons (gName 8) gNil)))) (tt := tYes)  rfl nd (iT (K := K) rfl (pe_ix (xT (K := K) rfl) (pv 0) pe_int (fun _ _ => rfl))) (blkOk_by (own := [("_law_own", 7), ("_law_many_so", 8)]) (N := N__law_end_right) (sc := defScope s__law_end_right) (by decide +kernel)) (fun _ _ _ _ _ => (gT (K := K) (n := 2) rfl rfl (pgs_cons (pg_name (i := 7) nd rfl (.inl rfl)) (pgs_cons (pg_name (i := 8) nd rfl (.inl rfl)) pgs_nil)))) (fun _ _ _ _ _ => pts_nil) (fun _ _ _ _ _ => (pe_tup (pa_cons (pe_tup (pa_cons (pe_ix (xT (K := K) rfl) (pv 7) pe_int (fun _ _ => rfl)) (pa_cons (pe_op op_sub (pv 3) pe_int) pa_nil))) (pa_cons (pv 8) pa_nil))))) pa_nil))))
    (pss_cons (ps_if (pw_or (pt_cmpR op_ne (C8.pe_c c_finish hr (by decide) (by rfl) (pa_cons (pv 4) (pa_cons (pv 1) (pa_cons (pv 2) pa_nil)))) (pv 5) (nomark _)) (pw_or1 (pt_cmpR op_ne (pe_cmpR op_isN (pv 5) pe_non (nomark _)) (pe_cmpR op_isN (pv 6) pe_non (nomark _)) (nomark _)))).pt
      (pss_one (ps_ret pe_bl)) pss_nil)
    (pss_cons (ps_if (pt_cmpR op_isN (pv 5) pe_non (nomark _))
      (pss_one (ps_ret pe_bl)) pss_nil)
    (pss_cons (ps_if (pt_cmpR op_lt (pv 5) (pv 3) (nomark _))
      (pss_one (ps_ret (pe_and (pe_cmpR op_eq (C8.pe_c c_lateness hr (by decide) (by rfl) (pa_cons (pv 4) (pa_cons (pv 1) (pa_cons (pv 2) pa_nil)))) pe_int (nomark _)) (pe_one (pe_cmpR op_eq (pe_cmpR op_eq (pv 5) (pe_un un_neg pe_int) (nomark _)) (pe_cmpR (oEqD (K := K) rfl hr.units) (pe_ix (xT (K := K) rfl) (pv 0) pe_int (fun _ _ => rfl)) (pe_tup pa_nil) (nomark _)) (nomark _)))))) pss_nil)
    (pss_one (ps_ret (pe_and (pe_cmpR op_eq (C8.pe_c c_lateness hr (by decide) (by rfl) (pa_cons (pv 4) (pa_cons (pv 1) (pa_cons (pv 2) pa_nil)))) (pe_op op_add (pe_op op_sub (pv 5) (pv 3)) pe_int) (nomark _)) (pe_one (pe_cmpR op_ge (pv 6) (pe_op op_add (pe_op op_sub (pv 5) (pv 3)) pe_int) (nomark _)))))))))))), ?_⟩
  intro ds d h
  obtain ⟨n, G, c, a, rfl, hk, rfl⟩ := h
  have h8 := hk.lot.le8
  have h1 := hk.lot.pos
  have few := hk.lot.few
  have hc := hk.nn
  have hal := hk.len
  have hE : ∀ e ∈ G, e.1.2 ≤ n - 1 := fun e he => by have := (hk.lot.win e he).2; omega
  refine ot_let2 (ea2 (et_call (ea3 et_var et_var et_var) ⟨n, G, c, a, rfl, hk, rfl⟩) (et_call (ea3 et_var et_var et_var) ⟨n, G, c, a, rfl, hk, rfl⟩)) ?_
  refine ot_let (et_call (ea1 et_var) ⟨n, G, rfl, rfl⟩) ?_
  refine ot_letN (Po := fun d => ∃ E', Like n (flatE n G) E' ∧ d = lotD n E') (etn_call (ea2 et_var (et_mapV erD G erD (fun e => ((e.1.1, n - 1), e.2)) (it_tup (et_ix (n := 1) et_var et_int rfl)) (by omega) fun e he => ⟨_, eg2 (d := winD e.1) (e := .int e.2) (by decide) (by decide), et_pair (et_is (et_pair (et_ix (n := 0) et_var et_int rfl) (et_I0 (g := fun i j => i - j) et_var et_int) nol_int nol_int) (?_ : _ = winD (e.1.1, n - 1))) et_var nol_win nol_int, nol_tup⟩)) ⟨n, flatE n G, rfl, ?_, ?_, ?_, rfl⟩) ?_
  · unfold winD
    simp
    omega
  · intro e he
    obtain ⟨x, hx, rfl⟩ := List.mem_map.mp he
    have := hk.lot.win x hx
    exact ⟨by show x.1.1 ≤ n - 1; omega, by show n - 1 < n; omega⟩
  · intro e he
    obtain ⟨x, hx, rfl⟩ := List.mem_map.mp he
    exact hk.lot.one x hx
  · unfold flatE
    rw [List.length_map]
    omega
  rintro _ ⟨E', hl, rfl⟩
  have kf : CalOk n E' c a := ⟨hl.ok h1 h8 (by unfold flatE; rw [List.length_map]; exact few), hal, hc, hk.a0, hk.a1⟩
  have hfin : fin1 n E' c a = fin1 n G c a := (fin1_eq hl.2.2.2).trans (fin1_flat hE)
  have hlate : late n E' c a = late n (flatE n G) c a := late_eq hl.2.2.2
  have hnn := fin_late_none hk.lot hal hc hk.a0
  refine ot_ifr (b := !decide (fin1 n E' c a = fin1 n G c a) || (isNd (encF (fin1 n G c a)) != isNd (encN (late n G c a)))) (eb_or (eb_is (eb_test (et_neO (r := (fin1 n E' c a).map fun k => (k : Int) - 1) (s := (fin1 n G c a).map fun k => (k : Int) - 1) (et_call (ea3 et_var et_var et_var) ⟨n, E', c, a, rfl, kf, rfl⟩) et_var)) (by rw [optF_dec])) fun _ => eb_test (et_neB (et_isN et_var) (et_isN et_var))) (fun z => ?_) fun _ => ?_
  · rw [hfin] at z
    cases e1 : fin1 n G c a with
    | none =>
      rw [e1, hnn.mp e1] at z
      simp [isNd, encF, encN, encO] at z
    | some r =>
      cases e2 : late n G c a with
      | none => rw [hnn.mpr e2] at e1; cases e1
      | some k =>
        rw [e1, e2] at z
        simp [isNd, encF, encN, encO] at z
  cases e1 : fin1 n G c a with
  | none =>
    exact ot_ifr (b := true) (eb_test (et_isN (d := encF none) et_var)) (fun _ => ot_ret et_bl rfl) (fun z => nomatch z)
  | some r =>
    have e2 : ∃ k, late n G c a = some k := by
      cases e2 : late n G c a with
      | none => rw [hnn.mpr e2] at e1; cases e1
      | some k => exact ⟨k, rfl⟩
    obtain ⟨k, e2⟩ := e2
    rw [e2]
    refine ot_ifr (b := false) (eb_test (et_isN (d := encF (some r)) et_var)) (fun z => nomatch z) fun _ => ?_
    have hge := late_ge h1 hc hk.a0 e1 e2
    refine ot_ifr (b := decide ((r : Int) - 1 < (n : Nat))) (eb_test (et_B0 (g := fun i j => decide (i < j)) et_var et_var)) (fun z => ?_) fun z => ?_
    · rw [decide_eq_true_iff] at z
      have hlo := late_flat_low h1 hc hk.a0 hE e1 (by omega)
      have hz := fin1_zero hk.lot hal hc hk.a0
      refine ot_ret (et_and (a := true) (b := true) (et_is (et_eqO (r := (late n E' c a).map fun k => (k : Int)) (s := some 0) (et_call (ea3 et_var et_var et_var) ⟨n, E', c, a, rfl, kf, rfl⟩) et_int) (by rw [hlate, hlo]; rfl)) fun _ => et_is (et_eqB (et_is (et_eqI et_var (et_U (g := fun i => -i) et_int)) (?_ : _ = PyData.bool (decide (r = 0)))) (et_is (et_nilT (et_ix (n := 1) et_var et_int rfl) sm_er) (?_ : _ = PyData.bool (decide (r = 0))))) (by simp)) rfl
      · refine congrArg PyData.bool (decide_eq_decide.mpr ?_)
        show ((r : Int) - 1 = -1) ↔ r = 0
        omega
      · refine congrArg PyData.bool ?_
        rw [Bool.eq_iff_iff, List.isEmpty_iff, decide_eq_true_iff]
        rw [e1] at hz
        constructor
        · intro q
          have := hz.mpr q
          injection this
        · intro q
          exact hz.mp (by rw [q])
    · rw [decide_eq_false_iff_not] at z
      have hhi := late_flat_high h1 hc hk.a0 hE e1 (by omega)
      refine ot_ret (et_and (a := true) (b := true) (et_is (et_eqO (r := (late n E' c a).map fun k => (k : Int)) (s := some ((r : Int) - 1 - (n : Nat) + 1)) (et_call (ea3 et_var et_var et_var) ⟨n, E', c, a, rfl, kf, rfl⟩) (et_I0 (g := fun i j => i + j) (et_I0 (g := fun i j => i - j) et_var et_var) et_int)) (by rw [hlate, hhi]; simp; omega)) fun _ => et_is (et_B0 (g := fun i j => decide (j ≤ i)) et_var (et_I0 (g := fun i j => i + j) (et_I0 (g := fun i j => i - j) et_var et_var) et_int)) (by simp; omega)) rfl
end K68

namespace K68
open PySem PySem.Spec PyProof.Rows L2
open Evl (Ex)
/-! ### the box: three ints in a list, the last one counts -/
def BxL (H : Hp) (bx : Addr) (n : Nat) : Prop := ∃ a b c : Int, H bx = some (.lst [.int a, .int b, .int c]) ∧ 0 ≤ c ∧ c ≤ n
theorem BxL.up {H H' : Hp} {bx : Addr} {n : Nat} (h : BxL H bx n) (e : Ex H H') : BxL H' bx n := by
  obtain ⟨a, b, c, h1, h2⟩ := h
  exact ⟨a, b, c, e _ _ h1, h2⟩
theorem BxL.ne {H : Hp} {bx p : Addr} {n : Nat} (h : BxL H bx n) (hp : H p = none) : p ≠ bx := fun z => by
  obtain ⟨a, b, c, h1, _⟩ := h
  rw [z, h1] at hp
  cases hp
theorem BxL.le {H : Hp} {bx : Addr} {n m : Nat} (h : BxL H bx n) (e : n ≤ m) : BxL H bx m := by
  obtain ⟨a, b, c, h1, h2, h3⟩ := h
  exact ⟨a, b, c, h1, h2, by omega⟩
/-- data that a box's change leaves -/
def Ap (d : PyData) : Prop := ∀ H v bx n H', Hv H v d → BxL H bx n → Ex (rm H bx) H' → Hv H' v d
theorem tex_bx {H H' : Hp} {bx : Addr} {n : Nat} (h : BxL H bx n) (e : Ex (rm H bx) H') : TEx H H' := fun a xs q => by
  obtain ⟨x, y, z, h1, _⟩ := h
  exact e _ _ (by rw [rm_ne fun w => by rw [w, h1] at q; cases q]; exact q)
theorem ap_nol {d : PyData} (h : NoL d) : Ap d := fun H v bx n H' hv hb e => ((h H v hv).mono (tex_bx hb e)).hv
theorem ap_list {ds : List PyData} (h : ∀ H xs, TpAll H xs ds → ∀ a b c : Int, xs ≠ [.int a, .int b, .int c]) : Ap (.list ds) := fun H v bx n H' hv hb e => by
  obtain ⟨a, xs, rfl, h1, h2⟩ := hv
  refine ⟨a, xs, rfl, e _ _ ?_, h2.mono (tex_bx hb e)⟩
  rw [rm_ne fun w => ?_]
  · exact h1
  · obtain ⟨x, y, z, q1, _⟩ := hb
    rw [w, q1] at h1
    cases h1
    exact h H _ h2 x y z rfl
theorem ap_lenL {ds : List PyData} (h : ds.length ≠ 3) : Ap (.list ds) := ap_list fun H xs t a b c e => by
  rw [e] at t
  exact h t.len.symm
theorem ap_tups {α : Type} {l : List α} {f : α → PyData} (h : ∀ a, ∃ x r, f a = .tuple (x :: r)) : Ap (.list (l.map f)) := ap_list fun H xs t a b c e => by
  rw [e] at t
  cases l with
  | nil => cases t
  | cons x l =>
    obtain ⟨y, r, hy⟩ := h x
    rw [List.map_cons, hy] at t
    cases t with
    | cons t1 _ => cases t1
theorem ap_wins {l : List Win} : Ap (.list (l.map winD)) := ap_tups fun a => ⟨_, _, rfl⟩
theorem ap_dict {l : List Er} : Ap (dictD l) := fun H v bx n H' hv hb e => by
  obtain ⟨a, e1, e2⟩ := hv
  subst e1
  refine ⟨a, rfl, e _ _ ?_⟩
  rw [rm_ne fun w => ?_]
  · exact e2
  · obtain ⟨x, y, z, q1, _⟩ := hb
    rw [w, q1] at e2
    cases e2
def ApE : Env → Prop
  | [] => True
  | none :: r => ApE r
  | some d :: r => Ap d ∧ ApE r
theorem apE : ∀ {ρ : Env}, ApE ρ → ∀ (i : Nat) (d : PyData), ρ[i]? = some (some d) → Ap d
  | none :: r, h, i, d, e => by
    cases i with
    | zero => cases e
    | succ i => exact apE (ρ := r) h i d (by simpa using e)
  | some d' :: r, h, i, d, e => by
    cases i with
    | zero => cases e; exact h.1
    | succ i => exact apE (ρ := r) h.2 i d (by simpa using e)
  | [], h, i, d, e => by simp at e
theorem Sl.bx {σ : L2.St} {H H' : Hp} {ρ : Env} {bx : Addr} {n : Nat} (S : Sl σ H ρ) (ha : ApE ρ) (hb : BxL H bx n) (e : Ex (rm H bx) H') : Sl σ H' ρ := ⟨S.1, fun i d q => by
  obtain ⟨v, h1, h2⟩ := S.2 i d q
  exact ⟨v, h1, apE ha i d q H v bx n H' h2 hb e⟩⟩
theorem Hv.off {H H' : Hp} {bx : Addr} (t : TEx H H') (e : Ex (rm H bx) H') : ∀ {d : PyData} {v : V}, (∀ a, v = .ref a → a ≠ bx) → Hv H v d → Hv H' v d
  | .none, _, _, h => Tp.mono t h
  | .bool b, _, _, h => Tp.mono t h
  | .int i, _, _, h => Tp.mono t h
  | .str x, _, _, h => Tp.mono t h
  | .tuple ds, _, _, h => Tp.mono t h
  | .list ds, _, n, h => by
    obtain ⟨a, xs, e1, e2, e3⟩ := h
    exact ⟨a, xs, e1, e _ _ (by rw [rm_ne (n a e1)]; exact e2), e3.mono t⟩
  | .dict kvs, _, n, h => by
    obtain ⟨a, e1, e2⟩ := h
    exact ⟨a, e1, e _ _ (by rw [rm_ne (n a e1)]; exact e2)⟩
theorem wipeD_in {ρ : Env} {i : Nat} {d : PyData} : ∀ {vs : List Nat}, ρ[i]? = some (some d) → i ∉ vs → (wipeD ρ vs)[i]? = some (some d)
  | [], h, _ => h
  | v :: vs, h, n => by
    unfold wipeD
    rw [List.getElem?_set_ne (fun z => n (by simp [z]))]
    exact wipeD_in h fun z => n (List.mem_cons_of_mem _ z)
/-- where one stands: B is kept, own slots hold new objects -/
structure StX (B : Hp) (bp : Addr) (own : List Nat) (n : Nat) (ρ : Env) (σ : L2.St) (H : Hp) : Prop where
  ex : Ex B H
  nb : B bp = none
  sl : Sl σ H ρ
  b0 : σ[0]? = some (some (.ref bp))
  bx : BxL H bp n
  own : ∀ j ∈ own, ∀ a, σ[j]? = some (some (.ref a)) → B a = none ∧ a ≠ bp
def ETX (own : List Nat) (n : Nat) (ρ : Env) (te : TE) (Po : PyData → Nat → Prop) : Prop := ∀ B bx σ H, StX B bx own n ρ σ H → ∀ Q : VK, (∀ d v H' m, Po d m → StX B bx own m ρ σ H' → TEx H H' → Hv H' v d → Q v H') → te σ H Q
def ETTX (own : List Nat) (n : Nat) (ρ : Env) (tt : TT) (Po : Bool → Nat → Prop) : Prop := ∀ B bx σ H, StX B bx own n ρ σ H → ∀ Q : Bool → Hp → Prop, (∀ b H' m, Po b m → StX B bx own m ρ σ H' → TEx H H' → Q b H') → tt σ H Q
def OX (own : List Nat) (n : Nat) (ρ : Env) (t : TS) (N : Env → Nat → Prop) (R : PyData → Nat → Prop) : Prop := ∀ B bx σ H, StX B bx own n ρ σ H → ∀ D : Ends, (∀ ρ' σ' H' m, N ρ' m → StX B bx own m ρ' σ' H' → D.nx σ' H') → (∀ d v H' m, R d m → Ex B H' → BxL H' bx m → Hv H' v d → D.rt v H') → t D σ H
/-- a def over a box -/
def spB (Rb : List PyData → Nat → (PyData → Nat → Prop) → Prop) : Sp := fun vs H Q _ => ∃ (bx : Addr) (us : List V) (ds : List PyData) (n : Nat) (Po : PyData → Nat → Prop), vs = .ref bx :: us ∧ HvAll H us ds ∧ BxL H bx n ∧ Rb ds n Po ∧ ∀ d v H' m, Po d m → Ex (rm H bx) H' → BxL H' bx m → Hv H' v d → Q v H'
section
variable {own : List Nat} {n : Nat} {ρ : Env} {ta tb te : TE} {tt tu : TT} {t u : TS} {K : PySem.W.Frag} {N M : Env → Nat → Prop} {R : PyData → Nat → Prop}
theorem StX.up {B : Hp} {bx : Addr} {σ : L2.St} {H H' : Hp} (S : StX B bx own n ρ σ H) (e : Ex H H') : StX B bx own n ρ σ H' := ⟨S.ex.trans e, S.nb, S.sl.up e, S.b0, S.bx.up e, S.own⟩
theorem StX.slx {B : Hp} {bx : Addr} {σ : L2.St} {H H' : Hp} (S : StX B bx own n ρ σ H) (ha : ApE (wipeD ρ own)) (e : Ex (rm H bx) H') : Sl σ H' ρ := ⟨S.sl.1, fun i d q => by
  obtain ⟨v, h1, h2⟩ := S.sl.2 i d q
  refine ⟨v, h1, ?_⟩
  by_cases hi : i ∈ own
  · exact h2.off (tex_bx S.bx e) e fun a z => (S.own i hi a (by rw [h1, z])).2
  · exact apE ha i d (wipeD_in q hi) H v bx n H' h2 S.bx e⟩
theorem ET.x {d : PyData} (h : ET ρ te d) : ETX own n ρ te (fun d' m => d' = d ∧ m = n) := fun B bx σ H S Q q => h σ H S.sl _ fun v H' e hv => q d v H' n ⟨rfl, rfl⟩ (S.up e) (Ex.tex e) hv
theorem ETN.x {Po : PyData → Prop} (h : ETN ρ te Po) : ETX own n ρ te (fun d m => Po d ∧ m = n) := fun B bx σ H S Q q => h σ H S.sl _ fun d v H' p e hv => q d v H' n ⟨p, rfl⟩ (S.up e) (Ex.tex e) hv
theorem EB.x {b : Bool} (h : EB ρ tt b) : ETTX own n ρ tt (fun b' m => b' = b ∧ m = n) := fun B bx σ H S Q q => h σ H S.sl _ fun H' e => q b H' n ⟨rfl, rfl⟩ (S.up e) (Ex.tex e)
theorem ETX.imp {P1 P2 : PyData → Nat → Prop} (h : ETX own n ρ te P1) (k : ∀ d m, P1 d m → P2 d m) : ETX own n ρ te P2 := fun B bx σ H S Q q => h B bx σ H S Q fun d v H' m p S' te' hv => q d v H' m (k d m p) S' te' hv
theorem etx_call {Rb : List PyData → Nat → (PyData → Nat → Prop) → Prop} {ta : TA} {E : XK} {ds : List PyData} {Po : PyData → Nat → Prop} (h : EA ρ ta ds) (hr : Rb ds n Po) (ha : ApE (wipeD ρ own)) : ETX own n ρ (tCall (spB Rb) [] E (tCons (tVar 0) ta)) Po := fun B bx σ H S Q q =>
  ⟨_, S.b0, h σ H S.sl _ fun us H1 e1 hu => ⟨bx, us, ds, n, Po, by rw [List.append_nil], hu, S.bx.up e1, hr, fun d v H' m p e2 hb hv => q d v H' m p ⟨fun x o hx => e2 _ _ (by
    rw [rm_ne fun w => by rw [w, S.nb] at hx; cases hx]
    exact e1 _ _ (S.ex _ _ hx)), S.nb, (S.up e1).slx ha e2, S.b0, hb, S.own⟩ (fun a xs z => tex_bx (S.bx.up e1) e2 a xs (e1 _ _ z)) hv⟩⟩
theorem StX.le {B : Hp} {bx : Addr} {σ : L2.St} {H : Hp} {m : Nat} (S : StX B bx own n ρ σ H) (l : n ≤ m) : StX B bx own m ρ σ H := ⟨S.ex, S.nb, S.sl, S.b0, S.bx.le l, S.own⟩
/-- an int, of which A is known; the box stands at n1 then -/
def IntX (own : List Nat) (n : Nat) (ρ : Env) (te : TE) (A : Int → Prop) (n1 : Nat) : Prop := ETX own n ρ te fun d m => ∃ i, d = .int i ∧ A i ∧ m = n1
theorem ix_pure {i : Int} (h : ET ρ te (.int i)) : IntX own n ρ te (fun j => j = i) n := h.x.imp fun d m p => ⟨i, p.1, rfl, p.2⟩
theorem ix_imp {A B : Int → Prop} {n1 n2 : Nat} (h : IntX own n ρ te A n1) (k : ∀ i, A i → B i) (l : n1 ≤ n2) : IntX own n ρ te B n2 := fun B' bx σ H S Q q => h B' bx σ H S Q fun d v H' m p S' t' hv => by
  obtain ⟨i, e1, e2, e3⟩ := p
  subst e3
  exact q d v H' n2 ⟨i, e1, k i e2, rfl⟩ (S'.le l) t' hv
theorem ix_two {f : Int → Int → Int} {A C : Int → Prop} {n1 n2 : Nat} (h : IntX own n ρ ta A n1) (k : IntX own n1 ρ tb C n2) : IntX own n ρ (tOp (rI0 fun i j => .int (f i j)) ta tb) (fun z => ∃ i j, A i ∧ C j ∧ z = f i j) n2 := fun B bx σ H S Q q => h B bx σ H S _ fun d v H1 m p S1 t1 hv => by
  obtain ⟨i, rfl, hA, rfl⟩ := p
  refine k B bx σ H1 S1 _ fun d2 v2 H2 m2 p2 S2 t2 hv2 => ?_
  obtain ⟨j, rfl, hC, rfl⟩ := p2
  rw [hv_int hv, hv_int hv2]
  exact ⟨i, j, rfl, rfl, q _ _ H2 _ ⟨_, rfl, ⟨i, j, hA, hC, rfl⟩, rfl⟩ S2 (fun a xs z => t2 _ _ (t1 _ _ z)) (.int _)⟩
theorem ix_mm {f : Int → Int → Int} {A C : Int → Prop} {n1 n2 : Nat} (h : IntX own n ρ ta A n1) (k : IntX own n1 ρ tb C n2) : IntX own n ρ (tCB (fun xs H Q => ∃ i j, xs = [.int i, .int j] ∧ Q (.int (f i j)) H) (tCons ta (tCons tb tNil))) (fun z => ∃ i j, A i ∧ C j ∧ z = f i j) n2 := fun B bx σ H S Q q => h B bx σ H S _ fun d v H1 m p S1 t1 hv => by
  obtain ⟨i, rfl, hA, rfl⟩ := p
  refine k B bx σ H1 S1 _ fun d2 v2 H2 m2 p2 S2 t2 hv2 => ?_
  obtain ⟨j, rfl, hC, rfl⟩ := p2
  rw [hv_int hv, hv_int hv2]
  exact ⟨i, j, rfl, q _ _ H2 _ ⟨_, rfl, ⟨i, j, hA, hC, rfl⟩, rfl⟩ S2 (fun a xs z => t2 _ _ (t1 _ _ z)) (.int _)⟩
theorem tx_cmp {g : Int → Int → Bool} {A C : Int → Prop} {n1 n2 : Nat} (h : IntX own n ρ ta A n1) (k : IntX own n1 ρ tb C n2) : ETTX own n ρ (tTest (tOp (rI0 fun i j => .bl (g i j)) ta tb)) (fun b m => (∃ i j, A i ∧ C j ∧ b = g i j) ∧ m = n2) := fun B bx σ H S Q q => h B bx σ H S _ fun d v H1 m p S1 t1 hv => by
  obtain ⟨i, rfl, hA, rfl⟩ := p
  refine k B bx σ H1 S1 _ fun d2 v2 H2 m2 p2 S2 t2 hv2 => ?_
  obtain ⟨j, rfl, hC, rfl⟩ := p2
  rw [hv_int hv, hv_int hv2]
  exact ⟨i, j, rfl, rfl, _, rfl, q _ H2 _ ⟨⟨i, j, hA, hC, rfl⟩, rfl⟩ S2 (fun a xs z => t2 _ _ (t1 _ _ z))⟩
theorem tx_eq {A C : Int → Prop} {n1 n2 : Nat} (h : IntX own n ρ ta A n1) (k : IntX own n1 ρ tb C n2) : ETTX own n ρ (tTest (tOp rEq ta tb)) (fun b m => m = n2) := fun B bx σ H S Q q => h B bx σ H S _ fun d v H1 m p S1 t1 hv => by
  obtain ⟨i, rfl, hA, rfl⟩ := p
  refine k B bx σ H1 S1 _ fun d2 v2 H2 m2 p2 S2 t2 hv2 => ?_
  obtain ⟨j, rfl, hC, rfl⟩ := p2
  rw [hv_int hv, hv_int hv2]
  exact ⟨rfl, _, rfl, q _ H2 _ rfl S2 (fun a xs z => t2 _ _ (t1 _ _ z))⟩
theorem tx_or {b : Bool} {n2 : Nat} (h : EB ρ tt b) (k : ETTX own n ρ tu (fun _ m => m = n2)) (l : n ≤ n2) : ETTX own n ρ (tOr tt tu) (fun _ m => m = n2) := fun B bx σ H S Q q => h σ H S.sl _ fun H1 e1 => by
  cases b
  · rw [if_neg Bool.false_ne_true]; exact k B bx σ H1 (S.up e1) Q fun b H' m p S' t' => q b H' m p S' (fun a xs z => t' _ _ (e1 _ _ z))
  · rw [if_pos rfl]; exact q true H1 n2 rfl ((S.up e1).le l) (Ex.tex e1)
theorem ix_if {P : Bool → Nat → Prop} {A : Int → Prop} {n2 : Nat} (h : ETTX own n ρ tt P) (h1 : ∀ m, P true m → IntX own m ρ ta A n2) (h2 : ∀ m, P false m → IntX own m ρ tb A n2) : IntX own n ρ (tIf tt ta tb) A n2 := fun B bx σ H S Q q => h B bx σ H S _ fun b H1 m p S1 t1 => by
  cases b
  · rw [if_neg Bool.false_ne_true]; exact h2 m p B bx σ H1 S1 Q fun d v H' m p S' t' hv => q d v H' m p S' (fun a xs z => t' _ _ (t1 _ _ z)) hv
  · rw [if_pos rfl]; exact h1 m p B bx σ H1 S1 Q fun d v H' m p S' t' hv => q d v H' m p S' (fun a xs z => t' _ _ (t1 _ _ z)) hv
/-- an item of a list in a slot, its place from a box -/
theorem etx_ixV {j : Nat} {ds : List PyData} {A : Int → Prop} {n1 : Nat} (hj : ρ[j]? = some (some (.list ds))) (k : IntX own n ρ tb A n1) (hA : ∀ i, A i → ∃ (m : Nat) (d : PyData), i = (m : Nat) ∧ ds[m]? = some d) : ETX own n ρ (tOp (rIxL K) (tVar j) tb) (fun d m => (∃ i : Nat, ds[i]? = some d) ∧ m = n1) := fun B bx σ H S Q q => by
  obtain ⟨v, e1, _⟩ := S.sl.2 j _ hj
  refine ⟨v, e1, k B bx σ H S _ fun d2 v2 H2 m2 p2 S2 t2 hv2 => ?_⟩
  obtain ⟨i, rfl, hi, rfl⟩ := p2
  obtain ⟨v', e2, e3⟩ := S2.sl.2 j _ hj
  rw [e1] at e2
  cases e2
  obtain ⟨a, xs, rfl, h1, h2⟩ := e3
  obtain ⟨m, d, rfl, hd⟩ := hA i hi
  obtain ⟨x, g1, g2⟩ := h2.get hd
  rw [hv_int hv2]
  exact ⟨a, xs, _, x, rfl, rfl, SqL.of h1, atI_nat g1, q d x H2 _ ⟨⟨m, hd⟩, rfl⟩ S2 t2 g2.hv⟩
/-- a pair of two ints -/
theorem etx_pairI {A C : Int → Prop} {n1 n2 : Nat} (h : IntX own n ρ ta A n1) (k : IntX own n1 ρ tb C n2) : ETX own n ρ (tTup (tCons ta (tCons tb tNil))) (fun d m => ∃ i j, d = .tuple [.int i, .int j] ∧ A i ∧ C j ∧ m = n2) := fun B bx σ H S Q q => h B bx σ H S _ fun d v H1 m p S1 t1 hv => by
  obtain ⟨i, rfl, hA, rfl⟩ := p
  refine k B bx σ H1 S1 _ fun d2 v2 H2 m2 p2 S2 t2 hv2 => ?_
  obtain ⟨j, rfl, hC, rfl⟩ := p2
  rw [hv_int hv, hv_int hv2]
  refine ⟨by show 2 ≤ sizeLine; decide, fun t hn => ?_⟩
  have e : Ex H2 (upd H2 t (.tup [.int i, .int j])) := Evl.Ex.new hn
  exact q _ _ _ _ ⟨i, j, rfl, hA, hC, rfl⟩ (S2.up e) (fun a xs z => e _ _ (t2 _ _ (t1 _ _ z))) (.tup upd_same (.cons (.int _) (.cons (.int _) .nil)))
/-- statements -/
theorem ox_ret {Po : PyData → Nat → Prop} (h : ETX own n ρ te Po) (k : ∀ d m, Po d m → R d m) : OX own n ρ (tRet te) N R := fun B bx σ H S D nx r => h B bx σ H S _ fun d v H' m p S' _ hv => r d v H' m (k d m p) S'.ex S'.bx hv
theorem ox_nx (h : N ρ n) : OX own n ρ tNext N R := fun B bx σ H S D nx r => nx ρ σ H n h S
theorem StX.set {B : Hp} {bx : Addr} {σ : L2.St} {H : Hp} {v : V} {d : PyData} (S : StX B bx own n ρ σ H) {i : Nat} (hv : Hv H v d) (h0 : i ≠ 0) (hi : i ∉ own) : StX B bx own n (ρ.set i (some d)) (σ.set i (some v)) H := ⟨S.ex, S.nb, S.sl.set i hv, by rw [List.getElem?_set_ne h0]; exact S.b0, S.bx, fun j hj a ha => by
  rw [List.getElem?_set_ne fun w => hi (by rw [w]; exact hj)] at ha
  exact S.own j hj a ha⟩
theorem ox_asg {i : Nat} {Po : PyData → Nat → Prop} (h : ETX own n ρ te Po) (h0 : i ≠ 0) (hi : i ∉ own) (k : ∀ d m, Po d m → N (ρ.set i (some d)) m) : OX own n ρ (tAsg te (gName i)) N R := fun B bx σ H S D nx r =>
  h B bx σ H S _ fun d v H' m p S' _ hv => nx _ _ H' m (k d m p) (S'.set hv h0 hi)
theorem ox_let {i : Nat} {Po : PyData → Nat → Prop} (h : ETX own n ρ te Po) (h0 : i ≠ 0) (hi : i ∉ own) (k : ∀ d m, Po d m → OX own m (ρ.set i (some d)) u N R) : OX own n ρ (tSeq (tAsg te (gName i)) u) N R := fun B bx σ H S D nx r =>
  h B bx σ H S _ fun d v H' m p S' _ hv => k d m p B bx _ H' (S'.set hv h0 hi) D nx r
/-- a new list into an own slot -/
theorem ox_letF {i : Nat} {ds : List PyData} (h : ETF ρ te ds) (h0 : i ≠ 0) (k : OX own n (ρ.set i (some (.list ds))) u N R) : OX own n ρ (tSeq (tAsg te (gName i)) u) N R := fun B bx σ H S D nx r =>
  h σ H S.sl _ fun p xs H' hp e h1 h2 => k B bx _ H' ⟨S.ex.trans e, S.nb, (S.sl.up e).set i ⟨p, xs, rfl, h1, h2⟩, by rw [List.getElem?_set_ne h0]; exact S.b0, S.bx.up e, fun j hj a ha => by
    by_cases w : i = j
    · subst w
      by_cases hl : i < σ.length
      · rw [List.getElem?_set_self hl] at ha
        cases ha
        refine ⟨?_, S.bx.ne hp⟩
        cases hB : B p with
        | none => rfl
        | some o => rw [S.ex _ _ hB] at hp; cases hp
      · rw [List.getElem?_eq_none (by simpa using hl)] at ha; cases ha
    · rw [List.getElem?_set_ne w] at ha
      exact S.own j hj a ha⟩ D nx r
theorem ox_seq (h : OX own n ρ t M R) (k : ∀ ρ' m, M ρ' m → OX own m ρ' u N R) : OX own n ρ (tSeq t u) N R := fun B bx σ H S D nx r =>
  h B bx σ H S { D with nx := u D } (fun ρ' σ' H' m p S' => k ρ' m p B bx σ' H' S' D nx r) r
theorem ox_if {Po : Bool → Nat → Prop} (h : ETTX own n ρ tt Po) (h1 : ∀ m, Po true m → OX own m ρ t N R) (h2 : ∀ m, Po false m → OX own m ρ u N R) : OX own n ρ (tIfS tt t u) N R := fun B bx σ H S D nx r => h B bx σ H S _ fun b H1 m p S1 _ => by
  cases b
  · rw [if_neg Bool.false_ne_true]; exact h2 m p B bx σ H1 S1 D nx r
  · rw [if_pos rfl]; exact h1 m p B bx σ H1 S1 D nx r
theorem ox_ifr {b : Bool} (h : EB ρ tt b) (h1 : b = true → OX own n ρ t (fun _ _ => False) R) (h2 : b = false → OX own n ρ u N R) : OX own n ρ (tSeq (tIfS tt t tNext) u) N R :=
  ox_seq (M := fun ρ' m => ρ' = ρ ∧ m = n ∧ b = false) (ox_if h.x (fun m p => by
    obtain ⟨rfl, rfl⟩ := p
    exact fun B bx σ H S D nx r => h1 rfl B bx σ H S D (fun _ _ _ _ z => z.elim) r) fun m p => by
    obtain ⟨rfl, rfl⟩ := p
    exact ox_nx ⟨rfl, rfl, rfl⟩) fun ρ' m p => by
    obtain ⟨rfl, rfl, e⟩ := p
    exact h2 e
theorem OX.weak {ρ' : Env} (h : OX own n ρ' t N R) (l : Le ρ ρ') : OX own n ρ t N R := fun B bx σ H S D nx r => h B bx σ H ⟨S.ex, S.nb, S.sl.weak l, S.b0, S.bx, S.own⟩ D nx r
theorem OX.le {m : Nat} (h : OX own m ρ t N R) (l : n ≤ m) : OX own n ρ t N R := fun B bx σ H S D nx r => h B bx σ H ⟨S.ex, S.nb, S.sl, S.b0, S.bx.le l, S.own⟩ D nx r
/-- a pair of names -/
theorem ox_let2 {i j : Nat} {P1 P2 : PyData → Nat → Prop} (h : ETX own n ρ ta P1) (nl : ∀ d m, P1 d m → NoL d) (k : ∀ d m, P1 d m → ETX own m ρ tb P2) (hi : i ≠ 0) (hj : j ≠ 0) (oi : i ∉ own) (oj : j ∉ own) (q : ∀ d m e m', P1 d m → P2 e m' → OX own m' ((ρ.set i (some d)).set j (some e)) u N R) :
    OX own n ρ (tSeq (tPar i j (tCons ta (tCons tb tNil))) u) N R := fun B bx σ H S D nx r => h B bx σ H S _ fun d v H1 m p S1 _ hv => k d m p B bx σ H1 S1 _ fun e w H2 m' p' S2 t2 hw =>
  ⟨v, w, rfl, q d m e m' p p' B bx _ H2 ((S2.set ((nl d m p _ _ hv).mono t2).hv hi oi).set hw hj oj) D nx r⟩
/-- a name and a new list -/
theorem ox_let2F {i j : Nat} {P1 : PyData → Nat → Prop} {ds : List PyData} (h : ETX own n ρ ta P1) (nl : ∀ d m, P1 d m → NoL d) (k : ETF ρ tb ds) (hi : i ≠ 0) (hj : j ≠ 0) (oi : i ∉ own) (q : ∀ d m, P1 d m → OX own m ((ρ.set i (some d)).set j (some (.list ds))) u N R) :
    OX own n ρ (tSeq (tPar i j (tCons ta (tCons tb tNil))) u) N R := fun B bx σ H S D nx r => h B bx σ H S _ fun d v H1 m p S1 _ hv => k σ H1 S1.sl _ fun a xs H2 hp e h1 h2 => by
  refine ⟨v, .ref a, rfl, ?_⟩
  have S2 := (S1.up e).set ((nl d m p _ _ hv).mono (Ex.tex e)).hv hi oi
  refine q d m p B bx _ H2 ⟨S2.ex, S2.nb, S2.sl.set j ⟨a, xs, rfl, h1, h2⟩, by rw [List.getElem?_set_ne hj]; exact S2.b0, S2.bx, fun j' hj' a' ha => ?_⟩ D nx r
  by_cases w : j = j'
  · subst w
    by_cases hl : j < (σ.set i (some v)).length
    · rw [List.getElem?_set_self hl] at ha
      cases ha
      refine ⟨?_, S1.bx.ne hp⟩
      cases hB : B a with
      | none => rfl
      | some o => rw [S1.ex _ _ hB] at hp; cases hp
    · rw [List.getElem?_eq_none (by simpa using hl)] at ha; cases ha
  · rw [List.getElem?_set_ne w] at ha
    exact S2.own j' hj' a' ha
/-- a walk that no heap disturbs -/
def ITG (ρ : Env) (wi : TI) (l : List PyData) : Prop := ∀ σ H, Sl σ H ρ → ∀ R : It → Hp → Prop, (∀ J H', Ex H H' → (∀ H0, Good J l H0) → R J H') → wi σ H R
theorem itg_range1 {k : Int} (h : ET ρ te (.int k)) (hn : -1000 ≤ k ∧ k ≤ 1000) : ITG ρ (iRng1 (tCons te tNil)) (rngD 0 k.toNat) := fun σ H S R r => ea1 h σ H S _ fun vs H1 e1 h1 => by
  obtain ⟨v, rfl, h2⟩ := hv1 h1
  rw [hv_int h2]
  exact ⟨k, rfl, by omega, by omega, r _ H1 e1 fun H0 => good_range _ _ _⟩
theorem ITG.is {wi : TI} {l l' : List PyData} (h : ITG ρ wi l) (e : l = l') : ITG ρ wi l' := e ▸ h
/-- the loop from the base B1 -/
theorem ox_loop {ι : Type} {j : Nat} {l : List PyData} {Jt : It} (J : ι → Env) (Pi : Nat → ι → Nat → Prop) (x0 : ι) (h0 : Pi 0 x0 n) (l0 : Le ρ (J x0)) (j0 : j ≠ 0) (oj : j ∉ own)
    (hs : ∀ (i : Nat) (d : PyData) (x : ι) (m : Nat), l[i]? = some d → Pi i x m → Ap d ∧ NoL d ∧ OX own m ((J x).set j (some d)) t (fun ρ' m' => ∃ y, Pi (i + 1) y m' ∧ Le ρ' (J y)) R) (hd : ∀ x m, Pi l.length x m → OX own m (J x) u N R)
    {B B1 : Hp} {bx : Addr} {σ : L2.St} {H : Hp} {D : Ends} (hB : Ex B B1) (S : StX B1 bx own n ρ σ H) (good : Good Jt l B1) (nx : ∀ ρ' σ' H' m, N ρ' m → StX B bx own m ρ' σ' H' → D.nx σ' H') (r : ∀ d v H' m, R d m → Ex B H' → BxL H' bx m → Hv H' v d → D.rt v H') :
    ∃ W : Nat → Nat → L2.St → Hp → Prop, (∃ m, W 0 m σ H) ∧ ∀ i m σ H, W i m σ H →
      (Jt.stop i H ∧ u D σ H) ∨ (Jt.go i H ∧ ∃ N : L2.St → Hp → Prop, (∀ σ' H', N σ' H' → ∃ m', m' < m ∧ W (i + 1) m' σ' H') ∧ ∀ x H', Jt.yld i H x H' → gName j x σ H' fun σ2 H2 => t { nx := N, rt := D.rt, bk := u D, ct := N } σ2 H2) := by
  have back : ∀ {ρ' : Env} {m : Nat} {σ' : L2.St} {H' : Hp}, StX B1 bx own m ρ' σ' H' → StX B bx own m ρ' σ' H' := fun {ρ' m σ' H'} S' => ⟨hB.trans S'.ex, none_back hB S'.nb, S'.sl, S'.b0, S'.bx, fun j hj a ha => ⟨none_back hB (S'.own j hj a ha).1, (S'.own j hj a ha).2⟩⟩
  refine ⟨fun i m σ' H' => m = l.length - i ∧ i ≤ l.length ∧ ∃ x k, Pi i x k ∧ StX B1 bx own k (J x) σ' H', ⟨l.length, by simp, Nat.zero_le _, x0, n, h0, ⟨S.ex, S.nb, S.sl.weak l0, S.b0, S.bx, S.own⟩⟩, ?_⟩
  rintro i m σ' H' ⟨rfl, hi, x, k, hx, S'⟩
  obtain ⟨st, go⟩ := good H' S'.ex
  by_cases hlt : i < l.length
  · obtain ⟨d, hdd⟩ : ∃ d, l[i]? = some d := ⟨_, List.getElem?_eq_getElem hlt⟩
    obtain ⟨g1, g2⟩ := go i d hdd
    obtain ⟨a1, a2, a3⟩ := hs i d x k hdd hx
    refine .inr ⟨g1, fun σ2 H2 => ∃ y k', Pi (i + 1) y k' ∧ StX B1 bx own k' (J y) σ2 H2, fun σ2 H2 n => ⟨l.length - (i + 1), by omega, rfl, hlt, n⟩, fun v H2 y => ?_⟩
    obtain ⟨e2, hv⟩ := g2 v H2 y
    refine a3 B1 bx _ H2 ((S'.up e2).set hv j0 oj) _ (fun ρ4 σ4 H4 k4 iv S4 => ?_) fun d v H5 q p5 e5 hb hv => r d v H5 q p5 (hB.trans e5) hb hv
    obtain ⟨y, h1, h2⟩ := iv
    exact ⟨y, k4, h1, S4.ex, S4.nb, S4.sl.weak h2, S4.b0, S4.bx, S4.own⟩
  · have e : i = l.length := by omega
    subst e
    exact .inl ⟨st, hd x k hx B bx σ' H' (back S') D nx r⟩
theorem ox_forG {ι : Type} {wi : TI} {j : Nat} {l : List PyData} (J : ι → Env) (Pi : Nat → ι → Nat → Prop) (hI : ITG ρ wi l) (x0 : ι) (h0 : Pi 0 x0 n) (l0 : Le ρ (J x0)) (j0 : j ≠ 0) (oj : j ∉ own)
    (hs : ∀ (i : Nat) (d : PyData) (x : ι) (m : Nat), l[i]? = some d → Pi i x m → Ap d ∧ NoL d ∧ OX own m ((J x).set j (some d)) t (fun ρ' m' => ∃ y, Pi (i + 1) y m' ∧ Le ρ' (J y)) R) (hd : ∀ x m, Pi l.length x m → OX own m (J x) u N R) : OX own n ρ (tSeq (tFor wi (gName j) t) u) N R := fun B bx σ H S D nx r =>
  hI σ H S.sl _ fun Jt H1 e1 good => ox_loop J Pi x0 h0 l0 j0 oj hs hd (fun _ _ z => z) (S.up e1) (good B) nx r
/-- the base with a list and all tuples -/
def reB (B H : Hp) (a : Addr) : Hp := fun x => match B x with
  | some o => some o
  | none => match H x with
    | some (.tup xs) => some (.tup xs)
    | o => if x = a then o else none
theorem reB_of {B H : Hp} {a : Addr} (e : Ex B H) : Ex B (reB B H a) ∧ Ex (reB B H a) H := by
  refine ⟨fun x o h => by unfold reB; rw [h], fun x o h => ?_⟩
  unfold reB at h
  cases hB : B x with
  | some o' => rw [hB] at h; rw [e _ _ hB]; exact h
  | none =>
    rw [hB] at h
    cases hH : H x with
    | none => rw [hH] at h; simp at h
    | some u =>
      rw [hH] at h
      cases u <;> first | exact h | (by_cases w : x = a <;> simp [w] at h <;> exact congrArg some h)
theorem reB_tex {B H : Hp} {a : Addr} (e : Ex B H) : TEx H (reB B H a) := fun x xs h => by
  unfold reB
  cases hB : B x with
  | some o' => have := e _ _ hB; rw [h] at this; exact this.symm
  | none => rw [h]
theorem reB_at {B H : Hp} {a : Addr} (e : Ex B H) : reB B H a a = H a := by
  unfold reB
  cases hB : B a with
  | some o' => exact (e _ _ hB).symm
  | none =>
    cases hH : H a with
    | none => simp
    | some u => cases u <;> simp
theorem reB_none {B H : Hp} {a x : Addr} (h1 : B x = none) (h2 : x ≠ a) (h3 : ∀ xs, H x ≠ some (.tup xs)) : reB B H a x = none := by
  unfold reB
  rw [h1]
  cases hH : H x with
  | none => simp
  | some u => cases u <;> first | exact absurd hH (h3 _) | simp [h2]
/-- over a list of windows; the own slot holds an empty list -/
theorem ox_forL {ι : Type} {j jo : Nat} {ws : List Win} (J : ι → Env) (Pi : Nat → ι → Nat → Prop) (hI : ET ρ te (.list (ws.map winD))) (hne : ws ≠ []) (hown : own = [jo]) (ho : ρ[jo]? = some (some (.list []))) (x0 : ι) (h0 : Pi 0 x0 n) (l0 : Le ρ (J x0)) (j0 : j ≠ 0) (oj : j ∉ own)
    (hs : ∀ (i : Nat) (d : PyData) (x : ι) (m : Nat), (ws.map winD)[i]? = some d → Pi i x m → Ap d ∧ NoL d ∧ OX own m ((J x).set j (some d)) t (fun ρ' m' => ∃ y, Pi (i + 1) y m' ∧ Le ρ' (J y)) R) (hd : ∀ x m, Pi (ws.map winD).length x m → OX own m (J x) u N R) : OX own n ρ (tSeq (tFor (iList K te) (gName j) t) u) N R := fun B bx σ H S D nx r =>
  hI σ H S.sl _ fun v H1 e1 hv => by
    obtain ⟨a, xs, rfl, k1, k2⟩ := hv
    have S1 := S.up e1
    obtain ⟨r1, r2⟩ := reB_of (a := a) S1.ex
    have hxs : xs.length ≠ 0 := fun z => hne (List.eq_nil_of_length_eq_zero (by have := k2.len; rw [List.length_map] at this; omega))
    refine ⟨a, rfl, ⟨xs, SqL.of k1⟩, ox_loop J Pi x0 h0 l0 j0 oj hs hd r1 (B1 := reB B H1 a) ⟨r2, reB_none S1.nb (fun z => ?_) (fun ys z => ?_), S1.sl, S1.b0, S1.bx, fun j' hj' a' ha' => ?_⟩ (good_list (by rw [reB_at S1.ex]; exact k1) (k2.mono (reB_tex S1.ex))) nx r⟩
    · obtain ⟨x, y, z', q1, _⟩ := S1.bx
      rw [z, k1] at q1
      cases q1
      cases ws with
      | nil => exact hne rfl
      | cons w ws =>
        cases k2 with
        | cons t1 _ => cases t1
    · obtain ⟨x, y, z', q1, _⟩ := S1.bx
      rw [z] at q1
      cases q1
    · have e := S1.own j' hj' a' ha'
      rw [hown, List.mem_singleton] at hj'
      subst hj'
      obtain ⟨v2, q2, q3⟩ := S1.sl.2 j' _ ho
      rw [ha'] at q2
      cases q2
      obtain ⟨a2, xs2, q4, q5, q6⟩ := q3
      cases q4
      refine ⟨reB_none e.1 (fun z => ?_) fun ys z => ?_, e.2⟩
      · rw [z, k1] at q5
        cases q5
        exact hxs q6.len
      · rw [z] at q5; cases q5
/-- over a tuple; the own slots hold dicts -/
theorem ox_forT {ι : Type} {l : List PyData} {vs : List Nat} {g : TG} (J : ι → Env) (Pi : Nat → ι → Nat → Prop) (hI : ET ρ te (.tuple l)) (hk : ∀ j ∈ own, ∃ l : List Er, ρ[j]? = some (some (dictD l))) (x0 : ι) (h0 : Pi 0 x0 n) (l0 : Le ρ (J x0)) (hv0 : 0 ∉ vs) (hvo : ∀ j ∈ own, j ∉ vs)
    (hs : ∀ (i : Nat) (d : PyData) (x : ι) (m : Nat), l[i]? = some d → Pi i x m → ∃ ρ2, EG vs g d (J x) ρ2 ∧ OX own m ρ2 t (fun ρ' m' => ∃ y, Pi (i + 1) y m' ∧ Le ρ' (J y)) R) (hd : ∀ x m, Pi l.length x m → N (J x) m) : OX own n ρ (tFor (iTup K te) g t) N R := fun B bx σ H S D nx r =>
  hI σ H S.sl _ fun v H1 e1 hv => by
    cases (show Tp H1 v (.tuple l) from hv) with
    | @tup a xs _ k1 k2 =>
    have S1 := S.up e1
    obtain ⟨r1, r2⟩ := reB_of (a := a) S1.ex
    have tx := reB_tex (a := a) S1.ex
    have back : ∀ {ρ' : Env} {m : Nat} {σ' : L2.St} {H' : Hp}, StX (reB B H1 a) bx own m ρ' σ' H' → StX B bx own m ρ' σ' H' := fun {ρ' m σ' H'} S' => ⟨r1.trans S'.ex, S.nb, S'.sl, S'.b0, S'.bx, fun j hj a ha => ⟨none_back r1 (S'.own j hj a ha).1, (S'.own j hj a ha).2⟩⟩
    have S2 : StX (reB B H1 a) bx own n (J x0) σ H1 := ⟨r2, reB_none S1.nb (fun z => by
      obtain ⟨x, y, z', q1, _⟩ := S1.bx
      rw [z, k1] at q1; cases q1) (fun ys z => by
      obtain ⟨x, y, z', q1, _⟩ := S1.bx
      rw [z] at q1; cases q1), S1.sl.weak l0, S1.b0, S1.bx, fun j' hj' a' ha' => by
      obtain ⟨l', hl'⟩ := hk j' hj'
      obtain ⟨v2, q2, q3⟩ := S1.sl.2 j' _ hl'
      rw [ha'] at q2
      cases q2
      have q4 := hv_rows q3
      refine ⟨reB_none (S1.own j' hj' a' ha').1 (fun z => ?_) fun ys z => ?_, (S1.own j' hj' a' ha').2⟩
      · rw [z, k1] at q4; cases q4
      · rw [z] at q4; cases q4⟩
    have good : Good (Itt K a) l (reB B H1 a) := good_tup (tx _ _ k1) (k2.mono tx)
    refine ⟨a, rfl, ⟨xs, SqT.of k1⟩, fun i m σ' H' => m = l.length - i ∧ i ≤ l.length ∧ ∃ x k, Pi i x k ∧ StX (reB B H1 a) bx own k (J x) σ' H', ⟨l.length, by simp, Nat.zero_le _, x0, n, h0, S2⟩, ?_⟩
    rintro i m σ' H' ⟨rfl, hi, x, k, hx, S'⟩
    obtain ⟨st, go⟩ := good H' S'.ex
    by_cases hlt : i < l.length
    · obtain ⟨d, hdd⟩ : ∃ d, l[i]? = some d := ⟨_, List.getElem?_eq_getElem hlt⟩
      obtain ⟨g1, g2⟩ := go i d hdd
      obtain ⟨ρ2, a1, a3⟩ := hs i d x k hdd hx
      refine .inr ⟨g1, fun σ2 H2 => ∃ y k', Pi (i + 1) y k' ∧ StX (reB B H1 a) bx own k' (J y) σ2 H2, fun σ2 H2 n => ⟨l.length - (i + 1), by omega, rfl, hlt, n⟩, fun v H2 y => ?_⟩
      obtain ⟨e2, hv⟩ := g2 v H2 y
      have S3 := S'.up e2
      refine a1 σ' H2 v S3.sl hv _ fun σ3 S4 w3 => ?_
      refine a3 (reB B H1 a) bx σ3 H2 ⟨S3.ex, S3.nb, S4, (keep_at w3 hv0).trans S3.b0, S3.bx, fun j hj a ha => S3.own j hj a ((keep_at w3 (hvo j hj)).symm.trans ha)⟩ _ (fun ρ4 σ4 H4 k4 iv S4 => ?_) fun d v H5 q p5 e5 hb hv => r d v H5 q p5 (r1.trans e5) hb hv
      obtain ⟨y, h1, h2⟩ := iv
      exact ⟨y, k4, h1, S4.ex, S4.nb, S4.sl.weak h2, S4.b0, S4.bx, S4.own⟩
    · have e : i = l.length := by omega
      subst e
      exact .inl ⟨st, nx _ σ' H' k (hd x k hx) (back S')⟩
/-- found.append(..), found an own slot -/
theorem ox_append {j : Nat} {ds : List PyData} {Po : PyData → Nat → Prop} {W : PySem.W.Frag} (hj : ρ[j]? = some (some (.list ds))) (oj : j ∈ own) (ho : NoE (ρ.set j none)) (h : ETX own n ρ te Po) (hn : ∀ d m, Po d m → NoL d) (few : ds.length ≤ 900) (k : ∀ d m, Po d m → N (ρ.set j (some (.list (ds ++ [d])))) m) : OX own n ρ (tDrop (tBM W "list" rAppend (tVar j) (tCons te tNil))) N R := fun B bx σ H S D nx r => by
  obtain ⟨v, q1, q2⟩ := S.sl.2 j _ hj
  obtain ⟨a, xs0, rfl, k1, _⟩ := q2
  refine ⟨_, q1, .inl ⟨rfl, _, SqL.of k1⟩, ?_⟩
  refine h B bx σ H S _ fun d w H1 m p S1 t1 hw => ?_
  obtain ⟨v', q3, q4⟩ := S1.sl.2 j _ hj
  rw [q1] at q3
  cases q3
  obtain ⟨a', xs, e, k2, k3⟩ := q4
  cases e
  have hB := (S1.own j oj a q1).1
  refine ⟨a, xs, w, rfl, rfl, k2, small1000 (by rw [k3.len]; omega), ?_⟩
  have up : TEx H1 (upd H1 a (.lst (xs ++ [w]))) := fun b ys hb => by
    rw [upd_ne (ne_of hb k2 (fun z => nomatch z))]
    exact hb
  have hab : a ≠ bx := (S1.own j oj a q1).2
  refine nx _ σ _ m (k d m p) ⟨S1.ex.mut hB, S1.nb, ⟨?_, fun i d' q => ?_⟩, S1.b0, ?_, S1.own⟩
  · rw [List.length_set]; exact S1.sl.1
  · by_cases w' : j = i
    · subst w'
      rw [List.getElem?_set_self (List.getElem?_eq_some_iff.mp hj).1] at q
      cases q
      exact ⟨_, q1, a, xs ++ [w], rfl, upd_same, (k3.mono up).snoc ((hn d m p _ _ hw).mono up)⟩
    · rw [List.getElem?_set_ne w'] at q
      obtain ⟨v2, h1, h2⟩ := S1.sl.2 i d' q
      have nl : NoL d' := noE ho i d' (by rw [List.getElem?_set_ne w']; exact q)
      exact ⟨v2, h1, ((nl _ _ h2).mono up).hv⟩
  · obtain ⟨x, y, z, b1, b2⟩ := S1.bx
    exact ⟨x, y, z, by rw [upd_ne (Ne.symm hab)]; exact b1, b2⟩
/-- table[w] = x, table an own slot -/
theorem ox_dput {j : Nat} {l : List Er} {w : Win} {A : Int → Prop} {n1 : Nat} {tv ty : TE} (hj : ρ[j]? = some (some (dictD l))) (oj : j ∈ own) (ho : ∀ (i : Nat) (d : PyData), (ρ.set j none)[i]? = some (some d) → NoL d ∨ ∃ ds, d = .list ds) (few : l.length ≤ 900) (h : IntX own n ρ tv A n1) (hw : ET ρ ty (winD w)) (k : ∀ x, A x → N (ρ.set j (some (dictD (putE l w x)))) n1) : OX own n ρ (sDPut (tVar j) ty tv) N R := fun B bx σ H S D nx r =>
  h B bx σ H S _ fun d v H1 m p S1 t1 hv => by
    obtain ⟨x, rfl, hA, rfl⟩ := p
    rw [hv_int hv]
    obtain ⟨v0, q1, q2⟩ := S1.sl.2 j _ hj
    refine ⟨_, q1, hw σ H1 S1.sl _ fun v2 H2 e2 hv2 => ?_⟩
    have S2 := S1.up e2
    obtain ⟨a, e3⟩ : ∃ a, v0 = .ref a := by obtain ⟨a, e, _⟩ := q2; exact ⟨a, e⟩
    subst e3
    have q3 := e2 _ _ (hv_rows q2)
    have hB := (S2.own j oj a q1).1
    cases (show Tp H2 v2 (winD w) from hv2) with
    | @tup b ys _ q4 q5 =>
    have : ys = [V.int (w.1 : Nat), V.int (w.2 : Nat)] := TpAll.ints (ns := [(w.1 : Int), (w.2 : Int)]) q5
    rw [this] at q4
    refine ⟨a, _, rfl, DPut.t (k := winK w) q3 q4 (by rw [List.length_map]; exact small1000 (by omega)), ?_⟩
    rw [put_rows]
    have hkeep : ∀ c o, H2 c = some o → (∀ kvs, o ≠ .dT kvs) → (upd H2 a (.dT ((putE l w x).map rowE))) c = some o := fun c o hc ho => by
      rw [upd_ne fun z => by rw [z, q3] at hc; cases hc; exact ho _ rfl]
      exact hc
    have up : TEx H2 (upd H2 a (.dT ((putE l w x).map rowE))) := fun c zs hc => hkeep c _ hc fun _ z => nomatch z
    refine nx _ σ _ _ (k x hA) ⟨S2.ex.mut hB, S2.nb, ⟨?_, fun i d' q => ?_⟩, S2.b0, ?_, S2.own⟩
    · rw [List.length_set]; exact S2.sl.1
    · by_cases w' : j = i
      · subst w'
        rw [List.getElem?_set_self (List.getElem?_eq_some_iff.mp hj).1] at q
        cases q
        exact ⟨_, q1, a, rfl, by rw [dict_rows]; exact upd_same⟩
      · rw [List.getElem?_set_ne w'] at q
        obtain ⟨v3, h1, h2⟩ := S2.sl.2 i d' q
        refine ⟨v3, h1, ?_⟩
        rcases ho i d' (by rw [List.getElem?_set_ne w']; exact q) with nl | ⟨ds, rfl⟩
        · exact ((nl _ _ h2).mono up).hv
        · obtain ⟨c, zs, rfl, z1, z2⟩ := h2
          exact ⟨c, zs, rfl, hkeep c _ z1 (fun _ z => nomatch z), z2.mono up⟩
    · obtain ⟨x', y', z', b1, b2⟩ := S2.bx
      exact ⟨x', y', z', hkeep _ _ b1 (fun _ z => nomatch z), b2⟩
end
end K68
namespace K68
open PySem PySem.Spec PyProof.Rows L2
open Evl (Ex)
theorem spB_len {Rb : List PyData → Nat → (PyData → Nat → Prop) → Prop} {k : Nat} (len : ∀ ds n Po, Rb ds n Po → ds.length + 1 = k) : ∀ vs H Q E, spB Rb vs H Q E → vs.length = k := fun vs H Q E h => by
  obtain ⟨bx, us, ds, n, Po, rfl, h1, _, h2, _⟩ := h
  have := h1.len
  have := len ds n Po h2
  simp
  omega
section
variable {P : Program} {w : World} {K : PySem.W.Frag} {mg : Str → Option Value} {base : Heap}
theorem cal_ofB {x : Str} {params : Arguments} {body : List Stmt} {scope : Scope} {f : Addr} {fd : FuncData} {N ps : List Str} {k : Nat} {Rb : List PyData → Nat → (PyData → Nat → Prop) → Prop} (own : List Nat) (F : FunD K x x params body scope [] [] f fd) (hm : mg x = some (.ref f)) (S : FnScope N ps scope)
    (hb : ∀ (kV doc pm : Value) (an : Option Addr) (cdv ct : Value) (us : List Value), us.length = ps.length → bindArgs (PySem.W.fnOf x x params body scope .none kV doc pm an cdv ct) ⟨us, []⟩ = pure (ps.zip us))
    (len : ∀ ds n Po, Rb ds n Po → ds.length + 1 = ps.length) (ho : ∀ j ∈ own, ps.length ≤ j)
    (hbody : ∀ (cdv : Value) (A : Around) (outer : List PySem.Env) (s : Shared) (H : Hp) (E : XK), Room k (A.deeper (envOfC x scope s.heap.objs.size f cdv)) →
      ∃ t, PSs (cxOf C8.CX0 P w K mg base N x scope f cdv A outer s H E).nox body t ∧ ∀ ds n Po, Rb ds n Po → OX own n (none :: env0 (N.length - 1) ds) t (fun _ m => Po .none m) Po) : C8.Cal P w K mg base (k + 1) x (spB Rb) [] :=
  cal_raw F hm S hb (spB_len len) fun cdv A outer s H vs Q E hr hsp => by
      obtain ⟨bx, us, ds, n, Po, rfl, h1, h2, h3, q⟩ := hsp
      obtain ⟨t, p, o⟩ := hbody cdv A outer s H E hr
      have hl : ds.length + 1 ≤ N.length := by
        rw [len ds n Po h3, ← S.pre, List.length_take]
        exact Nat.min_le_right ..
      have hul := h1.len
      have hsl : L2.start N (.ref bx :: us) = some (.ref bx) :: (us.map some ++ List.replicate (N.length - 1 - us.length) none) := by
        unfold L2.start
        rw [List.map_cons, List.cons_append, List.length_cons, show N.length - (us.length + 1) = N.length - 1 - us.length by omega]
      have hst : Sl (L2.start N (.ref bx :: us)) H (none :: env0 (N.length - 1) ds) := by
        have h0 : Sl (us.map some ++ List.replicate (N.length - 1 - us.length) none) H (env0 (N.length - 1) ds) := by
          have := sl_start (N := N.tail) h1 (by rw [List.length_tail]; omega)
          unfold L2.start at this
          rw [List.length_tail] at this
          exact this
        rw [hsl]
        refine ⟨by rw [List.length_cons, List.length_cons, h0.1], fun i d e => ?_⟩
        cases i with
        | zero => cases e
        | succ i =>
          obtain ⟨v, a1, a2⟩ := h0.2 i d (by simpa using e)
          exact ⟨v, by simpa using a1, a2⟩
      refine ⟨t, p, o ds n Po h3 (rm H bx) bx _ H ⟨ex_rm H bx, rm_self H bx, hst, by rw [hsl]; rfl, h2, fun j hj a ha => ?_⟩ _ (fun ρ' σ' H' m n' S' => q .none .non H' m n' S'.ex S'.bx .non) fun d v H' m n' e hb hv => q d v H' m n' e hb hv⟩
      exfalso
      have hj' := ho j hj
      have hjl := len ds n Po h3
      rw [hsl] at ha
      cases j with
      | zero => omega
      | succ j =>
        rw [List.getElem?_cons_succ, List.getElem?_append_right (by simp; omega), List.getElem?_replicate] at ha
        split at ha <;> cases ha
end
end K68

namespace K68
open PySem PySem.Spec PyProof.Rows L2
open Evl (Ex)
section
variable {ρ : Env} {ta tb te : TE} {K : PySem.W.Frag}
theorem etf_lst {ta : TA} {ds : List PyData} (h : EA ρ ta ds) (hn : NoLs ds) (hl : ds.length ≤ 1000) : ETF ρ (tLst ta) ds := fun σ H S Q q => h σ H S _ fun vs H1 e1 hv => ⟨by rw [hv.len]; exact small1k hl, fun p hp => by
  have e2 : Ex H1 (upd H1 p (.lst vs)) := Evl.Ex.new hp
  exact q p vs _ (none_back e1 hp) (e1.trans e2) upd_same ((hv.tp hn).mono (Ex.tex e2))⟩
end
def cellOf (ns : List Int) (k : Nat) : Int := if k < ns.length then ns.getD k 0 else 0
def ab (i : Int) : Int := if i < 0 then -i else i
def boxA (x : Int) : Int := ab x * (if decide ((10 : Int) ^ (18 : Int).toNat ≤ ab x) then 1 else 0)
def boxB (x : Int) (k : Nat) : Int := x % 2305843009213693951 + 39373 * (k : Nat) + 70684
def R__law_box (ds : List PyData) (d : PyData) : Prop := ∃ (ns : List Int) (k : Nat), ds = [.list (ns.map .int), .int (k : Nat)] ∧ ns.length ≤ 1000 ∧ k ≤ 1000 ∧ d = .list [.int (boxA (cellOf ns k)), .int (boxB (cellOf ns k) k), .int 0]
abbrev N__law_box : List Str := ["_law_script", "_law_k", "_law_cell"]
theorem sc__law_box : FnScope N__law_box ["_law_script", "_law_k"] (defScope s__law_box) := ⟨rfl, rfl, rfl, by decide +kernel, rfl, by decide +kernel, by decide +kernel⟩
/- slots: 0:_law_script 1:_law_k 2:_law_cell ; cells:  ; callees:  -/
theorem w__law_box {P : Program} {w : World} {K : PySem.W.Frag} {mg : Str → Option Value} {base : Heap} {f : Addr} {fd : FuncData} (T : Bn mg) (F : FunD K "_law_box" "_law_box" (defArgs s__law_box) (defBody s__law_box) (defScope s__law_box) [] [] f fd) (hm : mg "_law_box" = some (.ref f)) : C8.Cal P w K mg base 1 "_law_box" (spF R__law_box) [] := by
  refine cal_raw (N := N__law_box) (ps := ["_law_script", "_law_k"]) F hm sc__law_box (fun kV doc pm an cdv ct us hl => by match us, hl with | [u0, u1], _ => rfl) (fun vs H Q E h => by obtain ⟨ds, d, h1, ⟨ns, k, rfl, _⟩, _⟩ := h; exact h1.len) ?_
  intro cdv A outer s H vs Q E hr h
  have nd := sc__law_box.nd
  refine ⟨_, (pss_cons (ps_set (i := 2) nd rfl (.inl rfl) (pe_ifExp (pt_cmpR op_lt (pv 1) (pe_callB (bLen (K := K) rfl) (by rfl) T.blen (by decide +kernel) (pa_cons (pv 0) pa_nil)) (nomark _)) (pe_ix (xL (K := K) rfl) (pv 0) (pv 1) (fun _ _ => rfl)) pe_int))
    (pss_one (ps_ret (pe_lst (pa_cons (pe_op op_mul (pe_callB call_abs (by rfl) T.babs (by decide +kernel) (pa_cons (pv 2) pa_nil)) (pe_callTy call_int1 (by rfl) T.bint (by decide +kernel) (pa_cons (pe_cmpR op_ge (pe_callB call_abs (by rfl) T.babs (by decide +kernel) (pa_cons (pv 2) pa_nil)) (pe_op op_pow pe_int pe_int) (nomark _)) pa_nil))) (pa_cons (pe_op op_add (pe_op op_add (pe_op op_mod (pe_callTy call_int1 (by rfl) T.bint (by decide +kernel) (pa_cons (pv 2) pa_nil)) pe_int) (pe_op op_mul pe_int (pv 1))) pe_int) (pa_cons pe_int pa_nil))))))), ?_⟩
  obtain ⟨ds, d, hv, ⟨ns, k, rfl, few, hk, rfl⟩, q⟩ := h
  have S0 := sl_start (N := N__law_box) hv (by show 2 ≤ 3; decide)
  refine et_if (d := .int (cellOf ns k)) (eb_test (et_B0 (g := fun i j => decide (i < j)) et_var (et_lenL et_var))) (fun h => ?_) (fun h => ?_) _ H S0 _ fun v H1 e1 hv1 => ?_
  · rw [decide_eq_true_iff, List.length_map] at h
    have h : k < ns.length := by omega
    unfold cellOf
    rw [if_pos h]
    refine et_ixL (n := k) et_var et_var ?_
    rw [List.getElem?_map, List.getElem?_eq_getElem h, List.getD_eq_getElem?_getD, List.getElem?_eq_getElem h]
    rfl
  · rw [decide_eq_false_iff_not, List.length_map] at h
    unfold cellOf
    rw [if_neg (by omega)]
    exact et_int
  refine g_name ?_
  have S1 := (S0.up e1).set 2 hv1
  generalize hx : cellOf ns k = x at S1 hv1
  have hA : CMul (ab x) (if decide ((10 : Int) ^ (18 : Int).toNat ≤ ab x) then 1 else 0) := .inr (by split <;> decide)
  refine etf_lst (ds := [.int (boxA x), .int (boxB x k), .int 0]) (ea3 (et_I (C := CMul) (g := fun i j => i * j) (et_abs et_var) (et_intB (et_B0 (g := fun i j => decide (j ≤ i)) (et_abs et_var) (et_I (C := CPow) (g := fun i j => i ^ j.toNat) et_int et_int ⟨by decide, by decide, by decide⟩))) hA) (et_I0 (g := fun i j => i + j) (et_I0 (g := fun i j => i + j) (et_I (C := fun _ j => 0 < j) (g := fun i j => i % j) (et_intI et_var) et_int (by decide)) (et_I (C := CMul) (g := fun i j => i * j) et_int et_var (.inl ⟨by decide, by decide⟩))) et_int) et_int) ⟨nol_int, nol_int, nol_int, True.intro⟩ (by show 3 ≤ 1000; decide) _ H1 S1 _ fun p xs H2 hp e2 h1 h2 => ?_
  exact q p H2 (none_back e1 hp) (e1.trans e2) ⟨p, xs, rfl, h1, by rw [hx]; exact h2⟩
def R__law_take (ds : List PyData) (n : Nat) (Po : PyData → Nat → Prop) : Prop := ∃ k : Int, ds = [.int k] ∧ 0 < k ∧ k ≤ 1000 ∧ n ≤ 1000000 ∧ Po = fun d m => ∃ i, d = .int i ∧ (0 ≤ i ∧ i < k) ∧ m = n + 1
theorem box_set {H : Hp} {bx : Addr} {a b c : Int} {ρ : Env} {σ : L2.St} {o : HO} (S : Sl σ H (none :: ρ)) (hn : NoE ρ) (h0 : σ[0]? = some (some (.ref bx))) (hb : H bx = some (.lst [.int a, .int b, .int c])) {a' b' c' : Int} : Sl σ (upd H bx (.lst [.int a', .int b', .int c'])) (some (.list [.int a', .int b', .int c']) :: ρ) := by
  have up : TEx H (upd H bx (.lst [.int a', .int b', .int c'])) := fun x xs hx => by
    rw [upd_ne (ne_of hx hb (fun z => nomatch z))]
    exact hx
  refine ⟨S.1, fun i d e => ?_⟩
  cases i with
  | zero => cases e; exact ⟨_, h0, bx, _, rfl, upd_same, .cons (.int _) (.cons (.int _) (.cons (.int _) .nil))⟩
  | succ i =>
    have e' : ρ[i]? = some (some d) := by simpa using e
    obtain ⟨v, h1, h2⟩ := S.2 (i + 1) d (by simpa using e')
    exact ⟨v, h1, ((noE hn i d e' _ _ h2).mono up).hv⟩
abbrev N__law_take : List Str := ["_law_box_here", "_law_below_so", "_law_once", "_law_far_so", "_law_twice_so", "_law_drawn_so"]
theorem sc__law_take : FnScope N__law_take ["_law_box_here", "_law_below_so"] (defScope s__law_take) := ⟨rfl, rfl, rfl, by decide +kernel, rfl, by decide +kernel, by decide +kernel⟩
/- slots: 0:_law_box_here 1:_law_below_so 2:_law_once 3:_law_far_so 4:_law_twice_so 5:_law_drawn_so ; cells:  ; callees:  -/
theorem w__law_take {P : Program} {w : World} {K : PySem.W.Frag} {mg : Str → Option Value} {base : Heap} {f : Addr} {fd : FuncData} (T : Bn mg) (F : FunD K "_law_take" "_law_take" (defArgs s__law_take) (defBody s__law_take) (defScope s__law_take) [] [] f fd) (hm : mg "_law_take" = some (.ref f)) : C8.Cal P w K mg base 1 "_law_take" (spB R__law_take) [] := by
  refine cal_raw (N := N__law_take) (ps := ["_law_box_here", "_law_below_so"]) F hm sc__law_take (fun kV doc pm an cdv ct us hl => by match us, hl with | [u0, u1], _ => rfl) (spB_len fun ds n Po h => by obtain ⟨k, rfl, _⟩ := h; rfl) ?_
  intro cdv A outer s H vs Q E hr h
  have nd := sc__law_take.nd
  refine ⟨_, (pss_cons (ps_if (pt_cmpR op_gt (pe_ix (xL (K := K) rfl) (pv 0) pe_int (fun _ _ => rfl)) pe_int (nomark _))
      (pss_cons (ps_set (i := 5) nd rfl (.inl rfl) (pe_op op_mod (pe_callTy call_int1 (by rfl) T.bint (by decide +kernel) (pa_cons (pe_ix (xL (K := K) rfl) (pv 0) pe_int (fun _ _ => rfl)) pa_nil)) (pv 1)))
    (pss_cons (ps_asg (pe_op op_fdiv (pe_ix (xL (K := K) rfl) (pv 0) pe_int (fun _ _ => rfl)) (pv 1)) (pg_sub (pv 0) pe_int set_list))
    (pss_one (ps_ret (pv 5))))) pss_nil)
    (pss_cons (ps_asg (pe_op op_add (pe_ix (xL (K := K) rfl) (pv 0) pe_int (fun _ _ => rfl)) pe_int) (pg_sub (pv 0) pe_int set_list))
    (pss_cons (ps_set (i := 2) nd rfl (.inl rfl) (pe_op op_mod (pe_callTy call_int1 (by rfl) T.bint (by decide +kernel) (pa_cons (pe_op op_mul (pe_op op_add (pe_ix (xL (K := K) rfl) (pv 0) pe_int (fun _ _ => rfl)) (pe_op op_mul pe_int (pe_ix (xL (K := K) rfl) (pv 0) pe_int (fun _ _ => rfl)))) (pe_op op_add pe_int (pe_ix (xL (K := K) rfl) (pv 0) pe_int (fun _ _ => rfl)))) pa_nil)) pe_int))
    (pss_cons (ps_set (i := 3) nd rfl (.inl rfl) (pe_op op_add (pe_op op_mod (pe_callTy call_int1 (by rfl) T.bint (by decide +kernel) (pa_cons (pv 2) pa_nil)) pe_int) pe_int))
    (pss_cons (ps_set (i := 4) nd rfl (.inl rfl) (pe_op op_mod (pe_callTy call_int1 (by rfl) T.bint (by decide +kernel) (pa_cons (pe_op op_mul (pe_op op_add (pe_op op_add (pv 2) (pe_ix (xL (K := K) rfl) (pv 0) pe_int (fun _ _ => rfl))) (pe_op op_fdiv (pe_ix (xL (K := K) rfl) (pv 0) pe_int (fun _ _ => rfl)) pe_int)) (pv 3)) pa_nil)) pe_int))
    (pss_one (ps_ret (pe_op op_mod (pe_callTy call_int1 (by rfl) T.bint (by decide +kernel) (pa_cons (pe_op op_fdiv (pe_op op_mod (pe_callTy call_int1 (by rfl) T.bint (by decide +kernel) (pa_cons (pe_op op_add (pe_op op_mul (pv 4) pe_int) (pv 2)) pa_nil)) pe_int) pe_int) pa_nil)) (pv 1))))))))), ?_⟩
  obtain ⟨bx, us, ds, n, Po, rfl, hu, ⟨a, b, c, hb, hc0, hcn⟩, ⟨k, rfl, hk0, hk1, hn, rfl⟩, q⟩ := h
  obtain ⟨u, rfl, hu1⟩ := hv1 hu
  have hu2 := hv_int hu1
  subst hu2
  have SN : ∀ H', Sl (L2.start N__law_take [.ref bx, .int k]) H' [none, some (.int k), none, none, none, none] := fun H' => ⟨rfl, fun i d e => by
    match i, e with
    | 0, e => cases e
    | 1, e => cases e; exact ⟨_, rfl, .int _⟩
    | 2, e => cases e
    | 3, e => cases e
    | 4, e => cases e
    | 5, e => cases e
    | j + 6, e => simp at e⟩
  have S0 : Sl (L2.start N__law_take [.ref bx, .int k]) H [some (.list [.int a, .int b, .int c]), some (.int k), none, none, none, none] := (SN H).know (j := 0) (d := .list [.int a, .int b, .int c]) (v := .ref bx) rfl ⟨bx, _, rfl, hb, .cons (.int _) (.cons (.int _) (.cons (.int _) .nil))⟩
  have b0 : (L2.start N__law_take [.ref bx, .int k])[0]? = some (some (.ref bx)) := rfl
  generalize L2.start N__law_take [.ref bx, .int k] = σ at SN S0 b0
  have exr : ∀ {H1 H2 : Hp}, Ex H H1 → ∀ {o : HO}, Ex (upd H1 bx o) H2 → Ex (rm H bx) H2 := fun {H1 H2} e1 {o} e2 x u hx => by
    by_cases w : x = bx
    · rw [w, rm_self] at hx; cases hx
    · rw [rm_ne w] at hx
      exact e2 _ _ (by rw [upd_ne w]; exact e1 _ _ hx)
  refine eb_test (et_B0 (g := fun i j => decide (j < i)) (et_ixL (n := 0) et_var et_int rfl) et_int) σ H S0 _ fun H1 e1 => ?_
  by_cases hpos : 0 < a
  · rw [if_pos (decide_eq_true hpos)]
    refine et_I (C := fun _ j => 0 < j) (g := fun i j => i % j) (et_intI (et_ixL (n := 0) et_var et_int rfl)) et_var hk0 σ H1 (S0.up e1) _ fun v H2 e2 hv2 => ?_
    refine g_name ?_
    have S2 := ((S0.up e1).up e2).set 5 hv2
    have b2 : (σ.set 5 (some v))[0]? = some (some (.ref bx)) := by rw [List.getElem?_set_ne (by decide)]; exact b0
    have SN2 := fun H' => (SN H').set 5 (v := v) (d := .int (a % k)) (by rw [hv_int hv2]; exact .int _)
    generalize σ.set 5 (some v) = σ2 at S2 b2 SN2
    refine et_I (C := CDiv) (g := fun i j => i / j) (et_ixL (n := 0) et_var et_int rfl) et_var ⟨hk0, by omega⟩ σ2 H2 S2 _ fun w H3 e3 hw3 => ?_
    have hb3 := e3 _ _ (e2 _ _ (e1 _ _ hb))
    rw [hv_int hw3]
    refine ⟨_, b2, bx, _, 0, 0, rfl, rfl, hb3, rfl, ?_⟩
    refine et_var (i := 5) (d := .int (a % k)) (by rfl) σ2 _ (SN2 _) _ fun v5 H5 e5 hv5 => ?_
    refine q _ v5 H5 (n + 1) ⟨a % k, rfl, ⟨Int.emod_nonneg _ (by omega), Int.emod_lt_of_pos _ hk0⟩, rfl⟩ (exr ((e1.trans e2).trans e3) e5) ⟨a / k, b, c, e5 _ _ upd_same, hc0, by omega⟩ hv5
  · rw [if_neg (by simpa using hpos)]
    refine et_I0 (g := fun i j => i + j) (et_ixL (n := 2) et_var et_int rfl) et_int σ H1 (S0.up e1) _ fun w H3 e3 hw3 => ?_
    have hb3 := e3 _ _ (e1 _ _ hb)
    rw [hv_int hw3]
    refine ⟨_, b0, bx, _, 2, 2, rfl, rfl, hb3, rfl, ?_⟩
    have S4 := box_set (o := .lst []) (SN H3) ⟨nol_int, True.intro⟩ b0 hb3 (a' := a) (b' := b) (c' := c + 1)
    have c2 : CMul (b + 48271 * (c + 1)) (39373 + (c + 1)) := .inr ⟨by omega, by omega⟩
    have fin : OT [some (.list [.int a, .int b, .int (c + 1)]), some (.int k), none, none, none, none] _ (fun _ => False) (fun d => ∃ i, d = .int i ∧ 0 ≤ i ∧ i < k) :=
      ot_let (i := 2) (et_I (C := fun _ j => 0 < j) (g := fun i j => i % j) (et_intI (et_I (C := CMul) (g := fun i j => i * j) (et_I0 (g := fun i j => i + j) (et_ixL (K := K) (ds := [.int a, .int b, .int (c + 1)]) (n := 1) (et_var (i := 0)) (et_int (i := 1)) rfl) (et_I (C := CMul) (g := fun i j => i * j) (et_int (i := 48271)) (et_ixL (K := K) (ds := [.int a, .int b, .int (c + 1)]) (n := 2) (et_var (i := 0)) (et_int (i := 2)) rfl) (.inl ⟨by decide, by decide⟩))) (et_I0 (g := fun i j => i + j) (et_int (i := 39373)) (et_ixL (K := K) (ds := [.int a, .int b, .int (c + 1)]) (n := 2) (et_var (i := 0)) (et_int (i := 2)) rfl)) c2)) (et_int (i := 2147483647)) (by decide))
      (ot_let (i := 3) (et_I0 (g := fun i j => i + j) (et_I (C := fun _ j => 0 < j) (g := fun i j => i % j) (et_intI (et_var (i := 2))) (et_int (i := 40009)) (by decide)) (et_int (i := 7)))
      (ot_let (i := 4) (et_I (C := fun _ j => 0 < j) (g := fun i j => i % j) (et_intI (et_I (C := CMul) (g := fun i j => i * j) (et_I0 (g := fun i j => i + j) (et_I0 (g := fun i j => i + j) (et_var (i := 2)) (et_ixL (K := K) (ds := [.int a, .int b, .int (c + 1)]) (n := 2) (et_var (i := 0)) (et_int (i := 2)) rfl)) (et_I (C := CDiv) (g := fun i j => i / j) (et_ixL (K := K) (ds := [.int a, .int b, .int (c + 1)]) (n := 1) (et_var (i := 0)) (et_int (i := 1)) rfl) (et_int (i := 1000003)) ⟨by decide, by decide⟩)) (et_var (i := 3)) (.inr ?_))) (et_int (i := 2147483629)) (by decide))
      (ot_ret (et_I (C := fun _ j => 0 < j) (g := fun i j => i % j) (et_intI (et_I (C := CDiv) (g := fun i j => i / j) (et_I (C := fun _ j => 0 < j) (g := fun i j => i % j) (et_intI (et_I0 (g := fun i j => i + j) (et_I (C := CMul) (g := fun i j => i * j) (et_var (i := 4)) (et_int (i := 48271)) (.inr ⟨by decide, by decide⟩)) (et_var (i := 2)))) (et_int (i := 2147483587)) (by decide)) (et_int (i := 64)) ⟨by decide, by decide⟩)) (et_var (i := 1)) hk0) ?_)))
    · refine fin σ _ S4 _ (fun _ _ _ z => z.elim) fun d v H5 hd e5 hv5 => ?_
      obtain ⟨i, hi, h01⟩ := hd
      exact q d v H5 (n + 1) ⟨i, hi, h01, rfl⟩ (exr (e1.trans e3) e5) ⟨a, b, c + 1, e5 _ _ upd_same, by omega, by omega⟩ hv5
    · have h1 := Int.emod_nonneg (((b + 48271 * (c + 1)) * (39373 + (c + 1))) % 2147483647) (b := 40009) (by decide)
      have h2 := Int.emod_lt_of_pos (((b + 48271 * (c + 1)) * (39373 + (c + 1))) % 2147483647) (b := 40009) (by decide)
      constructor <;> omega
    · exact ⟨_, rfl, Int.emod_nonneg _ (by omega), Int.emod_lt_of_pos _ hk0⟩
end K68

namespace K68
open PySem PySem.Spec PyProof.Rows L2
open Evl (Ex)
section
variable {own : List Nat} {n : Nat} {ρ : Env} {te : TE} {ta : TA} {E : XK}
theorem ix_take {k : Int} (h : ET ρ te (.int k)) (hk : 0 < k ∧ k ≤ 1000) (hn : n ≤ 1000000) (ha : ApE (wipeD ρ own)) : IntX own n ρ (tCall (spB R__law_take) [] E (tCons (tVar 0) (tCons te tNil))) (fun i => 0 ≤ i ∧ i < k) (n + 1) :=
  etx_call (ea1 h) ⟨k, rfl, hk.1, hk.2, hn, rfl⟩ ha
end
def R__law_of (ds : List PyData) (n : Nat) (Po : PyData → Nat → Prop) : Prop := ∃ ws : List Win, ds = [.list (ws.map winD)] ∧ ws ≠ [] ∧ ws.length ≤ 36 ∧ n ≤ 1000000 ∧ Po = fun d m => (∃ w, w ∈ ws ∧ d = winD w) ∧ m = n + 1
abbrev N__law_of : List Str := ["_law_box_here", "_law_pool_so"]
theorem sc__law_of : FnScope N__law_of ["_law_box_here", "_law_pool_so"] (defScope s__law_of) := ⟨rfl, rfl, rfl, by decide +kernel, rfl, by decide +kernel, by decide +kernel⟩
/- slots: 0:_law_box_here 1:_law_pool_so ; cells:  ; callees: _law_take -/
theorem w__law_of {P : Program} {w : World} {K : PySem.W.Frag} {mg : Str → Option Value} {base : Heap} {f : Addr} {fd : FuncData} (T : Bn mg) (c__law_take : C8.Cal P w K mg base 1 "_law_take" (spB R__law_take) []) (F : FunD K "_law_of" "_law_of" (defArgs s__law_of) (defBody s__law_of) (defScope s__law_of) [] [] f fd) (hm : mg "_law_of" = some (.ref f)) : C8.Cal P w K mg base 2 "_law_of" (spB R__law_of) [] := by
  refine cal_ofB (N := N__law_of) (ps := ["_law_box_here", "_law_pool_so"]) [] F hm sc__law_of (fun kV doc pm an cdv ct us hl => by match us, hl with | [u0, u1], _ => rfl) (fun ds n Po h => by obtain ⟨ws, rfl, hne, few, hn, rfl⟩ := h; rfl) (by decide) ?_
  intro cdv A outer s H E hr
  have nd := sc__law_of.nd
  refine ⟨_, (pss_one (ps_ret (pe_ix (xL (K := K) rfl) (pv 1) (C8.pe_c c__law_take hr (by decide) (by rfl) (pa_cons (pv 0) (pa_cons (pe_callB (bLen (K := K) rfl) (by rfl) T.blen (by decide +kernel) (pa_cons (pv 1) pa_nil)) pa_nil))) (fun _ _ => rfl)))), ?_⟩
  intro ds n0 Po h
  obtain ⟨ws, rfl, hne, few, hn, rfl⟩ := h
  have hp : 0 < ws.length := List.length_pos_iff.mpr hne
  refine ox_ret (etx_ixV (j := 1) (ds := ws.map winD) rfl (ix_take (et_lenL et_var) ⟨by rw [List.length_map]; omega, by rw [List.length_map]; omega⟩ hn ⟨ap_wins, True.intro⟩) fun i hi => ?_) fun d m h => ?_
  · rw [List.length_map] at hi
    refine ⟨i.toNat, winD (ws.getD i.toNat (0, 0)), by omega, ?_⟩
    rw [List.getElem?_map, List.getD_eq_getElem?_getD, List.getElem?_eq_getElem (by omega)]
    rfl
  · obtain ⟨⟨i, h1⟩, rfl⟩ := h
    rw [List.getElem?_map] at h1
    cases hw : ws[i]? with
    | none => rw [hw] at h1; cases h1
    | some w =>
      rw [hw] at h1
      cases h1
      exact ⟨⟨w, List.mem_of_getElem? hw, rfl⟩, rfl⟩
def R__law_lot (ds : List PyData) (n : Nat) (Po : PyData → Nat → Prop) : Prop := ∃ (T top : Nat), ds = [.int (T : Nat), .int (top : Nat)] ∧ 1 ≤ T ∧ T ≤ 8 ∧ top ≤ 100 ∧ n ≤ 900000 ∧ Po = fun d m => (∃ E, LotOk T E ∧ (∀ e ∈ E, e.2 ≤ (top : Nat)) ∧ d = lotD T E) ∧ m = n + 100
abbrev N__law_lot : List Str := ["_law_box_here", "_law_size_so", "_law_top_so", "_law_span_so", "_law_sort_so", "_law_found", "_law_many_so"]
theorem sc__law_lot : FnScope N__law_lot ["_law_box_here", "_law_size_so", "_law_top_so"] (defScope s__law_lot) := ⟨rfl, rfl, rfl, by decide +kernel, rfl, by decide +kernel, by decide +kernel⟩
/- slots: 0:_law_box_here 1:_law_size_so 2:_law_top_so 3:_law_span_so 4:_law_sort_so 5:_law_found 6:_law_many_so ; cells:  ; callees: _law_take _law_spans -/
theorem w__law_lot {P : Program} {w : World} {K : PySem.W.Frag} {mg : Str → Option Value} {base : Heap} {f : Addr} {fd : FuncData} (T : Bn mg) (c__law_take : C8.Cal P w K mg base 1 "_law_take" (spB R__law_take) []) (c__law_spans : C8.Cal P w K mg base 1 "_law_spans" (spD R__law_spans) []) (F : FunD K "_law_lot" "_law_lot" (defArgs s__law_lot) (defBody s__law_lot) (defScope s__law_lot) [] [] f fd) (hm : mg "_law_lot" = some (.ref f)) : C8.Cal P w K mg base 2 "_law_lot" (spB R__law_lot) [] := by
  refine cal_ofB (N := N__law_lot) (ps := ["_law_box_here", "_law_size_so", "_law_top_so"]) [5] F hm sc__law_lot (fun kV doc pm an cdv ct us hl => by match us, hl with | [u0, u1, u2], _ => rfl) (fun ds n Po h => by obtain ⟨n, top, rfl, h1, h8, ht, hn, rfl⟩ := h; rfl) (by decide) ?_
  intro cdv A outer s H E hr
  have nd := sc__law_lot.nd
  refine ⟨_, (pss_cons (ps_par (i := 4) (j := 5) (by rfl) nd rfl rfl (by decide) rfl rfl (pa_cons (C8.pe_c c__law_take hr (by decide) (by rfl) (pa_cons (pv 0) (pa_cons pe_int pa_nil))) (pa_cons (pe_lst pa_nil) pa_nil)) (by rfl))
    (pss_cons (ps_for PassesOwn.never rfl (iL (K := K) rfl (C8.pe_c c__law_spans hr (by decide) (by rfl) (pa_cons (pv 1) pa_nil))) (pg_name (i := 3) nd rfl (.inl rfl))
      (pss_cons (ps_set (i := 6) nd rfl (.inl rfl) (pe_ifExp (pw_or (pt_cmpR op_lt (pv 4) pe_int (nomark _)) (pw_or1 (pt_cmpR op_eq (C8.pe_c c__law_take hr (by decide) (by rfl) (pa_cons (pv 0) (pa_cons (pe_op op_add pe_int (pv 4)) pa_nil))) pe_int (nomark _)))).pt (C8.pe_c c__law_take hr (by decide) (by rfl) (pa_cons (pv 0) (pa_cons (pe_op op_add (pv 2) pe_int) pa_nil))) pe_int))
    (pss_one (ps_if (pt_cmpR op_gt (pv 6) pe_int (nomark _))
      (pss_one (ps_expr (pe_bm PySem.F.plainAttrs_list PySem.F.slot_list_append PySem.F.type_list_append mt_append (pv 5) (pa_cons (pe_tup (pa_cons (pv 3) (pa_cons (pv 6) pa_nil))) pa_nil)))) pss_nil))))
    (pss_one (ps_ret (pe_tup (pa_cons (pv 1) (pa_cons (pe_callTy (bTup (K := K) rfl) (by rfl) T.btuple (by decide +kernel) (pa_cons (pv 5) pa_nil)) pa_nil))))))), ?_⟩
  intro ds n0 Po h
  obtain ⟨n, top, rfl, h1, h8, ht, hn, rfl⟩ := h
  refine ox_let2F (ix_take et_int (by decide) (by omega) ⟨nol_int |> ap_nol, ap_nol nol_int, True.intro⟩) (fun d m p => by obtain ⟨i, rfl, _⟩ := p; exact nol_int) etf_nil (by decide) (by decide) (by decide) ?_
  rintro _ _ ⟨so, rfl, ⟨so0, so4⟩, rfl⟩
  refine ox_forL (ws := spans n) (jo := 5) (ι := List Er) (fun x => [none, some (.int (n : Nat)), some (.int (top : Nat)), none, some (.int so), some (.list (x.map erD)), none]) (fun i x m => m ≤ n0 + 1 + 2 * i ∧ x.length ≤ i ∧ ∀ e ∈ x, (e.1.1 ≤ e.1.2 ∧ e.1.2 < n) ∧ 1 ≤ e.2 ∧ e.2 ≤ (top : Nat)) (et_call (ea1 et_var) ⟨n, rfl, h8, rfl⟩) (spans_ne h1) rfl rfl [] ⟨Nat.le_refl _, Nat.le_refl _, fun e he => by cases he⟩ (le_of ⟨.inr rfl, .inr rfl, .inr rfl, .inr rfl, .inr rfl, .inr rfl, .inr rfl, True.intro⟩) (by decide) (by decide) ?_ ?_
  · rintro i d x m hd ⟨hm, hxl, hx⟩
    rw [List.getElem?_map] at hd
    obtain ⟨v, hv, rfl⟩ : ∃ v, (spans n)[i]? = some v ∧ winD v = d := by
      cases he : (spans n)[i]? with
      | none => rw [he] at hd; cases hd
      | some e => rw [he] at hd; exact ⟨e, rfl, Option.some.inj hd⟩
    have hi := (List.getElem?_eq_some_iff.mp hv).1
    have h36 := spans_len n h8
    have hvm := mem_spans.mp (List.mem_of_getElem? hv)
    refine ⟨ap_nol nol_win, nol_win, ?_⟩
    refine ox_let (Po := fun d m' => ∃ k, d = .int k ∧ (0 ≤ k ∧ k < (top : Nat) + 1) ∧ m' = m + 2) (ix_if (A := fun k => 0 ≤ k ∧ k < (top : Nat) + 1) (n2 := m + 2) (tx_or (n2 := m + 1) (eb_test (et_B0 (g := fun i j => decide (i < j)) et_var et_int)) (tx_eq (ix_take (et_I0 (g := fun i j => i + j) et_int et_var) ⟨by omega, by omega⟩ (by omega) ⟨ap_nol nol_int, ap_nol nol_int, ap_nol nol_win, ap_nol nol_int, True.intro⟩) (ix_pure et_int)) (by omega)) (fun m' hm' => ?_) fun m' hm' => ?_) (by decide) (by decide) ?_
    · subst hm'
      exact ix_take (et_I0 (g := fun i j => i + j) et_var et_int) ⟨by omega, by omega⟩ (by omega) ⟨ap_nol nol_int, ap_nol nol_int, ap_nol nol_win, ap_nol nol_int, True.intro⟩
    · subst hm'
      exact ix_imp (ix_pure et_int) (fun i hi => by subst hi; omega) (by omega)
    · rintro _ _ ⟨k, rfl, ⟨k0, k1⟩, rfl⟩
      refine ox_if (EB.x (eb_test (et_B0 (g := fun i j => decide (j < i)) et_var et_int))) (fun m' p => ?_) fun m' p => ?_
      · obtain ⟨hk, rfl⟩ := p
        have hk : 0 < k := of_decide_eq_true hk.symm
        refine ox_append (j := 5) (ds := x.map erD) rfl (by decide) ⟨nol_int, nol_int, nol_win, nol_int, nol_int, True.intro⟩ (ET.x (et_pair et_var et_var nol_win nol_int)) (fun d m p => by obtain ⟨rfl, _⟩ := p; exact nol_tup) (by rw [List.length_map]; omega) ?_
        rintro _ _ ⟨rfl, rfl⟩
        refine ⟨x ++ [(v, k)], ⟨by omega, by rw [List.length_append]; simp; omega, fun e he => ?_⟩, le_of ⟨.inr rfl, .inr rfl, .inr rfl, .inl rfl, .inr rfl, .inr ?_, .inl rfl, True.intro⟩⟩
        · rcases List.mem_append.mp he with q | q
          · exact hx e q
          · rw [List.mem_singleton] at q
            rw [q]
            exact ⟨hvm, by show 1 ≤ k; omega, by show k ≤ _; omega⟩
        · rw [List.map_append]
          rfl
      · obtain ⟨_, rfl⟩ := p
        exact ox_nx ⟨x, ⟨by omega, by omega, hx⟩, le_of ⟨.inr rfl, .inr rfl, .inr rfl, .inl rfl, .inr rfl, .inr rfl, .inl rfl, True.intro⟩⟩
  · rintro x m ⟨hm, hxl, hx⟩
    have h36 := spans_len n h8
    rw [List.length_map] at hm hxl
    refine OX.le (m := n0 + 100) (ox_ret (ET.x (et_pair et_var (et_tupL et_var) nol_int nol_tup)) ?_) (by omega)
    rintro _ _ ⟨rfl, rfl⟩
    exact ⟨⟨x, ⟨h1, h8, fun e he => (hx e he).1, fun e he => (hx e he).2.1, by omega⟩, fun e he => (hx e he).2.2, rfl⟩, rfl⟩
def R__law_hands (ds : List PyData) (n : Nat) (Po : PyData → Nat → Prop) : Prop := ∃ (T top : Nat), ds = [.int (T : Nat), .int (top : Nat)] ∧ T ≤ 8 ∧ top ≤ 100 ∧ n ≤ 900000 ∧ Po = fun d m => (∃ c, c.length = T ∧ Nn c ∧ d = calD c) ∧ m = n + 20
abbrev N__law_hands : List Str := ["_law_box_here", "_law_size_so", "_law_top_so", "_law_found", "_law_turn"]
theorem sc__law_hands : FnScope N__law_hands ["_law_box_here", "_law_size_so", "_law_top_so"] (defScope s__law_hands) := ⟨rfl, rfl, rfl, by decide +kernel, rfl, by decide +kernel, by decide +kernel⟩
/- slots: 0:_law_box_here 1:_law_size_so 2:_law_top_so 3:_law_found 4:_law_turn ; cells:  ; callees: _law_take -/
theorem w__law_hands {P : Program} {w : World} {K : PySem.W.Frag} {mg : Str → Option Value} {base : Heap} {f : Addr} {fd : FuncData} (T : Bn mg) (c__law_take : C8.Cal P w K mg base 1 "_law_take" (spB R__law_take) []) (F : FunD K "_law_hands" "_law_hands" (defArgs s__law_hands) (defBody s__law_hands) (defScope s__law_hands) [] [] f fd) (hm : mg "_law_hands" = some (.ref f)) : C8.Cal P w K mg base 2 "_law_hands" (spB R__law_hands) [] := by
  refine cal_ofB (N := N__law_hands) (ps := ["_law_box_here", "_law_size_so", "_law_top_so"]) [3] F hm sc__law_hands (fun kV doc pm an cdv ct us hl => by match us, hl with | [u0, u1, u2], _ => rfl) (fun ds n Po h => by obtain ⟨n, top, rfl, h8, ht, hn, rfl⟩ := h; rfl) (by decide) ?_
  intro cdv A outer s H E hr
  have nd := sc__law_hands.nd
  refine ⟨_, (pss_cons (ps_set (i := 3) nd rfl (.inl rfl) (pe_lst pa_nil))
    (pss_cons (ps_for PassesOwn.never rfl (pi_range1 (by rfl) T.brange (pa_cons (pv 1) pa_nil)) (pg_name (i := 4) nd rfl (.inl rfl))
      (pss_one (ps_expr (pe_bm PySem.F.plainAttrs_list PySem.F.slot_list_append PySem.F.type_list_append mt_append (pv 3) (pa_cons (pe_ifExp (pt_cmpR op_gt (C8.pe_c c__law_take hr (by decide) (by rfl) (pa_cons (pv 0) (pa_cons pe_int pa_nil))) pe_int (nomark _)) (C8.pe_c c__law_take hr (by decide) (by rfl) (pa_cons (pv 0) (pa_cons (pe_op op_add (pv 2) pe_int) pa_nil))) pe_int) pa_nil)))))
    (pss_one (ps_ret (pe_callTy (bTup (K := K) rfl) (by rfl) T.btuple (by decide +kernel) (pa_cons (pv 3) pa_nil)))))), ?_⟩
  intro ds n0 Po h
  obtain ⟨n, top, rfl, h8, ht, hn, rfl⟩ := h
  refine ox_letF etf_nil (by decide) ?_
  refine ox_forG (ι := List Int) (fun x => [none, some (.int (n : Nat)), some (.int (top : Nat)), some (.list (x.map .int)), none]) (fun i x m => m ≤ n0 + 2 * i ∧ x.length = i ∧ Nn x) (ITG.is (itg_range1 (k := (n : Nat)) et_var (by omega)) (rng0 n)) [] ⟨Nat.le_refl _, rfl, fun x hx => by cases hx⟩ (le_of ⟨.inr rfl, .inr rfl, .inr rfl, .inr rfl, .inr rfl, True.intro⟩) (by decide) (by decide) ?_ ?_
  · rintro i d x m hd ⟨hm, hxl, hx⟩
    rw [List.getElem?_map] at hd
    have hi : i < n := by
      by_cases z : i < n
      · exact z
      · rw [List.getElem?_eq_none (by simpa using z)] at hd; cases hd
    rw [List.getElem?_range hi] at hd
    cases hd
    refine ⟨ap_nol nol_int, nol_int, ?_⟩
    refine ox_append (j := 3) (ds := x.map .int) (Po := fun d m' => ∃ k, d = .int k ∧ (0 ≤ k) ∧ m' = m + 2) rfl (by decide) ⟨nol_int, nol_int, nol_int, True.intro⟩ (ix_if (A := fun k => 0 ≤ k) (n2 := m + 2) (tx_cmp (g := fun i j => decide (j < i)) (ix_take et_int (by decide) (by omega) ⟨ap_nol nol_int, ap_nol nol_int, ap_nol nol_int, True.intro⟩) (ix_pure et_int)) (fun m' p => ?_) fun m' p => ?_) (fun d m p => by obtain ⟨i, rfl, _⟩ := p; exact nol_int) (by rw [List.length_map]; omega) ?_
    · obtain ⟨_, rfl⟩ := p
      exact ix_imp (ix_take (et_I0 (g := fun i j => i + j) et_var et_int) ⟨by omega, by omega⟩ (by omega) ⟨ap_nol nol_int, ap_nol nol_int, ap_nol nol_int, True.intro⟩) (fun i hi => hi.1) (by omega)
    · obtain ⟨_, rfl⟩ := p
      exact ix_imp (ix_pure et_int) (fun i hi => by subst hi; exact Int.le_refl _) (by omega)
    · rintro _ _ ⟨k, rfl, k0, rfl⟩
      refine ⟨x ++ [k], ⟨by omega, by rw [List.length_append]; simp; omega, fun y hy => ?_⟩, le_of ⟨.inr rfl, .inr rfl, .inr rfl, .inr ?_, .inl rfl, True.intro⟩⟩
      · rcases List.mem_append.mp hy with q | q
        · exact hx y q
        · rw [List.mem_singleton] at q
          rw [q]; exact k0
      · rw [List.map_append]
        rfl
  · rintro x m ⟨hm, hxl, hx⟩
    rw [List.length_map, List.length_range] at hm hxl
    refine OX.le (m := n0 + 20) (ox_ret (ET.x (et_tupL et_var)) ?_) (by omega)
    rintro _ _ ⟨rfl, rfl⟩
    exact ⟨⟨x, hxl, hx, rfl⟩, rfl⟩
end K68

namespace K68
open PySem PySem.Spec PyProof.Rows L2
open Evl (Ex)
theorem s_for {wi : TI} {g : TG} {tb u : TS} {D : Ends} {σ : L2.St} {H : Hp} (h : wi σ H fun J H1 => ∃ W : Nat → Nat → L2.St → Hp → Prop, (∃ m, W 0 m σ H1) ∧ ∀ i m σ H, W i m σ H →
    (J.stop i H ∧ u D σ H) ∨ (J.go i H ∧ ∃ N : L2.St → Hp → Prop, (∀ σ' H', N σ' H' → ∃ m', m' < m ∧ W (i + 1) m' σ' H') ∧ ∀ x H', J.yld i H x H' → g x σ H' fun σ2 H2 => tb { nx := N, rt := D.rt, bk := u D, ct := N } σ2 H2)) : tSeq (tFor wi g tb) u D σ H := h
/-! ### the cells -/
theorem good_enum {K : PySem.W.Frag} {H : Hp} {a : Addr} {ns : List Int} (h : H a = some (.lst (ns.map V.int))) : Good (Ite K a) ((List.range ns.length).map fun i => .tuple [.int (i : Nat), .int (ns.getD i 0)]) H := fun H' e => by
  have h' := e _ _ h
  refine ⟨⟨_, SqL.of h', by simp⟩, fun i d hd => ?_⟩
  have hi : i < ns.length := by
    have := (List.getElem?_eq_some_iff.mp hd).1
    simpa using this
  rw [List.getElem?_map, List.getElem?_range hi] at hd
  cases hd
  refine ⟨⟨_, .int (ns.getD i 0), SqL.of h', ?_⟩, fun x H'' y => ?_⟩
  · rw [List.getElem?_map, List.getElem?_eq_getElem hi, List.getD_eq_getElem?_getD, List.getElem?_eq_getElem hi]; rfl
  · obtain ⟨T, z, rfl, hn, rfl, y⟩ := y
    have y := y _ (SqL.of h')
    rw [List.getElem?_map, List.getElem?_eq_getElem hi] at y
    have hz : z = .int (ns.getD i 0) := by
      rw [List.getD_eq_getElem?_getD, List.getElem?_eq_getElem hi]
      exact (Option.some.inj y).symm
    subst hz
    have e2 : Ex H' (upd H' T (.tup [.int (i : Nat), .int (ns.getD i 0)])) := Evl.Ex.new hn
    exact ⟨e2, .tup upd_same (.cons (.int _) (.cons (.int _) .nil))⟩
def sp__law_cells (K : PySem.W.Frag) : Sp := fun vs H Q _ => ∃ (a : Addr) (ns : List Int), vs = [.ref a, .int 3] ∧ SqL K H a (ns.map V.int) ∧ ns.length ≤ 63 ∧ ∀ (p : Addr) H' (ms : List Int), H p = none → Ex H H' → H' p = some (.lst (ms.map V.int)) → 1 ≤ ms.length → ms.length ≤ 3 → Q (.ref p) H'
theorem cut_to (ns : List Int) : cutV (ns.map V.int) none (some 3) = (ns.take 3).map V.int := by
  unfold cutV
  rw [show (3 : Int) = ((3 : Nat) : Int) from rfl, HT.sIx_nat, show HT.sIx (ns.map V.int).length 0 none = 0 from rfl]
  rw [List.drop_zero, Nat.sub_zero, List.length_map, List.map_take]
  rcases Nat.le_total 3 ns.length with h | h
  · rw [Nat.min_eq_left h]
  · rw [Nat.min_eq_right h, List.take_of_length_le (by simp), List.take_of_length_le (by simpa using h)]
theorem cells1 {K : PySem.W.Frag} {σ : L2.St} {H : Hp} {a : Addr} {ns : List Int} (h0 : σ[0]? = some (some (.ref a))) (h1 : σ[1]? = some (some (.int 3))) (hs : SqL K H a (ns.map V.int)) {Q : VK}
    (q : ∀ (p : Addr) H' (ms : List Int), H p = none → Ex H H' → H' p = some (.lst (ms.map V.int)) → 1 ≤ ms.length → ms.length ≤ 3 → (3 < ns.length → ms.length = 3) → Q (.ref p) H') :
    tOrT K (tCB (fun xs H Q => ∃ p ys, xs = [V.ref p] ∧ (SqL K H p ys ∨ SqT K H p ys) ∧ ∀ l, H l = none → Q (.ref l) (upd H l (.lst ys))) (tCons (tSl (rSlL K) (tVar 0) tNoPart (tPart (tVar 1))) tNil)) (tLst (tCons (tC (.int 0)) tNil)) σ H Q := by
  refine ⟨_, h0, _, h1, 3, rfl, a, _, rfl, hs, fun p1 hp1 => ?_⟩
  rw [cut_to]
  refine ⟨p1, _, rfl, .inl (SqL.of upd_same), fun p2 hp2 => ?_⟩
  have e1 : Ex H (upd H p1 (.lst ((ns.take 3).map V.int))) := Evl.Ex.new hp1
  have e2 := e1.trans (Evl.Ex.new (o := .lst ((ns.take 3).map V.int)) hp2)
  refine ⟨!((ns.take 3).map V.int).isEmpty, .inl ⟨_, SqL.of upd_same, rfl⟩, ?_⟩
  by_cases hn : ns = []
  · subst hn
    rw [if_neg (by simp)]
    refine ⟨by show 1 ≤ sizeLine; decide, fun p3 hp3 => ?_⟩
    exact q p3 _ [0] (none_back e2 hp3) (e2.trans (Evl.Ex.new hp3)) upd_same (Nat.le_refl _) (by decide) (fun z => by simp at z)
  · have hp := List.length_pos_iff.mpr hn
    rw [if_pos (by cases ns with
      | nil => exact absurd rfl hn
      | cons x xs => rfl)]
    refine q p2 _ (ns.take 3) (none_back e1 hp2) e2 upd_same ?_ ?_ ?_
    · rw [List.length_take]; omega
    · rw [List.length_take]; omega
    · intro h; rw [List.length_take]; omega
abbrev N__law_cells : List Str := ["_law_script", "_law_most_so", "_law_cells_here", "_law_k", "_law_cell", "_law_at_so"]
theorem sc__law_cells : FnScope N__law_cells ["_law_script", "_law_most_so"] (defScope s__law_cells) := ⟨rfl, rfl, rfl, by decide +kernel, rfl, by decide +kernel, by decide +kernel⟩
/- slots: 0:_law_script 1:_law_most_so 2:_law_cells_here 3:_law_k 4:_law_cell 5:_law_at_so ; cells:  ; callees:  -/
theorem w__law_cells {P : Program} {w : World} {K : PySem.W.Frag} {mg : Str → Option Value} {base : Heap} {f : Addr} {fd : FuncData} (T : Bn mg) (F : FunD K "_law_cells" "_law_cells" (defArgs s__law_cells) (defBody s__law_cells) (defScope s__law_cells) [] [] f fd) (hm : mg "_law_cells" = some (.ref f)) : C8.Cal P w K mg base 1 "_law_cells" (sp__law_cells K) [] := by
  refine cal_raw (N := N__law_cells) (ps := ["_law_script", "_law_most_so"]) F hm sc__law_cells (fun kV doc pm an cdv ct us hl => by match us, hl with | [u0, u1], _ => rfl) (fun vs H Q E h => by obtain ⟨a, ns, rfl, _⟩ := h; rfl) ?_
  intro cdv A outer s H vs Q E hr h
  have nd := sc__law_cells.nd
  refine ⟨_, (pss_cons (ps_set (i := 2) nd rfl (.inl rfl) (pe_orT (pe_callTy (bLst (K := K) rfl) (by rfl) T.blist (by decide +kernel) (pa_cons (pe_slice (yL (K := K) rfl) (pv 0) po_none (po_some (pv 1))) pa_nil)) (pe_one (pe_lst (pa_cons pe_int pa_nil)))))
    (pss_cons (ps_for PassesOwn.never rfl (pi_enum (by rfl) T.benumerate (pa_cons (pe_slice (yL (K := K) rfl) (pv 0) (po_some (pv 1)) (po_some pe_int)) pa_nil)) (gT (K := K) (n := 2) rfl rfl (pgs_cons (pg_name (i := 3) nd rfl (.inl rfl)) (pgs_cons (pg_name (i := 4) nd rfl (.inl rfl)) pgs_nil)))
      (pss_cons (ps_set (i := 5) nd rfl (.inl rfl) (pe_op op_mod (pe_callTy call_int1 (by rfl) T.bint (by decide +kernel) (pa_cons (pv 3) pa_nil)) (pv 1)))
    (pss_one (ps_asg (pe_op op_add (pe_ix (xL (K := K) rfl) (pv 2) (pv 5) (fun _ _ => rfl)) (pe_op op_mul (pv 4) (pe_op op_add (pv 3) pe_int))) (pg_sub (pv 2) (pv 5) set_list)))))
    (pss_one (ps_ret (pv 2))))), ?_⟩
  obtain ⟨a, ns, rfl, hs, few, q⟩ := h
  refine cells1 (K := K) (a := a) (ns := ns) rfl rfl hs fun p H1 ms hp e1 hm m1 m3 m4 => ?_
  refine g_name ?_
  have l6 : (List.set (L2.start N__law_cells [.ref a, .int 3]) 2 (some (V.ref p))).length = 6 := rfl
  have k0 : (List.set (L2.start N__law_cells [.ref a, .int 3]) 2 (some (V.ref p)))[0]? = some (some (.ref a)) := rfl
  have k1 : (List.set (L2.start N__law_cells [.ref a, .int 3]) 2 (some (V.ref p)))[1]? = some (some (.int 3)) := rfl
  have k2 : (List.set (L2.start N__law_cells [.ref a, .int 3]) 2 (some (V.ref p)))[2]? = some (some (.ref p)) := rfl
  generalize List.set (L2.start N__law_cells [.ref a, .int 3]) 2 (some (V.ref p)) = σ1 at l6 k0 k1 k2
  dsimp only
  refine s_for ?_
  refine ⟨_, k0, _, k1, 3, rfl, 63, rfl, a, _, rfl, Evl.ex_l e1 hs, fun p4 hp4 => ?_⟩
  have hcut : cutV (ns.map V.int) (some 3) (some 63) = ((ns.drop 3).take 60).map V.int := by
    rw [show (3 : Int) = ((3 : Nat) : Int) from rfl, show (63 : Int) = ((63 : Nat) : Int) from rfl, cutV_nat, List.map_take, List.map_drop]
  rw [hcut]
  have e4 : Ex H1 (upd H1 p4 (.lst (((ns.drop 3).take 60).map V.int))) := Evl.Ex.new hp4
  have hp4p : p4 ≠ p := fun z => by rw [z, hm] at hp4; cases hp4
  refine ⟨p4, _, rfl, SqL.of upd_same, ?_⟩
  generalize hH4 : upd H1 p4 (.lst (((ns.drop 3).take 60).map V.int)) = H4 at e4
  have hs4 : H4 p4 = some (.lst (((ns.drop 3).take 60).map V.int)) := by rw [← hH4]; exact upd_same
  have hm4 := e4 _ _ hm
  have eH : Ex H (rm H4 p) := fun x o hx => by
    rw [rm_ne fun z => by rw [z, hp] at hx; cases hx]
    exact e4 _ _ (e1 _ _ hx)
  refine raw_forE (H0 := rm H4 p) (good_enum (ns := (ns.drop 3).take 60) (by rw [rm_ne hp4p]; exact hs4)) (fun i σ' H' => Ex (rm H4 p) H' ∧ σ'.length = 6 ∧ σ'[1]? = some (some (.int 3)) ∧ σ'[2]? = some (some (.ref p)) ∧ ∃ ys : List Int, ys.length = ms.length ∧ H' p = some (.lst (ys.map V.int))) (fun i σ' H' iv => iv.1) ⟨ex_rm _ _, l6, k1, k2, ms, rfl, hm4⟩ ?_ ?_
  · rintro i d σ' H' hd ⟨eI, s6, s1, s2, ys, hyl, hy⟩ x H5 e5 hx
    have hi : i < ((ns.drop 3).take 60).length := by
      have := (List.getElem?_eq_some_iff.mp hd).1
      simpa using this
    have hms : ms.length = 3 := m4 (by rw [List.length_take, List.length_drop] at hi; omega)
    rw [List.getElem?_map, List.getElem?_range hi] at hd
    cases hd
    have hx : Hv H5 x (.tuple [.int (i : Nat), .int (((ns.drop 3).take 60).getD i 0)]) := hx
    generalize ((ns.drop 3).take 60).getD i 0 = z at hx
    have S6 : Sl σ' H5 [none, some (.int 3), none, none, none, none] := ⟨s6, fun j d q => by
      match j, q with
      | 0, q => cases q
      | 1, q => cases q; exact ⟨_, s1, .int _⟩
      | 2, q => cases q
      | 3, q => cases q
      | 4, q => cases q
      | 5, q => cases q
      | k + 6, q => simp at q⟩
    refine eg2 (K := K) (vs := [3, 4]) (d := .int (i : Nat)) (e := .int z) (by decide) (by decide) σ' H5 x S6 hx _ fun σ2 S2 w2 => ?_
    have t2 : σ2[2]? = some (some (.ref p)) := (keep_at w2 (by decide)).trans s2
    refine et_I (C := fun _ j => 0 < j) (g := fun i j => i % j) (et_intI et_var) et_var (by decide) σ2 H5 S2 _ fun v6 H6 e6 hv6 => ?_
    refine g_name ?_
    have S7 := (S2.up e6).set 5 hv6
    have t7 : (σ2.set 5 (some v6))[2]? = some (some (.ref p)) := by rw [List.getElem?_set_ne (by decide)]; exact t2
    generalize σ2.set 5 (some v6) = σ7 at S7 t7
    have hy6 := e6 _ _ (e5 _ _ hy)
    have hat : ((i : Nat) : Int) % 3 = ((i % 3 : Nat) : Int) := by omega
    have S8 := S7.know (j := 2) (d := .list (ys.map .int)) t7 ⟨p, _, rfl, hy6, TpAll.ofInts _⟩
    refine et_I0 (g := fun i j => i + j) (et_ixL (n := i % 3) (d := .int (ys.getD (i % 3) 0)) et_var (et_is et_var (congrArg PyData.int hat)) ?_) (et_I (C := CMul) (g := fun i j => i * j) et_var (et_I0 (g := fun i j => i + j) et_var et_int) (.inr ⟨?_, ?_⟩)) σ7 H6 S8 _ fun v9 H9 e9 hv9 => ?_
    · rw [List.getElem?_map, List.getElem?_eq_getElem (by omega), List.getD_eq_getElem?_getD, List.getElem?_eq_getElem (by omega)]; rfl
    · show -(2 ^ 64) < (i : Int) + 2
      omega
    · show (i : Int) + 2 < 2 ^ 64
      rw [List.length_take] at hi
      omega
    rw [hv_int hv9]
    obtain ⟨v5, q5, r5⟩ := S8.2 5 _ rfl
    rw [hv_int r5] at q5
    have hy9 := e9 _ _ hy6
    refine ⟨_, t7, _, q5, p, _, _, i % 3, rfl, rfl, hy9, ?_, ?_⟩
    · rw [hat]
      exact Evl.ixN_nat (by rw [List.length_map]; omega)
    · obtain ⟨v1, q1, r1⟩ := S7.2 1 _ rfl
      rw [hv_int r1] at q1
      refine ⟨(((eI.trans e5).trans e6).trans e9).mut (rm_self _ _), S7.1, q1, t7, ys.set (i % 3) (ys.getD (i % 3) 0 + z * ((i : Nat) + 2)), by rw [List.length_set]; exact hyl, ?_⟩
      rw [upd_same, set_ints]
  · rintro σ' H' ⟨eI, s6, s1, s2, ys, hyl, hy⟩
    exact ⟨_, s2, q p H' ys hp (eH.trans eI) hy (by omega) (by omega)⟩
end K68

namespace K68
open PySem PySem.Spec PyProof.Rows L2
open Evl (Ex)
/-! ### the table -/
theorem rows_of {H : Hp} : ∀ {l : List Er} {xs : List V}, TpAll H xs (l.map erD) → ∃ rows : List PRow, xs = rows.map (fun r => V.ref r.t) ∧ (∀ r ∈ rows, r.At H) ∧ rows.length = l.length ∧ rows.map (fun r => (r.k, r.v)) = l.map rowE
  | [], _, h => by cases h; exact ⟨[], rfl, (fun r hr => by cases hr), rfl, rfl⟩
  | e :: l, _, h => by
    cases h with
    | @cons v r _ _ h1 h2 =>
      obtain ⟨rows, e1, e2, e3, e4⟩ := rows_of h2
      cases h1 with
      | @tup t ys _ q1 q2 =>
        cases q2 with
        | @cons w1 r1 _ _ a1 a2 =>
          cases a2 with
          | @cons w2 r2 _ _ b1 b2 =>
            cases b2
            cases b1
            cases a1 with
            | @tup q zs _ z1 z2 =>
              have : zs = [V.int (e.1.1 : Nat), V.int (e.1.2 : Nat)] := TpAll.ints (ns := [(e.1.1 : Int), (e.1.2 : Int)]) z2
              rw [this] at z1
              refine ⟨⟨t, q, winK e.1, .int e.2⟩ :: rows, by rw [e1]; rfl, fun r hr => ?_, by simp [e3], ?_⟩
              · rcases List.mem_cons.mp hr with h | h
                · rw [h]; exact ⟨q1, z1⟩
                · exact e2 r h
              · rw [List.map_cons, e4]; rfl
theorem put_all : ∀ (l acc : List Er), ((acc ++ l).map (·.1)).Nodup → (l.map rowE).foldl (fun a p => putK a p.1 p.2) (acc.map rowE) = (acc ++ l).map rowE
  | [], acc, _ => by simp
  | e :: l, acc, nd => by
    have hn : valE acc e.1 = none := valE_none.mpr fun x hx z => by
      rw [List.map_append, List.nodup_append] at nd
      exact nd.2.2 x.1 (List.mem_map.mpr ⟨x, hx, rfl⟩) e.1 (List.mem_map.mpr ⟨e, List.mem_cons_self .., rfl⟩) z
    rw [List.map_cons, List.foldl_cons]
    have : putK (acc.map rowE) (rowE e).1 (rowE e).2 = (acc ++ [e]).map rowE := by
      show putK (acc.map rowE) (winK e.1) (.int e.2) = _
      rw [put_rows, putE_new hn]
    rw [this, put_all l (acc ++ [e]) (by rw [List.append_assoc]; exact nd), List.append_assoc]
    rfl
section
variable {ρ : Env} {te : TE}
theorem etf_dictP {l : List Er} (h : ET ρ te (.list (l.map erD))) (nd : (l.map (·.1)).Nodup) (few : l.length ≤ 1000) {σ : L2.St} {H : Hp} (S : Sl σ H ρ) {Q : VK} (q : ∀ p H', H p = none → Ex H H' → H' p = some (.dT (l.map rowE)) → Q (.ref p) H') : tCB rDictP (tCons te tNil) σ H Q := h σ H S _ fun v H1 e1 hv => by
  obtain ⟨a, xs, rfl, h1, h2⟩ := hv
  obtain ⟨rows, r1, r2, r3, r4⟩ := rows_of h2
  subst r1
  refine ⟨a, rows, rfl, h1, r2, by omega, fun p hp => q p _ (none_back e1 hp) (e1.trans (Evl.Ex.new hp)) ?_⟩
  rw [upd_same, r4]
  have := put_all l [] (by simpa using nd)
  unfold putAll
  rw [show ([] : List Er) ++ l = l from rfl] at this
  exact congrArg (fun z => some (HO.dT z)) this
end
def sp__law_table (K : PySem.W.Frag) : Sp := fun vs H Q _ => ∃ (v : V) (T : Nat) (E : List Er) (B : Int), vs = [v] ∧ Hv H v (lotD T E) ∧ LotOk T E ∧ 0 ≤ B ∧ (∀ e ∈ E, e.2 ≤ B) ∧ ∀ (p : Addr) H' (l : List Er), H p = none → Ex H H' → H' p = some (.dT (l.map rowE)) → l.map (·.1) = spans T → (∀ e ∈ l, e.2 ≤ B) → Q (.ref p) H'
abbrev N__law_table : List Str := ["_law_lot_so", "_law_found", "_law_span_so", "_law_many_so"]
theorem sc__law_table : FnScope N__law_table ["_law_lot_so"] (defScope s__law_table) := ⟨rfl, rfl, rfl, by decide +kernel, rfl, by decide +kernel, by decide +kernel⟩
/- slots: 0:_law_lot_so 1:_law_found 2:_law_span_so 3:_law_many_so ; cells:  ; callees: _law_spans -/
theorem w__law_table {P : Program} {w : World} {K : PySem.W.Frag} {mg : Str → Option Value} {base : Heap} {f : Addr} {fd : FuncData} (T : Bn mg) (c__law_spans : C8.Cal P w K mg base 1 "_law_spans" (spD R__law_spans) []) (F : FunD K "_law_table" "_law_table" (defArgs s__law_table) (defBody s__law_table) (defScope s__law_table) [] [] f fd) (hm : mg "_law_table" = some (.ref f)) : C8.Cal P w K mg base 2 "_law_table" (sp__law_table K) [] := by
  refine cal_raw (N := N__law_table) (ps := ["_law_lot_so"]) F hm sc__law_table (fun kV doc pm an cdv ct us hl => by match us, hl with | [u0], _ => rfl) (fun vs H Q E h => by obtain ⟨v, T, E, B, rfl, _⟩ := h; rfl) ?_
  intro cdv A outer s H vs Q E hr h
  have nd := sc__law_table.nd
  refine ⟨_, (pss_cons (ps_set (i := 1) nd rfl (.inl rfl) (pe_callTy (cr_dictP rfl hr.units) (by rfl) T.bdict (by decide +kernel) (pa_cons (pe_lc (own := [("_law_span_so", 2)]) (g := (gName 2)) (tt := tYes)  rfl nd (iL (K := K) rfl (C8.pe_c c__law_spans hr (by decide) (by rfl) (pa_cons (pe_ix (xT (K := K) rfl) (pv 0) pe_int (fun _ _ => rfl)) pa_nil))) (blkOk_by (own := [("_law_span_so", 2)]) (N := N__law_table) (sc := defScope s__law_table) (by decide +kernel)) (fun _ _ _ _ _ => (pg_name (i := 2) nd rfl (.inl rfl))) (fun _ _ _ _ _ => pts_nil) (fun _ _ _ _ _ => (pe_tup (pa_cons (pv 2) (pa_cons pe_int pa_nil))))) pa_nil)))
    (pss_cons (ps_for PassesOwn.never rfl (iT (K := K) rfl (pe_ix (xT (K := K) rfl) (pv 0) pe_int (fun _ _ => rfl))) (gT (K := K) (n := 2) rfl rfl (pgs_cons (pg_name (i := 2) nd rfl (.inl rfl)) (pgs_cons (pg_name (i := 3) nd rfl (.inl rfl)) pgs_nil)))
      (pss_one (ps_dput (hu_of hr) (pv 1) (pv 2) (pv 3) rfl)))
    (pss_one (ps_ret (pv 1))))), ?_⟩
  obtain ⟨v, n, G, M, rfl, hv, hk, hM, hB, q⟩ := h
  have h8 := hk.le8
  have h36 := spans_len n h8
  have S0 : Sl (L2.start N__law_table [v]) H [some (lotD n G), none, none, none] := ⟨rfl, fun j d q => by
    match j, q with
    | 0, q => cases q; exact ⟨v, rfl, hv⟩
    | 1, q => cases q
    | 2, q => cases q
    | 3, q => cases q
    | k + 4, q => simp at q⟩
  generalize L2.start N__law_table [v] = σ at S0
  have hkeys : ((spans n).map fun w => ((w, 0) : Er)).map (·.1) = spans n := by
    rw [List.map_map]
    conv => rhs; rw [← List.map_id (spans n)]
    rfl
  refine etf_dictP (l := (spans n).map fun w => (w, 0)) (et_mapV erD (spans n) winD (fun w => (w, 0)) (it_list (et_call (ea1 (et_ix (n := 0) et_var et_int rfl)) ⟨n, rfl, h8, rfl⟩)) (by omega) fun w hw => ⟨_, eg_name (by decide), et_pair et_var et_int nol_win nol_int, nol_tup⟩) (by rw [hkeys]; exact spans_nd n h8) (by rw [List.length_map]; omega) S0 fun p H1 hp e1 hd => ?_
  refine g_name ?_
  have S1 : Sl (σ.set 1 (some (.ref p))) H1 [some (lotD n G), none, none, none] := ⟨by rw [List.length_set]; exact S0.1, fun i d q => by
    by_cases hi : 1 = i
    · subst hi; cases q
    · rw [List.getElem?_set_ne hi]; exact (S0.up e1).2 i d q⟩
  have k1 : (σ.set 1 (some (V.ref p)))[1]? = some (some (.ref p)) := List.getElem?_set_self (by rw [S0.1]; show 1 < 4; decide)
  generalize σ.set 1 (some (V.ref p)) = σ1 at S1 k1
  dsimp only
  refine s_for ?_
  refine et_ix (n := 1) (d := .tuple (G.map erD)) et_var et_int rfl σ1 H1 S1 _ fun x2 H2 e2 hx2 => ?_
  cases (show Tp H2 x2 (.tuple (G.map erD)) from hx2) with
  | @tup a xs _ z1 z2 =>
  have hd2 := e2 _ _ hd
  have tx : TEx H2 (rm H2 p) := tex_rm fun xs e => by rw [hd2] at e; cases e
  have eH : Ex H (rm H2 p) := fun x o hx => by
    rw [rm_ne fun z => by rw [z, hp] at hx; cases hx]
    exact e2 _ _ (e1 _ _ hx)
  refine ⟨a, rfl, ⟨xs, SqT.of z1⟩, raw_forE (H0 := rm H2 p) (l := G.map erD) (good_tup (tx _ _ z1) (z2.mono tx)) (fun i σ' H' => Ex (rm H2 p) H' ∧ σ'.length = 4 ∧ σ'[1]? = some (some (.ref p)) ∧ ∃ l : List Er, H' p = some (.dT (l.map rowE)) ∧ l.map (·.1) = spans n ∧ ∀ e ∈ l, e.2 ≤ M) (fun i σ' H' iv => iv.1) ⟨ex_rm _ _, S1.1, k1, _, hd2, hkeys, fun e he => ?_⟩ ?_ ?_⟩
  · obtain ⟨w, _, rfl⟩ := List.mem_map.mp he
    exact hM
  · rintro i dd σ' H' hdd ⟨eI, s4, s1, l, hl, hlk, hlb⟩ x H3 e3 hx
    rw [List.getElem?_map] at hdd
    obtain ⟨e, he, rfl⟩ : ∃ e, G[i]? = some e ∧ erD e = dd := by
      cases he : G[i]? with
      | none => rw [he] at hdd; cases hdd
      | some e => rw [he] at hdd; exact ⟨e, rfl, Option.some.inj hdd⟩
    have hm := List.mem_of_getElem? he
    have S4 : Sl σ' H3 [none, none, none, none] := ⟨s4, fun j d q => by
      match j, q with
      | 0, q => cases q
      | 1, q => cases q
      | 2, q => cases q
      | 3, q => cases q
      | k + 4, q => simp at q⟩
    refine eg2 (K := K) (vs := [2, 3]) (d := winD e.1) (e := .int e.2) (by decide) (by decide) σ' H3 x S4 hx _ fun σ2 S2 w2 => ?_
    have t1 : σ2[1]? = some (some (.ref p)) := (keep_at w2 (by decide)).trans s1
    obtain ⟨v3, q3, r3⟩ := S2.2 3 _ rfl
    rw [hv_int r3] at q3
    obtain ⟨v2, q2, r2⟩ := S2.2 2 _ rfl
    have hl3 := e3 _ _ hl
    refine ⟨_, q3, _, t1, _, q2, ?_⟩
    cases (show Tp H3 v2 (winD e.1) from r2) with
    | @tup b ys _ u1 u2 =>
    have : ys = [V.int (e.1.1 : Nat), V.int (e.1.2 : Nat)] := TpAll.ints (ns := [(e.1.1 : Int), (e.1.2 : Int)]) u2
    rw [this] at u1
    have hll : l.length ≤ 36 := by
      have := congrArg List.length hlk
      rw [List.length_map] at this
      omega
    refine ⟨p, _, rfl, DPut.t (k := winK e.1) hl3 u1 (by rw [List.length_map]; exact small1000 (by omega)), (eI.trans e3).mut (rm_self _ _), S2.1, t1, putE l e.1 e.2, by rw [upd_same, put_rows], ?_, fun y hy => ?_⟩
    · rw [putE_old, hlk]
      have := mem_spans.mpr (hk.win e hm)
      rw [← hlk] at this
      exact List.mem_map.mp this
    · rcases putE_mem hy with h | h
      · exact hlb y h
      · rw [h]; exact hB e hm
  · rintro σ' H' ⟨eI, s4, s1, l, hl, hlk, hlb⟩
    exact ⟨_, s1, q p H' l hp (eH.trans eI) hl hlk hlb⟩
end K68

namespace K68
open PySem PySem.Spec PyProof.Rows L2
open Evl (Ex)
/-- the slots of a lap's start -/
def mvE (T : Nat) (E x : List Er) : Env := [none, some (lotD T E), some (.int 3), none, some (dictD x), some (.int ((T - 1 : Nat) : Int)), none, none, none, none, none, none, none, none]
theorem leJ {T : Nat} {E x : List Er} {a0 a3 a6 a7 a8 a9 a10 a11 a12 a13 : Option PyData} : Le [a0, some (lotD T E), some (.int 3), a3, some (dictD x), some (.int ((T - 1 : Nat) : Int)), a6, a7, a8, a9, a10, a11, a12, a13] (mvE T E x) :=
  le_of ⟨.inl rfl, .inr rfl, .inr rfl, .inl rfl, .inr rfl, .inr rfl, .inl rfl, .inl rfl, .inl rfl, .inl rfl, .inl rfl, .inl rfl, .inl rfl, .inl rfl, True.intro⟩
/-- the table: every window, bounded -/
structure Tab (T : Nat) (b : Int) (x : List Er) : Prop where
  ks : x.map (·.1) = spans T
  le : ∀ e ∈ x, e.2 ≤ b
theorem Tab.at {T : Nat} {b : Int} {x : List Er} (h : Tab T b x) {w : Win} (hw : w ∈ spans T) : ∃ v, valE x w = some v ∧ v ≤ b := by
  rw [← h.ks] at hw
  obtain ⟨e, he, hw⟩ := List.mem_map.mp hw
  obtain ⟨v, hv⟩ := valE_in ⟨e, he, hw⟩
  exact ⟨v, hv, h.le _ (valE_mem hv)⟩
theorem Tab.put {T : Nat} {b c : Int} {x : List Er} (h : Tab T b x) {w : Win} (hw : w ∈ spans T) {v : Int} (hv : v ≤ c) (hbc : b ≤ c) : Tab T c (putE x w v) := ⟨by
  rw [putE_old, h.ks]
  rw [← h.ks] at hw
  exact List.mem_map.mp hw, fun e he => by
  rcases putE_mem he with q | q
  · have := h.le e q; omega
  · rw [q]; exact hv⟩
theorem Tab.len {T : Nat} {b : Int} {x : List Er} (h : Tab T b x) (h8 : T ≤ 8) : x.length ≤ 36 := by
  have := congrArg List.length h.ks
  rw [List.length_map] at this
  rw [this]
  exact spans_len T h8
theorem Tab.up {T : Nat} {b c : Int} {x : List Er} (h : Tab T b x) (hbc : b ≤ c) : Tab T c x := ⟨h.ks, fun e he => by have := h.le e he; omega⟩
def NdE (ρ : Env) : Prop := ∀ (i : Nat) (d : PyData), ρ[i]? = some (some d) → NoL d ∨ ∃ ds, d = .list ds
def NdB : Env → Prop
  | [] => True
  | none :: r => NdB r
  | some d :: r => (NoL d ∨ ∃ ds, d = .list ds) ∧ NdB r
theorem ndE : ∀ {ρ : Env}, NdB ρ → NdE ρ
  | none :: r, h, i, d, e => by
    cases i with
    | zero => cases e
    | succ i => exact ndE (ρ := r) h i d (by simpa using e)
  | some d' :: r, h, i, d, e => by
    cases i with
    | zero => cases e; exact h.1
    | succ i => exact ndE (ρ := r) h.2 i d (by simpa using e)
  | [], h, i, d, e => by simp at e
def R__law_moved (ds : List PyData) (n : Nat) (Po : PyData → Nat → Prop) : Prop := ∃ (T : Nat) (E : List Er), ds = [lotD T E, .int 3] ∧ LotOk T E ∧ (∀ e ∈ E, e.2 ≤ 100) ∧ n ≤ 900000 ∧ Po = fun d m => (∃ E', LotOk T E' ∧ (∀ e ∈ E', e.2 ≤ 200) ∧ d = lotD T E') ∧ m = n + 20
abbrev N__law_moved : List Str := ["_law_box_here", "_law_lot_so", "_law_laps_so", "_law_turn", "_law_table_so", "_law_last_so", "_law_some", "_law_sort_so", "_law_own", "_law_far_so", "_law_one_so", "_law_two_so", "_law_near_so", "_law_sign_so"]
theorem sc__law_moved : FnScope N__law_moved ["_law_box_here", "_law_lot_so", "_law_laps_so"] (defScope s__law_moved) := ⟨rfl, rfl, rfl, by decide +kernel, rfl, by decide +kernel, by decide +kernel⟩
/- slots: 0:_law_box_here 1:_law_lot_so 2:_law_laps_so 3:_law_turn 4:_law_table_so 5:_law_last_so 6:_law_some 7:_law_sort_so 8:_law_own 9:_law_far_so 10:_law_one_so 11:_law_two_so 12:_law_near_so 13:_law_sign_so ; cells: _law_table_so ; callees: _law_table _law_take _law_spans _law_of _law_made -/
theorem w__law_moved {P : Program} {w : World} {K : PySem.W.Frag} {mg : Str → Option Value} {base : Heap} {f : Addr} {fd : FuncData} (T : Bn mg) (c__law_table : C8.Cal P w K mg base 2 "_law_table" (sp__law_table K) []) (c__law_take : C8.Cal P w K mg base 1 "_law_take" (spB R__law_take) []) (c__law_spans : C8.Cal P w K mg base 1 "_law_spans" (spD R__law_spans) []) (c__law_of : C8.Cal P w K mg base 2 "_law_of" (spB R__law_of) []) (c__law_made : C8.Cal P w K mg base 1 "_law_made" (spM R__law_made) []) (F : FunD K "_law_moved" "_law_moved" (defArgs s__law_moved) (defBody s__law_moved) (defScope s__law_moved) [] [] f fd) (hm : mg "_law_moved" = some (.ref f)) : C8.Cal P w K mg base 3 "_law_moved" (spB R__law_moved) [] := by
  refine cal_ofB (N := N__law_moved) (ps := ["_law_box_here", "_law_lot_so", "_law_laps_so"]) [4] F hm sc__law_moved (fun kV doc pm an cdv ct us hl => by match us, hl with | [u0, u1, u2], _ => rfl) (fun ds n Po h => by obtain ⟨n, G, rfl, hk, hB, hn, rfl⟩ := h; rfl) (by decide) ?_
  intro cdv A outer s H E hr
  have nd := sc__law_moved.nd
  refine ⟨_, (pss_cons (ps_asg (pe_tup (pa_cons (C8.pe_c c__law_table hr (by decide) (by rfl) (pa_cons (pv 1) pa_nil)) (pa_cons (pe_op op_sub (pe_ix (xT (K := K) rfl) (pv 1) pe_int (fun _ _ => rfl)) pe_int) pa_nil))) (gT (K := K) (n := 2) rfl rfl (pgs_cons (pg_name (i := 4) nd rfl (.inr rfl)) (pgs_cons (pg_name (i := 5) nd rfl (.inl rfl)) pgs_nil))))
    (pss_cons (ps_for PassesOwn.never rfl (pi_range1 (by rfl) T.brange (pa_cons (pv 2) pa_nil)) (pg_name (i := 3) nd rfl (.inl rfl))
      (pss_cons (ps_setLc (i := 6) (own := [("_law_own", 8)]) (g := (gName 8))  rfl nd rfl rfl (sw_true rfl rfl rfl (by decide +kernel)) (iL (K := K) rfl (pe_callB (cr_sortK rfl hr.units) (by rfl) T.bsorted (by decide +kernel) (pa_cons (pv 4) pa_nil))) (blkOk_by (own := [("_law_own", 8)]) (N := N__law_moved) (sc := defScope s__law_moved) (by decide +kernel)) (fun _ _ _ _ _ => (pg_name (i := 8) nd rfl (.inl rfl))) (fun _ _ _ _ _ => (pts_one (pt_cmpR op_gt (pe_dget (hu_of hr) (pv 4) (pv 8) (fun _ _ => rfl)) pe_int (nomark _)))) (fun _ _ _ _ _ => (pv 8)))
    (pss_cons (ps_set (i := 7) nd rfl (.inl rfl) (C8.pe_c c__law_take hr (by decide) (by rfl) (pa_cons (pv 0) (pa_cons pe_int pa_nil))))
    (pss_one (ps_if (pw_or (pt_cmpR (oEqD (K := K) rfl hr.units) (pv 6) (pe_lst pa_nil) (nomark _)) (pw_or1 (pt_cmpR op_eq (pv 7) pe_int (nomark _)))).pt
      (pss_cons (ps_set (i := 8) nd rfl (.inl rfl) (C8.pe_c c__law_of hr (by decide) (by rfl) (pa_cons (pv 0) (pa_cons (C8.pe_c c__law_spans hr (by decide) (by rfl) (pa_cons (pe_ix (xT (K := K) rfl) (pv 1) pe_int (fun _ _ => rfl)) pa_nil)) pa_nil))))
    (pss_one (ps_dput (hu_of hr) (pv 4) (pv 8) (pe_op op_add (pe_op op_add (pe_dget (hu_of hr) (pv 4) (pv 8) (fun _ _ => rfl)) pe_int) (C8.pe_c c__law_take hr (by decide) (by rfl) (pa_cons (pv 0) (pa_cons pe_int pa_nil)))) rfl))) (pss_one (ps_if (pt_cmpR op_eq (pv 7) pe_int (nomark _))
      (pss_cons (ps_set (i := 8) nd rfl (.inl rfl) (C8.pe_c c__law_of hr (by decide) (by rfl) (pa_cons (pv 0) (pa_cons (pv 6) pa_nil))))
    (pss_one (ps_dput (hu_of hr) (pv 4) (pv 8) (pe_op op_sub (pe_dget (hu_of hr) (pv 4) (pv 8) (fun _ _ => rfl)) pe_int) rfl))) (pss_one (ps_if (pt_cmpR op_eq (pv 7) pe_int (nomark _))
      (pss_cons (ps_set (i := 8) nd rfl (.inl rfl) (C8.pe_c c__law_of hr (by decide) (by rfl) (pa_cons (pv 0) (pa_cons (pv 6) pa_nil))))
    (pss_cons (ps_set (i := 9) nd rfl (.inl rfl) (pe_tup (pa_cons (pe_callB (call_max2 rfl) (by rfl) T.bmax (by decide +kernel) (pa_cons pe_int (pa_cons (pe_op op_sub (pe_ix (xT (K := K) rfl) (pv 8) pe_int (fun _ _ => rfl)) (C8.pe_c c__law_take hr (by decide) (by rfl) (pa_cons (pv 0) (pa_cons pe_int pa_nil)))) pa_nil))) (pa_cons (pe_callB (call_min2 rfl) (by rfl) T.bmin (by decide +kernel) (pa_cons (pv 5) (pa_cons (pe_op op_add (pe_ix (xT (K := K) rfl) (pv 8) pe_int (fun _ _ => rfl)) (C8.pe_c c__law_take hr (by decide) (by rfl) (pa_cons (pv 0) (pa_cons pe_int pa_nil)))) pa_nil))) pa_nil))))
    (pss_cons (ps_dput (hu_of hr) (pv 4) (pv 8) (pe_op op_sub (pe_dget (hu_of hr) (pv 4) (pv 8) (fun _ _ => rfl)) pe_int) rfl)
    (pss_one (ps_dput (hu_of hr) (pv 4) (pv 9) (pe_op op_add (pe_dget (hu_of hr) (pv 4) (pv 9) (fun _ _ => rfl)) pe_int) rfl))))) (pss_cons (ps_par (i := 10) (j := 11) (by rfl) nd rfl rfl (by decide) rfl rfl (pa_cons (C8.pe_c c__law_of hr (by decide) (by rfl) (pa_cons (pv 0) (pa_cons (pv 6) pa_nil))) (pa_cons (C8.pe_c c__law_of hr (by decide) (by rfl) (pa_cons (pv 0) (pa_cons (pv 6) pa_nil))) pa_nil)) (by rfl))
    (pss_one (ps_if (pw_and (pt_cmpR (oNeD (K := K) rfl hr.units) (pv 10) (pv 11) (nomark _)) (pw_and (pt_cmpR op_le (pe_ix (xT (K := K) rfl) (pv 10) pe_int (fun _ _ => rfl)) (pe_ix (xT (K := K) rfl) (pv 11) pe_int (fun _ _ => rfl)) (nomark _)) (pw_and1 (pt_cmpR op_le (pe_ix (xT (K := K) rfl) (pv 11) pe_int (fun _ _ => rfl)) (pe_ix (xT (K := K) rfl) (pv 10) pe_int (fun _ _ => rfl)) (nomark _))))).pt
      (pss_cons (ps_par (i := 12) (j := 9) (by rfl) nd rfl rfl (by decide) rfl rfl (pa_cons (pe_tup (pa_cons (pe_ix (xT (K := K) rfl) (pv 10) pe_int (fun _ _ => rfl)) (pa_cons (pe_ix (xT (K := K) rfl) (pv 11) pe_int (fun _ _ => rfl)) pa_nil))) (pa_cons (pe_tup (pa_cons (pe_ix (xT (K := K) rfl) (pv 11) pe_int (fun _ _ => rfl)) (pa_cons (pe_ix (xT (K := K) rfl) (pv 10) pe_int (fun _ _ => rfl)) pa_nil))) pa_nil)) (by rfl))
    (pss_one (ps_for PassesOwn.never rfl (iT (K := K) rfl (pe_tup (pa_cons (pe_tup (pa_cons (pv 10) (pa_cons (pe_un un_neg pe_int) pa_nil))) (pa_cons (pe_tup (pa_cons (pv 11) (pa_cons (pe_un un_neg pe_int) pa_nil))) (pa_cons (pe_tup (pa_cons (pv 12) (pa_cons pe_int pa_nil))) (pa_cons (pe_tup (pa_cons (pv 9) (pa_cons pe_int pa_nil))) pa_nil)))))) (gT (K := K) (n := 2) rfl rfl (pgs_cons (pg_name (i := 8) nd rfl (.inl rfl)) (pgs_cons (pg_name (i := 13) nd rfl (.inl rfl)) pgs_nil)))
      (pss_one (ps_dput (hu_of hr) (pv 4) (pv 8) (pe_op op_add (pe_dget (hu_of hr) (pv 4) (pv 8) (fun _ _ => rfl)) (pv 13)) rfl))))) pss_nil))))))))))))
    (pss_one (ps_ret (C8.pe_c c__law_made hr (by decide) (by rfl) (pa_cons (pe_ix (xT (K := K) rfl) (pv 1) pe_int (fun _ _ => rfl)) (pa_cons (pv 4) pa_nil))))))), ?_⟩
  intro ds n0 Po h
  obtain ⟨n, G, rfl, hk, hB, hn, rfl⟩ := h
  have h8 := hk.le8
  have h1 := hk.pos
  have h36 := spans_len n h8
  intro B bx σ H S D nx r
  obtain ⟨vl, sl1, hl1⟩ := S.sl.2 1 _ rfl
  refine ⟨vl, sl1, vl, n, G, 100, rfl, hl1, hk, by decide, hB, fun p H1 l hp e1 hd hks hb => ?_⟩
  have S1 := S.up e1
  refine et_I0 (g := fun i j => i - j) (et_ix (n := 0) et_var et_int rfl) et_int σ H1 S1.sl _ fun v2 H2 e2 hv2 => ?_
  have S2 := S1.up e2
  refine ⟨by show 2 ≤ sizeLine; decide, fun t ht => ?_⟩
  have e3 : Ex H2 (upd H2 t (.tup [.ref p, v2])) := Evl.Ex.new ht
  have S3 := S2.up e3
  have hd3 := e3 _ _ (e2 _ _ hd)
  refine ⟨t, [.ref p, v2], rfl, SqT.of upd_same, rfl, .ref p, [v2], rfl, g_name ⟨v2, [], rfl, g_name ⟨rfl, ?_⟩⟩⟩
  generalize upd H2 t (.tup [.ref p, v2]) = H3 at e3 S3 hd3
  have hlast : ((n : Int) - 1) = ((n - 1 : Nat) : Int) := by omega
  have S4 : StX B bx [4] n0 (mvE n G l) ((σ.set 4 (some (.ref p))).set 5 (some v2)) H3 := by
    have hpB : B p = none ∧ p ≠ bx := by
      refine ⟨?_, S.bx.ne hp⟩
      cases hB' : B p with
      | none => rfl
      | some o => rw [S.ex _ _ hB'] at hp; cases hp
    have hlen := S3.sl.1
    have z : Sl ((σ.set 4 (some (.ref p))).set 5 (some v2)) H3 (((none :: env0 (N__law_moved.length - 1) [lotD n G, .int 3]).set 4 (some (dictD l))).set 5 (some (.int ((n - 1 : Nat) : Int)))) := (S3.sl.set 4 (d := dictD l) (v := .ref p) ⟨p, rfl, by rw [dict_rows]; exact hd3⟩).set 5 (by rw [← hlast]; exact hv2.up e3)
    refine ⟨S3.ex, S3.nb, z.weak (le_of ⟨.inl rfl, .inr rfl, .inr rfl, .inl rfl, .inr rfl, .inr rfl, .inl rfl, .inl rfl, .inl rfl, .inl rfl, .inl rfl, .inl rfl, .inl rfl, .inl rfl, True.intro⟩), ?_, S3.bx, fun j hj a ha => ?_⟩
    · rw [List.getElem?_set_ne (by decide), List.getElem?_set_ne (by decide)]
      exact S3.b0
    · rw [List.mem_singleton] at hj
      subst hj
      rw [List.getElem?_set_ne (by decide), List.getElem?_set_self (by rw [hlen]; show 4 < 14; decide)] at ha
      cases ha
      exact hpB
  dsimp only
  refine (?_ : OX [4] n0 (mvE n G l) _ _ _) B bx _ H3 S4 D nx r
  clear S4 S3 S2 S1 S hd3 e3 ht hv2 e2 e1 hd hp
  refine ox_forG (ι := List Er) (fun x => mvE n G x) (fun i x m => m ≤ n0 + 4 * i ∧ Tab n (100 + 8 * (i : Nat)) x) (ITG.is (itg_range1 (k := 3) et_var (by decide)) (rng0 3)) l ⟨Nat.le_refl _, hks, fun e he => by have := hb e he; simpa using this⟩ (Le.refl _) (by decide) (by decide) ?_ ?_
  · rintro i d x m hd ⟨hm, hT⟩
    have hi : i < 3 := by
      have := (List.getElem?_eq_some_iff.mp hd).1
      simpa using this
    rw [List.getElem?_map, List.getElem?_range hi] at hd
    cases hd
    refine ⟨ap_nol nol_int, nol_int, ?_⟩
    have hxl := hT.len h8
    refine ox_let (i := 6) (Po := fun d m' => (∃ ws : List Win, (∀ w ∈ ws, w ∈ spans n) ∧ ws.length ≤ 36 ∧ d = .list (ws.map winD)) ∧ m' = m) (ETX.imp (ETN.x (etn_lc winD (fun a => decide (0 < (valE x a).getD 0)) winD (etn_sortK et_var (by omega)) (fun ws hp => by rw [hp.length_eq, List.length_map]; omega) fun ws hp a ha => ?_)) fun d m' p => ?_) (by decide) (by decide) ?_
    · have ha : a ∈ spans n := by rw [← hT.ks]; exact hp.subset ha
      obtain ⟨v, hv, _⟩ := hT.at ha
      rw [hv]
      exact ⟨_, eg_name (by decide), eb_test (et_B0 (g := fun i j => decide (j < i)) (et_dget et_var et_var hv) et_int), fun _ => ⟨et_var, nol_win⟩⟩
    · obtain ⟨⟨ws, hp, rfl⟩, rfl⟩ := p
      refine ⟨⟨_, fun w hw => ?_, ?_, rfl⟩, rfl⟩
      · have := (List.mem_filter.mp hw).1
        rw [← hT.ks]
        exact hp.subset this
      · refine Nat.le_trans (List.length_filter_le _ _) ?_
        rw [hp.length_eq, List.length_map]
        exact hxl
    rintro _ m1 ⟨⟨ws, hws, hwl, rfl⟩, hm1⟩
    have hm1 := hm1.symm
    subst hm1
    refine ox_let (i := 7) (ix_take et_int (by decide) (by omega) ⟨ap_nol nol_tup, ap_nol nol_int, ap_nol nol_int, ap_nol nol_int, ap_wins, True.intro⟩) (by decide) (by decide) ?_
    rintro _ _ ⟨so, rfl, ⟨so0, so5⟩, rfl⟩
    have fin : ∀ {y : List Er} {m' : Nat} {ρ' : Env}, Tab n (100 + 8 * (i : Nat) + 8) y → m' ≤ m + 4 → Le ρ' (mvE n G y) → ∃ y, (m' ≤ n0 + 4 * (i + 1) ∧ Tab n (100 + 8 * ((i + 1 : Nat) : Int)) y) ∧ Le ρ' (mvE n G y) := fun {y m' ρ'} h1 h2 h3 => ⟨y, ⟨by omega, h1.up (by omega)⟩, h3⟩
    have hof : ∀ {ws : List Win}, (∀ w ∈ ws, w ∈ spans n) → ∀ d m', ((∃ w, w ∈ ws ∧ d = winD w) ∧ m' = m + 1 + 1) → ∃ w, w ∈ spans n ∧ d = winD w ∧ m' = m + 2 := fun {ws} h d m' p => by
      obtain ⟨⟨w, h1, h2⟩, rfl⟩ := p
      exact ⟨w, h w h1, h2, rfl⟩
    refine ox_if (EB.x (eb_or (eb_test (et_nilL (l := ws) et_var (fun v => sm_mono (sm_win v) (by decide)))) fun _ => eb_test (et_eqI et_var et_int))) (fun m' p => ?_) fun m' p => ?_
    · obtain ⟨_, rfl⟩ := p
      refine ox_let (i := 8) (ETX.imp (etx_call (ea1 (et_call (ea1 (et_ix (n := 0) et_var et_int rfl)) ⟨n, rfl, h8, rfl⟩)) ⟨spans n, rfl, spans_ne h1, h36, by omega, rfl⟩ ⟨ap_nol nol_tup, ap_nol nol_int, ap_nol nol_int, ap_nol nol_int, ap_wins, ap_nol nol_int, True.intro⟩) (hof fun w hw => hw)) (by decide) (by decide) ?_
      rintro _ _ ⟨w, hw, rfl, rfl⟩
      obtain ⟨v, hv, hvb⟩ := hT.at hw
      refine ox_dput (j := 4) (l := x) (w := w) rfl (by decide) (ndE ⟨.inl nol_tup, .inl nol_int, .inl nol_int, .inl nol_int, .inr ⟨_, rfl⟩, .inl nol_int, .inl nol_win, True.intro⟩) (by omega) (ix_two (f := fun i j => i + j) (ix_pure (et_I0 (g := fun i j => i + j) (et_dget et_var et_var hv) et_int)) (ix_take et_int (by decide) (by omega) ⟨ap_nol nol_tup, ap_nol nol_int, ap_nol nol_int, ap_nol nol_int, ap_wins, ap_nol nol_int, ap_nol nol_win, True.intro⟩)) et_var ?_
      rintro z ⟨z1, z2, rfl, ⟨z3, z4⟩, rfl⟩
      exact fin (hT.put hw (v := v + 1 + z2) (by omega) (by omega)) (by omega) leJ
    · obtain ⟨hb, rfl⟩ := p
      have hne : ws ≠ [] := fun z => by rw [z] at hb; simp at hb
      refine ox_if (EB.x (eb_test (et_eqI et_var et_int))) (fun m' p => ?_) fun m' p => ?_
      · obtain ⟨_, rfl⟩ := p
        refine ox_let (i := 8) (ETX.imp (etx_call (ea1 et_var) ⟨ws, rfl, hne, hwl, by omega, rfl⟩ ⟨ap_nol nol_tup, ap_nol nol_int, ap_nol nol_int, ap_nol nol_int, ap_wins, ap_nol nol_int, True.intro⟩) (hof hws)) (by decide) (by decide) ?_
        rintro _ _ ⟨w, hw, rfl, rfl⟩
        obtain ⟨v, hv, hvb⟩ := hT.at hw
        refine ox_dput (j := 4) (l := x) (w := w) rfl (by decide) (ndE ⟨.inl nol_tup, .inl nol_int, .inl nol_int, .inl nol_int, .inr ⟨_, rfl⟩, .inl nol_int, .inl nol_win, True.intro⟩) (by omega) (ix_pure (et_I0 (g := fun i j => i - j) (et_dget et_var et_var hv) et_int)) et_var ?_
        rintro z rfl
        exact fin (hT.put hw (v := v - 1) (by omega) (by omega)) (by omega) leJ
      · obtain ⟨_, rfl⟩ := p
        refine ox_if (EB.x (eb_test (et_eqI et_var et_int))) (fun m' p => ?_) fun m' p => ?_
        · obtain ⟨_, rfl⟩ := p
          refine ox_let (i := 8) (ETX.imp (etx_call (ea1 et_var) ⟨ws, rfl, hne, hwl, by omega, rfl⟩ ⟨ap_nol nol_tup, ap_nol nol_int, ap_nol nol_int, ap_nol nol_int, ap_wins, ap_nol nol_int, True.intro⟩) (hof hws)) (by decide) (by decide) ?_
          rintro _ _ ⟨w, hw, rfl, rfl⟩
          obtain ⟨v, hv, hvb⟩ := hT.at hw
          have hw' := mem_spans.mp hw
          have apw : ∀ {q : Nat}, q ≤ 3 → ApE (wipeD ((((((mvE n G x).set 3 (some (PyData.int (i : Nat)))).set 6 (some (.list (ws.map winD)))).set 7 (some (.int so))).set 8 (some (winD w)))) [4]) := fun _ => ⟨ap_nol nol_tup, ap_nol nol_int, ap_nol nol_int, ap_nol nol_int, ap_wins, ap_nol nol_int, ap_nol nol_win, True.intro⟩
          refine ox_let (i := 9) (Po := fun d m' => ∃ u : Win, u ∈ spans n ∧ d = winD u ∧ m' = m + 4) (ETX.imp (etx_pairI (ix_mm (f := fun i j => if j > i then j else i) (ix_pure et_int) (ix_two (f := fun i j => i - j) (ix_pure (et_ix (n := 0) et_var et_int rfl)) (ix_take et_int (by decide) (by omega) (apw (q := 0) (by decide))))) (ix_mm (f := fun i j => if j < i then j else i) (ix_pure et_var) (ix_two (f := fun i j => i + j) (ix_pure (et_ix (n := 1) et_var et_int rfl)) (ix_take et_int (by decide) (by omega) (apw (q := 0) (by decide)))))) fun d m' p => ?_) (by decide) (by decide) ?_
          · obtain ⟨a, b, rfl, ⟨a1, a2, rfl, ⟨a3, a4, rfl, ⟨a5, a6⟩, rfl⟩, rfl⟩, ⟨b1, b2, rfl, ⟨b3, b4, rfl, ⟨b5, b6⟩, rfl⟩, rfl⟩, rfl⟩ := p
            generalize hA : (if (w.1 : Int) - a4 > 0 then (w.1 : Int) - a4 else 0) = A
            generalize hB' : (if (w.2 : Int) + b4 < ((n - 1 : Nat) : Int) then (w.2 : Int) + b4 else ((n - 1 : Nat) : Int)) = B'
            have hA1 : 0 ≤ A ∧ A ≤ w.1 := by rw [← hA]; split <;> omega
            have hB1 : (w.2 : Int) ≤ B' ∧ B' < n := by rw [← hB']; split <;> omega
            refine ⟨(A.toNat, B'.toNat), mem_spans.mpr ⟨by show A.toNat ≤ B'.toNat; omega, by show B'.toNat < n; omega⟩, ?_, rfl⟩
            unfold winD
            show PyData.tuple [.int A, .int B'] = .tuple [.int ((A.toNat : Nat) : Int), .int ((B'.toNat : Nat) : Int)]
            rw [Int.toNat_of_nonneg hA1.1, Int.toNat_of_nonneg (by omega)]
          · rintro _ _ ⟨u, hu, rfl, rfl⟩
            have t1 := hT.put hw (v := v - 1) (c := 100 + 8 * (i : Nat)) (by omega) (Int.le_refl _)
            obtain ⟨v', hv', hvb'⟩ := t1.at hu
            have htl := t1.len h8
            refine ox_seq (M := fun ρ' m' => ρ' = (((((((mvE n G x).set 3 (some (PyData.int (i : Nat)))).set 6 (some (.list (ws.map winD)))).set 7 (some (.int so))).set 8 (some (winD w))).set 9 (some (winD u))).set 4 (some (dictD (putE x w (v - 1))))) ∧ m' = m + 4) (ox_dput (j := 4) (l := x) (w := w) rfl (by decide) (ndE ⟨.inl nol_tup, .inl nol_int, .inl nol_int, .inl nol_int, .inr ⟨_, rfl⟩, .inl nol_int, .inl nol_win, .inl nol_win, True.intro⟩) (by omega) (ix_pure (et_I0 (g := fun i j => i - j) (et_dget et_var et_var hv) et_int)) et_var ?_) ?_
            · rintro z rfl
              exact ⟨rfl, rfl⟩
            · rintro ρ' m' ⟨rfl, rfl⟩
              refine ox_dput (j := 4) (l := putE x w (v - 1)) (w := u) rfl (by decide) (ndE ⟨.inl nol_tup, .inl nol_int, .inl nol_int, .inl nol_int, .inr ⟨_, rfl⟩, .inl nol_int, .inl nol_win, .inl nol_win, True.intro⟩) (by omega) (ix_pure (et_I0 (g := fun i j => i + j) (et_dget et_var et_var hv') et_int)) et_var ?_
              rintro z rfl
              exact fin (t1.put hu (v := v' + 1) (by omega) (by omega)) (by omega) leJ
        · obtain ⟨_, rfl⟩ := p
          refine ox_let2 (i := 10) (j := 11) (ETX.imp (etx_call (ea1 et_var) ⟨ws, rfl, hne, hwl, by omega, rfl⟩ ⟨ap_nol nol_tup, ap_nol nol_int, ap_nol nol_int, ap_nol nol_int, ap_wins, ap_nol nol_int, True.intro⟩) (hof hws)) (fun d m' p => by obtain ⟨w, _, rfl, _⟩ := p; exact nol_win) (P2 := fun d m' => ∃ w, w ∈ spans n ∧ d = winD w ∧ m' = m + 3) (fun d m' p => ?_) (by decide) (by decide) (by decide) (by decide) ?_
          · obtain ⟨w, _, rfl, rfl⟩ := p
            refine ETX.imp (etx_call (ea1 et_var) ⟨ws, rfl, hne, hwl, by omega, rfl⟩ ⟨ap_nol nol_tup, ap_nol nol_int, ap_nol nol_int, ap_nol nol_int, ap_wins, ap_nol nol_int, True.intro⟩) fun d m' p => ?_
            obtain ⟨⟨w, h1, h2⟩, rfl⟩ := p
            exact ⟨w, hws w h1, h2, rfl⟩
          · rintro _ _ _ _ ⟨a, ha, rfl, rfl⟩ ⟨b, hb', rfl, rfl⟩
            have ha' := mem_spans.mp ha
            have hb'' := mem_spans.mp hb'
            refine ox_if (EB.x (eb_and (eb_test (et_ned et_var et_var nol_win nol_win ((sm_win a).shaped (by decide)) ((sm_win b).shaped (by decide)))) fun _ => eb_and (eb_test (et_B0 (g := fun i j => decide (i ≤ j)) (et_ix (n := 0) et_var et_int rfl) (et_ix (n := 1) et_var et_int rfl))) fun _ => eb_test (et_B0 (g := fun i j => decide (i ≤ j)) (et_ix (n := 0) et_var et_int rfl) (et_ix (n := 1) et_var et_int rfl)))) (fun m' p => ?_) fun m' p => ?_
            · obtain ⟨hc, rfl⟩ := p
              have hc := hc.symm
              rw [Bool.and_eq_true, Bool.and_eq_true, decide_eq_true_iff, decide_eq_true_iff] at hc
              obtain ⟨_, c1, c2⟩ := hc
              have hn1 : ((a.1, b.2) : Win) ∈ spans n := mem_spans.mpr ⟨by show a.1 ≤ b.2; omega, by show b.2 < n; omega⟩
              have hn2 : ((b.1, a.2) : Win) ∈ spans n := mem_spans.mpr ⟨by show b.1 ≤ a.2; omega, by show a.2 < n; omega⟩
              refine ox_let2 (i := 12) (j := 9) (P1 := fun d m' => d = winD (a.1, b.2) ∧ m' = m + 3) (P2 := fun d m' => d = winD (b.1, a.2) ∧ m' = m + 3) (ET.x (et_pair (et_ix (n := 0) et_var et_int rfl) (et_ix (n := 1) et_var et_int rfl) nol_int nol_int)) (fun d m' p => by obtain ⟨rfl, _⟩ := p; exact nol_win) (fun d m' p => ?_) (by decide) (by decide) (by decide) (by decide) ?_
              · obtain ⟨rfl, rfl⟩ := p
                exact ET.x (et_pair (et_ix (n := 0) et_var et_int rfl) (et_ix (n := 1) et_var et_int rfl) nol_int nol_int)
              · rintro _ _ _ _ ⟨rfl, rfl⟩ ⟨rfl, rfl⟩
                refine ox_forT (vs := [8, 13]) (ι := List Er) (l := [.tuple [winD a, .int (-1)], .tuple [winD b, .int (-1)], .tuple [winD (a.1, b.2), .int 1], .tuple [winD (b.1, a.2), .int 1]]) (fun y => mvE n G y) (fun k y m' => m' = m + 3 ∧ Tab n (100 + 8 * (i : Nat) + k) y) (et_tup (ea4 (et_pair et_var (et_U (g := fun i => -i) et_int) nol_win nol_int) (et_pair et_var (et_U (g := fun i => -i) et_int) nol_win nol_int) (et_pair et_var et_int nol_win nol_int) (et_pair et_var et_int nol_win nol_int)) ⟨nol_tup, nol_tup, nol_tup, nol_tup, True.intro⟩ (by show 4 ≤ 1000; decide)) (fun j hj => ⟨x, by rw [List.mem_singleton] at hj; subst hj; rfl⟩) x ⟨rfl, hT.up (by omega)⟩ leJ (by decide) (by decide) ?_ ?_
                · rintro k d y m' hd ⟨rfl, hy⟩
                  obtain ⟨w, s, rfl, hw, hs⟩ : ∃ (w : Win) (s : Int), d = .tuple [winD w, .int s] ∧ w ∈ spans n ∧ s ≤ 1 := by
                    match k, hd with
                    | 0, hd => cases hd; exact ⟨a, -1, rfl, ha, by decide⟩
                    | 1, hd => cases hd; exact ⟨b, -1, rfl, hb', by decide⟩
                    | 2, hd => cases hd; exact ⟨_, 1, rfl, hn1, by decide⟩
                    | 3, hd => cases hd; exact ⟨_, 1, rfl, hn2, by decide⟩
                    | k + 4, hd => simp at hd
                  obtain ⟨v, hv, hvb⟩ := hy.at hw
                  have hyl := hy.len h8
                  refine ⟨_, eg2 (by decide) (by decide), ox_dput (j := 4) (l := y) (w := w) rfl (by decide) (ndE ⟨.inl nol_tup, .inl nol_int, .inl nol_int, .inl nol_win, .inl nol_int, True.intro⟩) (by omega) (ix_pure (et_I0 (g := fun i j => i + j) (et_dget et_var et_var hv) et_var)) et_var ?_⟩
                  rintro z rfl
                  exact ⟨putE y w (v + s), ⟨rfl, hy.put hw (v := v + s) (by omega) (by omega)⟩, leJ⟩
                · rintro y m' ⟨rfl, hy⟩
                  exact fin (hy.up (by simp)) (by omega) (Le.refl _)
            · obtain ⟨_, rfl⟩ := p
              exact ox_nx (fin (hT.up (by omega)) (by omega) leJ)
  · rintro x m ⟨hm, hT⟩
    have hxl := hT.len h8
    refine OX.le (m := n0 + 20) (ox_ret (ETN.x (etn_call (ea2 (et_ix (n := 0) et_var et_int rfl) et_var) ⟨n, x, rfl, hxl, by rw [hT.ks]; exact spans_nd n h8, rfl⟩)) ?_) (by simp at hm; omega)
    rintro d _ ⟨⟨E', rfl, hl', hE'⟩, rfl⟩
    refine ⟨⟨E', ⟨h1, h8, fun e he => ?_, fun e he => (hE' e he).2, by omega⟩, fun e he => ?_, rfl⟩, rfl⟩
    · refine mem_spans.mp ?_
      rw [← hT.ks]
      exact List.mem_map.mpr ⟨e, (hE' e he).1, rfl⟩
    · have := hT.le e (hE' e he).1
      simp at this
      omega
end K68

namespace K68
open PySem PySem.Spec PyProof.Rows L2
open Evl (Ex)
section
variable {own : List Nat} {n : Nat} {ρ : Env} {ta tb te : TE} {tt tu : TT} {t u : TS} {K : PySem.W.Frag} {N M : Env → Nat → Prop} {R : PyData → Nat → Prop}
theorem StX.eg {B : Hp} {bx : Addr} {σ σ2 : L2.St} {H : Hp} {vs : List Nat} {ρ2 : Env} (S : StX B bx own n ρ σ H) (S2 : Sl σ2 H ρ2) (w : wipe σ2 vs = wipe σ vs) (h0 : 0 ∉ vs) (ho : ∀ j ∈ own, j ∉ vs) : StX B bx own n ρ2 σ2 H := ⟨S.ex, S.nb, S2, (keep_at w h0).trans S.b0, S.bx, fun j hj a ha => S.own j hj a ((keep_at w (ho j hj)).symm.trans ha)⟩
/-- a tuple of names -/
theorem ox_letG {vs : List Nat} {g : TG} {Po : PyData → Nat → Prop} (h : ETX own n ρ te Po) (h0 : 0 ∉ vs) (ho : ∀ j ∈ own, j ∉ vs) (k : ∀ d m, Po d m → ∃ ρ2, EG vs g d ρ ρ2 ∧ OX own m ρ2 u N R) : OX own n ρ (tSeq (tAsg te g) u) N R := fun B bx σ H S D nx r =>
  h B bx σ H S _ fun d v H1 m p S1 _ hv => by
    obtain ⟨ρ2, h1, h2⟩ := k d m p
    exact h1 σ H1 v S1.sl hv _ fun σ2 S2 w2 => h2 B bx σ2 H1 (S1.eg S2 w2 h0 ho) D nx r
theorem etx_pair {P1 P2 : PyData → Nat → Prop} (h : ETX own n ρ ta P1) (n1 : ∀ d m, P1 d m → NoL d) (k : ∀ d m, P1 d m → ETX own m ρ tb P2) (n2 : ∀ d m, P2 d m → NoL d) : ETX own n ρ (tTup (tCons ta (tCons tb tNil))) (fun x m => ∃ d e m', P1 d m' ∧ P2 e m ∧ x = .tuple [d, e]) := fun B bx σ H S Q q => h B bx σ H S _ fun d v H1 m p S1 t1 hv => k d m p B bx σ H1 S1 _ fun e w H2 m2 p2 S2 t2 hw => by
  refine ⟨by show 2 ≤ sizeLine; decide, fun t hn => ?_⟩
  have e2 : Ex H2 (upd H2 t (.tup [v, w])) := Evl.Ex.new hn
  exact q _ _ _ _ ⟨d, e, m, p, p2, rfl⟩ (S2.up e2) (fun a xs z => e2 _ _ (t2 _ _ (t1 _ _ z))) (.tup upd_same (.cons (((n1 d m p _ _ hv).mono t2).mono (Ex.tex e2)) (.cons ((n2 e m2 p2 _ _ hw).mono (Ex.tex e2)) .nil)))
theorem tx_not {b : Bool} {n1 : Nat} (h : ETX own n ρ te (fun d m => d = .bool b ∧ m = n1)) : ETTX own n ρ (tNot (tB te)) (fun b' m => b' = !b ∧ m = n1) := fun B bx σ H S Q q => h B bx σ H S _ fun d v H1 m p S1 t1 hv => by
  obtain ⟨rfl, rfl⟩ := p
  exact ⟨b, hv_bool hv, q _ H1 _ ⟨rfl, rfl⟩ S1 t1⟩
theorem tx_or2 {n1 n2 : Nat} (h : ETTX own n ρ tt (fun b m => b = false ∧ m = n1)) (k : ETTX own n1 ρ tu (fun b m => b = false ∧ m = n2)) : ETTX own n ρ (tOr tt tu) (fun b m => b = false ∧ m = n2) := fun B bx σ H S Q q => h B bx σ H S _ fun b H1 m p S1 t1 => by
  obtain ⟨rfl, rfl⟩ := p
  rw [if_neg Bool.false_ne_true]
  exact k B bx σ H1 S1 Q fun b H' m p S' t' => q b H' m p S' (fun a xs z => t' _ _ (t1 _ _ z))
end
theorem fn_raw {P : Program} {w : World} {K : PySem.W.Frag} {mg : Str → Option Value} {base : Heap} {x : Str} {params : Arguments} {body : List Stmt} {scope : Scope} {f : Addr} {fd : FuncData} {N ps : List Str} {k : Nat} {sp : Sp} (F : FunD K x x params body scope [] [] f fd) (S : FnScope N ps scope)
    (len : ∀ vs H Q E, sp vs H Q E → vs.length = ps.length)
    (hbody : ∀ (cdv : Value) (A : Around) (outer : List PySem.Env) (s : Shared) (H : Hp) (vs : List V) (Q : VK) (E : XK), Room k (A.deeper (envOfC x scope s.heap.objs.size f cdv)) → sp vs H Q E →
      ∃ t, PSs (cxOf C8.CX0 P w K mg base N x scope f cdv A outer s H E).nox body t ∧ t { nx := fun _ H' => Q .non H', rt := Q } (L2.start N vs) H) : FnOk P w K mg base C8.CX0 (k + 1) f fd ps sp :=
  F.ok S len fun cdv A outer s H vs Q E hr hsp => by
    obtain ⟨t, h, q⟩ := hbody cdv A outer s H vs Q E hr hsp
    exact ⟨t, h.nox, q⟩
section
variable {X : Cx} {k j : Nat} {x : Str} {sp : Sp} {p pos : Pos}
theorem pe_c0 (c : C8.Cal X.prog X.w X.K X.mg X.base k x sp []) (hr : Room j X.A) (hk : k ≤ j) (hg : Gl X x) (hdb : (x == ("__debug__" : Str)) = false := by decide) : PE X (.Call (.Name x p) [] [] pos) (tCall sp [] C8.E0 tNil) := by
  obtain ⟨f, fd, ps, ds, F, hm, kp, b, d⟩ := c.ex
  exact pe_call0 F (hr.mono hk) hg hm kp b d C8.pass0 hdb
end
end K68

namespace K68
open PySem PySem.Spec PyProof.Rows L2
open Evl (Ex)
def mtE (T : Nat) (E F : List Er) (b : Bool) : Env := [none, some (lotD T E), some (lotD T F), none, some (.bool b), none, none, none, none, none, none, none, none, none]
theorem leM {T : Nat} {E F : List Er} {b : Bool} {a0 a3 a5 a6 a7 a8 a9 a10 a11 a12 a13 : Option PyData} : Le [a0, some (lotD T E), some (lotD T F), a3, some (.bool b), a5, a6, a7, a8, a9, a10, a11, a12, a13] (mtE T E F b) :=
  le_of ⟨.inl rfl, .inr rfl, .inr rfl, .inl rfl, .inr rfl, .inl rfl, .inl rfl, .inl rfl, .inl rfl, .inl rfl, .inl rfl, .inl rfl, .inl rfl, .inl rfl, True.intro⟩
def moreH (c : List Int) (h : Int) : List Int := (List.range c.length).map fun i => c.getD i 0 + if decide (((i : Nat) : Int) = h) then 1 else 0
theorem moreH_len (c : List Int) (h : Int) : (moreH c h).length = c.length := by simp [moreH]
theorem moreH_at (c : List Int) (h : Int) (i : Nat) : c.getD i 0 ≤ (moreH c h).getD i 0 := by
  unfold moreH
  by_cases hi : i < c.length
  · rw [List.getD_eq_getElem?_getD (l := List.map _ _), List.getElem?_map, List.getElem?_range hi]
    show c.getD i 0 ≤ c.getD i 0 + _
    split <;> omega
  · rw [List.getD_eq_getElem?_getD, List.getElem?_eq_none (by omega), List.getD_eq_getElem?_getD, List.getElem?_eq_none (by simpa using hi)]
    exact Int.le_refl _
theorem moreH_nn {c : List Int} (hc : Nn c) (h : Int) : Nn (moreH c h) := fun x hx => by
  obtain ⟨i, _, rfl⟩ := List.mem_map.mp hx
  have := hc.getD i
  show 0 ≤ c.getD i 0 + _
  split <;> omega
def R__law_mates_right (ds : List PyData) (n : Nat) (Po : PyData → Nat → Prop) : Prop := ∃ (T : Nat) (E F : List Er), ds = [lotD T E, lotD T F] ∧ LotOk T E ∧ LotOk T F ∧ allW E < 100000 ∧ allW F < 100000 ∧ n ≤ 800000 ∧ Po = fun d m => d = .bool true ∧ m = n + 100
abbrev N__law_mates_right : List Str := ["_law_box_here", "_law_mine_so", "_law_its_so", "_law_turn", "_law_is_so", "_law_told_so", "_law_late_so", "_law_hour_so", "_law_more_so", "_law_both_so", "_law_hands_so", "_law_after_so", "_law_own", "_law_at_so"]
theorem sc__law_mates_right : FnScope N__law_mates_right ["_law_box_here", "_law_mine_so", "_law_its_so"] (defScope s__law_mates_right) := ⟨rfl, rfl, rfl, by decide +kernel, rfl, by decide +kernel, by decide +kernel⟩
/- slots: 0:_law_box_here 1:_law_mine_so 2:_law_its_so 3:_law_turn 4:_law_is_so 5:_law_told_so 6:_law_late_so 7:_law_hour_so 8:_law_more_so 9:_law_both_so 10:_law_hands_so 11:_law_after_so 12:_law_own 13:_law_at_so ; cells: _law_after_so _law_hands_so _law_hour_so _law_told_so ; callees: never_later later_calendar never_more _law_same lateness _law_above is_later_calendar _law_hands _law_take times_over -/
theorem w__law_mates_right {P : Program} {w : World} {K : PySem.W.Frag} {mg : Str → Option Value} {base : Heap} {f : Addr} {fd : FuncData} (T : Bn mg) (c_never_later : C8.Cal P w K mg base 6 "never_later" (spD R_never_later) []) (c_later_calendar : C8.Cal P w K mg base 6 "later_calendar" (spM R_later_calendar) []) (c_never_more : C8.Cal P w K mg base 5 "never_more" (spD R_never_more) []) (c__law_same : C8.Cal P w K mg base 2 "_law_same" (spD R__law_same) []) (c_lateness : C8.Cal P w K mg base 4 "lateness" (spD R_lateness) []) (c__law_above : C8.Cal P w K mg base 1 "_law_above" (spD R__law_above) []) (c_is_later_calendar : C8.Cal P w K mg base 5 "is_later_calendar" (spD R_is_later_calendar) []) (c__law_hands : C8.Cal P w K mg base 2 "_law_hands" (spB R__law_hands) []) (c__law_take : C8.Cal P w K mg base 1 "_law_take" (spB R__law_take) []) (c_times_over : C8.Cal P w K mg base 3 "times_over" (spM R_times_over) []) (F : FunD K "_law_mates_right" "_law_mates_right" (defArgs s__law_mates_right) (defBody s__law_mates_right) (defScope s__law_mates_right) [] [] f fd) (hm : mg "_law_mates_right" = some (.ref f)) : C8.Cal P w K mg base 7 "_law_mates_right" (spB R__law_mates_right) [] := by
  refine cal_ofB (N := N__law_mates_right) (ps := ["_law_box_here", "_law_mine_so", "_law_its_so"]) [] F hm sc__law_mates_right (fun kV doc pm an cdv ct us hl => by match us, hl with | [u0, u1, u2], _ => rfl) (fun ds n Po h => by obtain ⟨n, E1, F1, rfl, k1, k2, w1, w2, hn, rfl⟩ := h; rfl) (by decide) ?_
  intro cdv A outer s H E hr
  have nd := sc__law_mates_right.nd
  refine ⟨_, (pss_cons (ps_asg (pe_tup (pa_cons (C8.pe_c c_never_later hr (by decide) (by rfl) (pa_cons (pv 1) (pa_cons (pv 2) pa_nil))) (pa_cons (C8.pe_c c_later_calendar hr (by decide) (by rfl) (pa_cons (pv 1) (pa_cons (pv 2) pa_nil))) pa_nil))) (gT (K := K) (n := 2) rfl rfl (pgs_cons (pg_name (i := 4) nd rfl (.inl rfl)) (pgs_cons (pg_name (i := 5) nd rfl (.inr rfl)) pgs_nil))))
    (pss_cons (ps_if (pt_not (pt_val (C8.pe_c c__law_same hr (by decide) (by rfl) (pa_cons (pe_lst (pa_cons (pv 4) (pa_cons (pe_cmpR op_isN (pv 5) pe_non (nomark _)) pa_nil))) (pa_cons (pe_op op_rep (pe_lst (pa_cons (C8.pe_c c_never_more hr (by decide) (by rfl) (pa_cons (pv 1) (pa_cons (pv 2) pa_nil))) pa_nil)) pe_int) pa_nil)))))
      (pss_one (ps_ret pe_bl)) pss_nil)
    (pss_cons (ps_if (pt_cmpR op_notN (pv 5) pe_non (nomark _))
      (pss_cons (ps_setLc (i := 6) (own := [("_law_own", 12)]) (g := (gName 12)) (tt := tYes)  rfl nd rfl rfl (sw_true rfl rfl rfl (by decide +kernel)) (iT (K := K) rfl (pe_tup (pa_cons (pv 1) (pa_cons (pv 2) pa_nil)))) (blkOk_by (own := [("_law_own", 12)]) (N := N__law_mates_right) (sc := defScope s__law_mates_right) (by decide +kernel)) (fun _ _ _ _ _ => (pg_name (i := 12) nd rfl (.inl rfl))) (fun _ _ _ _ _ => pts_nil) (fun _ _ _ _ _ => (C8.pe_c c_lateness hr (by decide) (by rfl) (pa_cons (pv 12) (pa_cons (pe_ix (xT (K := K) rfl) (pv 5) pe_int (fun _ _ => rfl)) (pa_cons (pe_ix (xT (K := K) rfl) (pv 5) pe_int (fun _ _ => rfl)) pa_nil))))))
    (pss_one (ps_if (pw_or (pt_not (pt_val (C8.pe_c c__law_above hr (by decide) (by rfl) (pa_cons (pe_ix (xL (K := K) rfl) (pv 6) pe_int (fun _ _ => rfl)) (pa_cons (pe_ix (xL (K := K) rfl) (pv 6) pe_int (fun _ _ => rfl)) pa_nil))))) (pw_or1 (pt_not (pt_val (C8.pe_c c_is_later_calendar hr (by decide) (by rfl) (pa_cons (pv 1) (pa_cons (pv 2) (pa_cons (pv 5) pa_nil)))))))).pt
      (pss_one (ps_ret pe_bl)) pss_nil))) pss_nil)
    (pss_cons (ps_for PassesOwn.never rfl (pi_range1 (by rfl) T.brange (pa_cons pe_int pa_nil)) (pg_name (i := 3) nd rfl (.inl rfl))
      (pss_cons (ps_asg (pe_tup (pa_cons (C8.pe_c c__law_hands hr (by decide) (by rfl) (pa_cons (pv 0) (pa_cons (pe_ix (xT (K := K) rfl) (pv 1) pe_int (fun _ _ => rfl)) (pa_cons pe_int pa_nil)))) (pa_cons (C8.pe_c c__law_take hr (by decide) (by rfl) (pa_cons (pv 0) (pa_cons pe_int pa_nil))) pa_nil))) (gT (K := K) (n := 2) rfl rfl (pgs_cons (pg_name (i := 10) nd rfl (.inr rfl)) (pgs_cons (pg_name (i := 11) nd rfl (.inr rfl)) pgs_nil))))
    (pss_cons (ps_setLc (i := 6) (own := [("_law_own", 12)]) (g := (gName 12)) (tt := tYes)  rfl nd rfl rfl (sw_true rfl rfl rfl (by decide +kernel)) (iT (K := K) rfl (pe_tup (pa_cons (pv 1) (pa_cons (pv 2) pa_nil)))) (blkOk_by (own := [("_law_own", 12)]) (N := N__law_mates_right) (sc := defScope s__law_mates_right) (by decide +kernel)) (fun _ _ _ _ _ => (pg_name (i := 12) nd rfl (.inl rfl))) (fun _ _ _ _ _ => pts_nil) (fun _ _ _ _ _ => (C8.pe_c c_lateness hr (by decide) (by rfl) (pa_cons (pv 12) (pa_cons (pv 10) (pa_cons (pv 11) pa_nil))))))
    (pss_cons (ps_if (pw_and (pt_val (pv 4)) (pw_and1 (pt_val (C8.pe_c c__law_above hr (by decide) (by rfl) (pa_cons (pe_ix (xL (K := K) rfl) (pv 6) pe_int (fun _ _ => rfl)) (pa_cons (pe_ix (xL (K := K) rfl) (pv 6) pe_int (fun _ _ => rfl)) pa_nil)))))).pt
      (pss_one (ps_ret pe_bl)) pss_nil)
    (pss_cons (ps_set (i := 7) nd rfl (.inr rfl) (C8.pe_c c__law_take hr (by decide) (by rfl) (pa_cons (pv 0) (pa_cons (pe_ix (xT (K := K) rfl) (pv 1) pe_int (fun _ _ => rfl)) pa_nil))))
    (pss_cons (ps_set (i := 8) nd rfl (.inl rfl) (pe_callTy (bTup (K := K) rfl) (by rfl) T.btuple (by decide +kernel) (pa_cons (pe_lc (own := [("_law_at_so", 13), ("_law_own", 12)]) (g := (gTup K 2 (gCons (gName 13) (gCons (gName 12) gNil)))) (tt := tYes)  rfl nd (pi_enumT (by rfl) T.benumerate (pa_cons (pv 10) pa_nil)) (blkOk_by (own := [("_law_at_so", 13), ("_law_own", 12)]) (N := N__law_mates_right) (sc := defScope s__law_mates_right) (by decide +kernel)) (fun _ _ _ _ _ => (gT (K := K) (n := 2) rfl rfl (pgs_cons (pg_name (i := 13) nd rfl (.inl rfl)) (pgs_cons (pg_name (i := 12) nd rfl (.inl rfl)) pgs_nil)))) (fun _ _ _ _ _ => pts_nil) (fun _ _ _ _ _ => (pe_op op_add (pv 12) (pe_callTy call_int1 (by rfl) T.bint (by decide +kernel) (pa_cons (pe_cmpR op_eq (pv 13) (pv 7) (nomark _)) pa_nil))))) pa_nil)))
    (pss_cons (ps_if (pt_val (C8.pe_c c__law_above hr (by decide) (by rfl) (pa_cons (C8.pe_c c_lateness hr (by decide) (by rfl) (pa_cons (pv 1) (pa_cons (pv 8) (pa_cons (pv 11) pa_nil)))) (pa_cons (pe_ix (xL (K := K) rfl) (pv 6) pe_int (fun _ _ => rfl)) pa_nil))))
      (pss_one (ps_ret pe_bl)) pss_nil)
    (pss_cons (ps_if (pt_val (C8.pe_c c__law_above hr (by decide) (by rfl) (pa_cons (C8.pe_c c_lateness hr (by decide) (by rfl) (pa_cons (pv 1) (pa_cons (pv 10) (pa_cons (pe_op op_add (pv 11) pe_int) pa_nil)))) (pa_cons (pe_ix (xL (K := K) rfl) (pv 6) pe_int (fun _ _ => rfl)) pa_nil))))
      (pss_one (ps_ret pe_bl)) pss_nil)
    (pss_cons (ps_set (i := 9) nd rfl (.inl rfl) (C8.pe_c c_lateness hr (by decide) (by rfl) (pa_cons (C8.pe_c c_times_over hr (by decide) (by rfl) (pa_cons (pv 1) (pa_cons pe_int pa_nil))) (pa_cons (pe_callTy (bTup (K := K) rfl) (by rfl) T.btuple (by decide +kernel) (pa_cons (pe_lc (own := [("_law_own", 12)]) (g := (gName 12)) (tt := tYes)  rfl nd (iT (K := K) rfl (pv 10)) (blkOk_by (own := [("_law_own", 12)]) (N := N__law_mates_right) (sc := defScope s__law_mates_right) (by decide +kernel)) (fun _ _ _ _ _ => (pg_name (i := 12) nd rfl (.inl rfl))) (fun _ _ _ _ _ => pts_nil) (fun _ _ _ _ _ => (pe_op op_mul pe_int (pv 12)))) pa_nil)) (pa_cons (pe_op op_mul pe_int (pv 11)) pa_nil)))))
    (pss_one (ps_if (pt_cmpR op_ne (pv 9) (pe_ix (xL (K := K) rfl) (pv 6) pe_int (fun _ _ => rfl)) (nomark _))
      (pss_one (ps_ret pe_bl)) pss_nil)))))))))))
    (pss_one (ps_ret pe_bl)))))), ?_⟩
  intro ds n0 Po h
  obtain ⟨n, E1, F1, rfl, k1, k2, w1, w2, hn, rfl⟩ := h
  have h8 := k1.le8
  have h1 := k1.pos
  have f1 := k1.few
  have f2 := k2.few
  have p1 : 0 ≤ allW E1 := by rw [allW_fs]; exact fs_nonneg k1.nn
  have p2 : 0 ≤ allW F1 := by rw [allW_fs]; exact fs_nonneg k2.nn
  generalize hbb : notMore n E1 F1 = b
  refine ox_letG (vs := [4, 5]) (Po := fun d m => (∃ e, ((b = true ∧ e = .none) ∨ (b = false ∧ ∃ g l : Nat, g ≤ l ∧ l < n ∧ asks F1 g l < asks E1 g l ∧ e = .tuple [calD (laterH n F1 g l (allW E1 + allW F1)), .int (allW E1 + allW F1)])) ∧ d = .tuple [.bool b, e]) ∧ m = n0) (ETN.x (etn_pair (et_is (et_call (ea2 et_var et_var) ⟨n, E1, F1, rfl, h1, h8, by omega, by omega, rfl⟩) (by rw [hbb])) (ETN.imp (etn_call (ea2 et_var et_var) ⟨n, E1, F1, rfl, k1, k2, rfl⟩) fun d h => by rw [hbb] at h; exact h) nol_bool fun e h => ?_)) (by decide) (fun j hj => by cases hj) ?_
  · rcases h with ⟨_, rfl⟩ | ⟨_, g, l, _, _, _, rfl⟩
    · exact nol_none
    · exact nol_tup
  rintro d m ⟨⟨e, he, rfl⟩, hm⟩
  subst hm
  have hNd : isNd e = b := by
    rcases he with ⟨rfl, rfl⟩ | ⟨rfl, g, l, _, _, _, rfl⟩ <;> rfl
  refine ⟨_, eg2 (by decide) (by decide), ?_⟩
  refine ox_ifr (b := !(b == b && b == b)) (eb_not (eb_val (et_call (ea2 (et_lst (ea2 et_var (et_is (et_isN et_var) (by rw [hNd]))) ⟨nol_bool, nol_bool, True.intro⟩ (by show 2 ≤ 1000; decide)) (et_repL (n := 2) (et_lst (ea1 (et_is (et_call (ea2 et_var et_var) ⟨n, E1, F1, rfl, h1, h8, by omega, by omega, rfl⟩) (by rw [hbb]))) ⟨nol_bool, True.intro⟩ (by show 1 ≤ 1000; decide)) et_int (by decide))) ⟨_, _, _, _, rfl, rfl⟩))) (fun z => ?_) fun _ => ?_
  · cases b <;> cases z
  refine ox_seq (M := fun ρ' m' => Le ρ' (mtE n E1 F1 b) ∧ m' = m) (ox_if (EB.x (eb_is (eb_test (et_notN et_var)) (by rw [hNd]))) (fun m' p => ?_) fun m' p => ?_) ?_
  · obtain ⟨hb, rfl⟩ := p
    rcases he with ⟨rfl, rfl⟩ | ⟨rfl, g, l, hgl, hl, hmore, rfl⟩
    · cases hb
    generalize hpp : allW E1 + allW F1 = pp
    have kE : CalOk n E1 (laterH n F1 g l pp) pp := ⟨k1, laterH_len, laterH_nn k2 (by omega), by omega, by omega⟩
    have kF : CalOk n F1 (laterH n F1 g l pp) pp := ⟨k2, laterH_len, laterH_nn k2 (by omega), by omega, by omega⟩
    have hsh := laterH_shows (E := E1) k2 hgl hl (p := pp) (by omega) hmore (b := pp) (by omega)
    refine ox_let (i := 6) (ET.x (et_mapV encN [E1, F1] (lotD n) (fun G => late n G (laterH n F1 g l pp) pp) (it_tup (et_pair et_var et_var nol_tup nol_tup)) (by show 2 ≤ 1000; decide) fun G hG => ⟨_, eg_name (by decide), et_call (ea3 et_var (et_ix (n := 0) et_var et_int rfl) (et_ix (n := 1) et_var et_int rfl)) ⟨n, G, _, _, rfl, ?_, rfl⟩, nol_n _⟩)) (by decide) (by decide) ?_
    · rcases List.mem_cons.mp hG with q | q
      · rw [q]; exact kE
      · rw [List.mem_singleton] at q
        rw [q]; exact kF
    rintro _ m2 ⟨rfl, hm2⟩
    subst hm2
    refine ox_if (EB.x (eb_or (a := !true) (b := !true) (eb_not (eb_val (et_is (et_call (ea2 (et_ixL (n := 0) et_var et_int rfl) (et_ixL (n := 1) et_var et_int rfl)) ⟨late n E1 (laterH n F1 g l pp) pp, late n F1 (laterH n F1 g l pp) pp, rfl, rfl⟩) (by rw [hsh])))) fun _ => eb_not (eb_val (et_is (et_call (ea3 et_var et_var et_var) ⟨n, E1, F1, laterH n F1 g l pp, pp, rfl, kE, kF, rfl⟩) (by rw [hsh]))))) (fun m' p => nomatch p.1) fun m' p => ?_
    obtain ⟨_, rfl⟩ := p
    exact ox_nx ⟨leM, rfl⟩
  · obtain ⟨_, rfl⟩ := p
    exact ox_nx ⟨leM, rfl⟩
  rintro ρ' m' ⟨hle, rfl⟩
  refine OX.weak ?_ hle
  clear hle he hNd
  refine ox_forG (ι := Unit) (fun _ => mtE n E1 F1 b) (fun i _ k => k ≤ m' + 22 * i) (ITG.is (itg_range1 (k := 3) et_int (by decide)) (rng0 3)) () (Nat.le_refl _) (Le.refl _) (by decide) (by decide) ?_ ?_
  · rintro i d _ m hd hm
    have hi : i < 3 := by
      have := (List.getElem?_eq_some_iff.mp hd).1
      simpa using this
    rw [List.getElem?_map, List.getElem?_range hi] at hd
    cases hd
    refine ⟨ap_nol nol_int, nol_int, ?_⟩
    refine ox_letG (vs := [10, 11]) (Po := fun d k => ∃ (c : List Int) (a : Int), c.length = n ∧ Nn c ∧ (0 ≤ a ∧ a < 3) ∧ d = .tuple [calD c, .int a] ∧ k = m + 21) (ETX.imp (etx_pair (P2 := fun d k => ∃ a : Int, d = .int a ∧ (0 ≤ a ∧ a < 3) ∧ k = m + 21) (etx_call (ea2 (et_ix (n := 0) et_var et_int rfl) et_int) ⟨n, 4, rfl, h8, by decide, by omega, rfl⟩ ⟨ap_nol nol_tup, ap_nol nol_tup, ap_nol nol_int, ap_nol nol_bool, True.intro⟩) (fun d k p => by obtain ⟨⟨c, _, _, rfl⟩, _⟩ := p; exact nol_tup) (fun d k p => by
        obtain ⟨_, rfl⟩ := p
        exact ix_take et_int (by decide) (by omega) ⟨ap_nol nol_tup, ap_nol nol_tup, ap_nol nol_int, ap_nol nol_bool, True.intro⟩) (fun d k p => by obtain ⟨a, rfl, _⟩ := p; exact nol_int)) fun x k p => ?_) (by decide) (fun j hj => by cases hj) ?_
    · obtain ⟨d, e, m', ⟨⟨c, c1, c2, rfl⟩, _⟩, ⟨a, rfl, a1, a2⟩, rfl⟩ := p
      exact ⟨c, a, c1, c2, a1, rfl, a2⟩
    rintro _ _ ⟨c, a, hcl, hc, ⟨a0, a3⟩, rfl, rfl⟩
    refine ⟨_, eg2 (by decide) (by decide), ?_⟩
    have kE : CalOk n E1 c a := ⟨k1, hcl, hc, a0, by omega⟩
    have kF : CalOk n F1 c a := ⟨k2, hcl, hc, a0, by omega⟩
    refine ox_let (i := 6) (Po := fun d k => d = .list [encN (late n E1 c a), encN (late n F1 c a)] ∧ k = m + 21) (ET.x (et_mapV encN [E1, F1] (lotD n) (fun G => late n G c a) (it_tup (et_pair et_var et_var nol_tup nol_tup)) (by show 2 ≤ 1000; decide) fun G hG => ⟨_, eg_name (by decide), et_call (ea3 et_var et_var et_var) ⟨n, G, _, _, rfl, ?_, rfl⟩, nol_n _⟩)) (by decide) (by decide) ?_
    · rcases List.mem_cons.mp hG with q | q
      · rw [q]; exact kE
      · rw [List.mem_singleton] at q
        rw [q]; exact kF
    rintro _ _ ⟨rfl, rfl⟩
    refine ox_ifr (b := b && abv (late n E1 c a) (late n F1 c a)) (eb_and (eb_val et_var) fun _ => eb_val (et_call (ea2 (et_ixL (n := 0) et_var et_int rfl) (et_ixL (n := 1) et_var et_int rfl)) ⟨late n E1 c a, late n F1 c a, rfl, rfl⟩)) (fun z => ?_) fun _ => ?_
    · rw [Bool.and_eq_true] at z
      rw [z.1] at hbb
      rw [never_above hc a0 hbb] at z
      cases z.2
    have apl : Ap (.list [encN (late n E1 c a), encN (late n F1 c a)]) := ap_lenL (by show (2 : Nat) ≠ 3; decide)
    refine ox_let (i := 7) (ix_take (et_ix (n := 0) et_var et_int rfl) ⟨by omega, by omega⟩ (by omega) ⟨ap_nol nol_tup, ap_nol nol_tup, ap_nol nol_int, ap_nol nol_bool, apl, ap_nol nol_tup, ap_nol nol_int, True.intro⟩) (by decide) (by decide) ?_
    rintro _ _ ⟨ho, rfl, _, rfl⟩
    refine ox_let (i := 8) (Po := fun d k => d = calD (moreH c ho) ∧ k = m + 21 + 1) (ET.x (et_tupL (et_mapV .int (List.range c.length) (fun i => .tuple [.int (i : Nat), .int (c.getD i 0)]) (fun i => c.getD i 0 + if decide (((i : Nat) : Int) = ho) then 1 else 0) (IT.is (it_enumT et_var) ?_) (by rw [List.length_range]; omega) fun i hi => ⟨_, eg2 (by decide) (by decide), et_I0 (g := fun i j => i + j) et_var (et_intB (et_eqI et_var et_var)), nol_int⟩))) (by decide) (by decide) ?_
    · rw [List.length_map]
      refine List.map_congr_left fun i hi => ?_
      have hi := List.mem_range.mp hi
      rw [List.getD_eq_getElem?_getD, List.getElem?_map, List.getD_eq_getElem?_getD, List.getElem?_eq_getElem hi]
      rfl
    rintro _ _ ⟨rfl, rfl⟩
    have kM : CalOk n E1 (moreH c ho) a := ⟨k1, by rw [moreH_len]; exact hcl, moreH_nn hc ho, a0, by omega⟩
    have kA : CalOk n E1 c (a + 1) := ⟨k1, hcl, hc, by omega, by omega⟩
    refine ox_ifr (b := false) (eb_val (et_is (et_call (ea2 (et_call (ea3 et_var et_var et_var) ⟨n, E1, moreH c ho, a, rfl, kM, rfl⟩) (et_ixL (n := 0) et_var et_int rfl)) ⟨_, late n E1 c a, rfl, rfl⟩) (by rw [more_hands hc a0 (moreH_nn hc ho) a0 (moreH_len c ho).symm (moreH_at c ho) (Int.le_refl _)]))) (fun z => nomatch z) fun _ => ?_
    refine ox_ifr (b := false) (eb_val (et_is (et_call (ea2 (et_call (ea3 et_var et_var (et_I0 (g := fun i j => i + j) et_var et_int)) ⟨n, E1, c, a + 1, rfl, kA, rfl⟩) (et_ixL (n := 0) et_var et_int rfl)) ⟨_, late n E1 c a, rfl, rfl⟩) (by rw [more_hands hc a0 hc (by omega) rfl (fun _ => Int.le_refl _) (by omega : a ≤ a + 1)]))) (fun z => nomatch z) fun _ => ?_
    refine ox_let (i := 9) (Po := fun d k => d = encN (late n E1 c a) ∧ k = m + 21 + 1) (ET.x (et_callN (ean_cons (etn_call (ea2 et_var et_int) ⟨n, E1, 3, rfl, k1.w, by decide, by decide, rfl⟩) (ea2 (et_tupL (et_mapV .int c .int (fun x => 3 * x) (it_tup et_var) (by omega) fun x hx => ⟨_, eg_name (by decide), et_I (C := CMul) (g := fun i j => i * j) et_int et_var (.inl ⟨by decide, by decide⟩), nol_int⟩)) (et_I (C := CMul) (g := fun i j => i * j) et_int et_var (.inl ⟨by decide, by decide⟩)))) ?_)) (by decide) (by decide) ?_
    · rintro es ⟨d, ⟨E', hl, rfl⟩, rfl⟩
      refine ⟨n, E', c.map fun x => 3 * x, 3 * a, rfl, ⟨hl.ok h1 h8 (by unfold timesE; rw [List.length_map]; exact f1), by rw [List.length_map]; exact hcl, fun x hx => ?_, by omega, by omega⟩, ?_⟩
      · obtain ⟨y, hy, rfl⟩ := List.mem_map.mp hx
        have := hc y hy
        show 0 ≤ 3 * y
        omega
      · rw [late_eq hl.2.2.2, late_times (k := 3) (by decide)]
    rintro _ _ ⟨rfl, rfl⟩
    refine ox_if (EB.x (eb_is (b := false) (eb_test (et_neO (r := (late n E1 c a).map fun k => (k : Int)) (s := (late n E1 c a).map fun k => (k : Int)) et_var (et_ixL (n := 0) et_var et_int rfl))) (by simp))) (fun m' p => nomatch p.1) fun m' p => ?_
    obtain ⟨_, rfl⟩ := p
    exact ox_nx ⟨(), by omega, leM⟩
  · rintro _ m hm
    have hm : m ≤ m' + 66 := by simpa using hm
    refine OX.le (m := m' + 100) (ox_ret (ET.x et_bl) ?_) (by omega)
    rintro _ _ ⟨rfl, rfl⟩
    exact ⟨rfl, rfl⟩
end K68

namespace K68
open PySem PySem.Spec PyProof.Rows L2
open Evl (Ex)
def handE : List Er := [((0, 0), 2), ((0, 1), 3), ((1, 2), 2)]
def handR : List (List Int × Int) := [([2, 3, 2], 0), ([2, 2, 2], 1), ([2, 2, 2], 0), ([0, 0, 0], 2), ([7, 0, 0], 1), ([0, 0, 7], 0)]
theorem handE_ok : LotOk 3 handE := ⟨by decide, by decide, by decide, by decide, by decide⟩
theorem handR_ok : ∀ r ∈ handR, r.1.length = 3 ∧ (∀ x ∈ r.1, 0 ≤ x) ∧ 0 ≤ r.2 ∧ r.2 < 1000000 := by decide
def rowD (r : List Int × Int) : PyData := .tuple [calD r.1, .int r.2]
def R__law_by_hand_right (ds : List PyData) (d : PyData) : Prop := ds = [] ∧ d = .bool true
abbrev N__law_by_hand_right : List Str := ["_law_lot_so", "_law_rows_so", "_law_hands_so", "_law_after_so"]
theorem sc__law_by_hand_right : FnScope N__law_by_hand_right [] (defScope s__law_by_hand_right) := ⟨rfl, rfl, rfl, by decide +kernel, rfl, by decide +kernel, by decide +kernel⟩
/- slots: 0:_law_lot_so 1:_law_rows_so 2:_law_hands_so 3:_law_after_so ; cells:  ; callees: _law_times_right _law_end_right -/
theorem w__law_by_hand_right {P : Program} {w : World} {K : PySem.W.Frag} {mg : Str → Option Value} {base : Heap} {f : Addr} {fd : FuncData} (T : Bn mg) (c__law_times_right : C8.Cal P w K mg base 6 "_law_times_right" (spD R__law_times_right) []) (c__law_end_right : C8.Cal P w K mg base 5 "_law_end_right" (spD R__law_end_right) []) (F : FunD K "_law_by_hand_right" "_law_by_hand_right" (defArgs s__law_by_hand_right) (defBody s__law_by_hand_right) (defScope s__law_by_hand_right) [] [] f fd) (hm : mg "_law_by_hand_right" = some (.ref f)) : C8.Cal P w K mg base 7 "_law_by_hand_right" (spD R__law_by_hand_right) [] := by
  refine cal_of (N := N__law_by_hand_right) (ps := []) F hm sc__law_by_hand_right (fun kV doc pm an cdv ct us hl => by match us, hl with | [], _ => rfl) (fun ds d h => by obtain ⟨rfl, rfl⟩ := h; rfl) ?_
  intro cdv A outer s H E hr
  have nd := sc__law_by_hand_right.nd
  refine ⟨_, (pss_cons (ps_set (i := 0) nd rfl (.inl rfl) (pe_tup (pa_cons pe_int (pa_cons (pe_tup (pa_cons (pe_tup (pa_cons (pe_tup (pa_cons pe_int (pa_cons pe_int pa_nil))) (pa_cons pe_int pa_nil))) (pa_cons (pe_tup (pa_cons (pe_tup (pa_cons pe_int (pa_cons pe_int pa_nil))) (pa_cons pe_int pa_nil))) (pa_cons (pe_tup (pa_cons (pe_tup (pa_cons pe_int (pa_cons pe_int pa_nil))) (pa_cons pe_int pa_nil))) pa_nil)))) pa_nil))))
    (pss_cons (ps_set (i := 1) nd rfl (.inl rfl) (pe_lst (pa_cons (pe_tup (pa_cons (pe_tup (pa_cons pe_int (pa_cons pe_int (pa_cons pe_int pa_nil)))) (pa_cons pe_int pa_nil))) (pa_cons (pe_tup (pa_cons (pe_tup (pa_cons pe_int (pa_cons pe_int (pa_cons pe_int pa_nil)))) (pa_cons pe_int pa_nil))) (pa_cons (pe_tup (pa_cons (pe_tup (pa_cons pe_int (pa_cons pe_int (pa_cons pe_int pa_nil)))) (pa_cons pe_int pa_nil))) (pa_cons (pe_tup (pa_cons (pe_tup (pa_cons pe_int (pa_cons pe_int (pa_cons pe_int pa_nil)))) (pa_cons pe_int pa_nil))) (pa_cons (pe_tup (pa_cons (pe_tup (pa_cons pe_int (pa_cons pe_int (pa_cons pe_int pa_nil)))) (pa_cons pe_int pa_nil))) (pa_cons (pe_tup (pa_cons (pe_tup (pa_cons pe_int (pa_cons pe_int (pa_cons pe_int pa_nil)))) (pa_cons pe_int pa_nil))) pa_nil))))))))
    (pss_cons (ps_for PassesOwn.never rfl (iL (K := K) rfl (pv 1)) (gT (K := K) (n := 2) rfl rfl (pgs_cons (pg_name (i := 2) nd rfl (.inl rfl)) (pgs_cons (pg_name (i := 3) nd rfl (.inl rfl)) pgs_nil)))
      (pss_one (ps_if (pw_or (pt_not (pt_val (C8.pe_c c__law_times_right hr (by decide) (by rfl) (pa_cons (pv 0) (pa_cons (pv 2) (pa_cons (pv 3) pa_nil)))))) (pw_or1 (pt_not (pt_val (C8.pe_c c__law_end_right hr (by decide) (by rfl) (pa_cons (pv 0) (pa_cons (pv 2) (pa_cons (pv 3) pa_nil)))))))).pt
      (pss_one (ps_ret pe_bl)) pss_nil)))
    (pss_one (ps_ret (pe_and (C8.pe_c c__law_times_right hr (by decide) (by rfl) (pa_cons (pe_tup (pa_cons pe_int (pa_cons (pe_tup pa_nil) pa_nil))) (pa_cons (pe_tup (pa_cons pe_int pa_nil)) (pa_cons pe_int pa_nil)))) (pe_one (C8.pe_c c__law_end_right hr (by decide) (by rfl) (pa_cons (pe_tup (pa_cons pe_int (pa_cons (pe_tup pa_nil) pa_nil))) (pa_cons (pe_tup (pa_cons pe_int pa_nil)) (pa_cons pe_int pa_nil))))))))))), ?_⟩
  intro ds d h
  obtain ⟨rfl, rfl⟩ := h
  refine ot_let (d := lotD 3 handE) (et_is (et_pair et_int (et_trip (et_pair (et_pair et_int et_int nol_int nol_int) et_int nol_tup nol_int) (et_pair (et_pair et_int et_int nol_int nol_int) et_int nol_tup nol_int) (et_pair (et_pair et_int et_int nol_int nol_int) et_int nol_tup nol_int) nol_tup nol_tup nol_tup) nol_int nol_tup) rfl) ?_
  refine ot_let (d := .list (handR.map rowD)) (et_is (et_lst (ea_cons (et_pair (et_trip et_int et_int et_int nol_int nol_int nol_int) et_int nol_tup nol_int) (ea_cons (et_pair (et_trip et_int et_int et_int nol_int nol_int nol_int) et_int nol_tup nol_int) (ea_cons (et_pair (et_trip et_int et_int et_int nol_int nol_int nol_int) et_int nol_tup nol_int) (ea_cons (et_pair (et_trip et_int et_int et_int nol_int nol_int nol_int) et_int nol_tup nol_int) (ea_cons (et_pair (et_trip et_int et_int et_int nol_int nol_int nol_int) et_int nol_tup nol_int) (ea_cons (et_pair (et_trip et_int et_int et_int nol_int nol_int nol_int) et_int nol_tup nol_int) ea_nil)))))) ⟨nol_tup, nol_tup, nol_tup, nol_tup, nol_tup, nol_tup, True.intro⟩ (by show 6 ≤ 1000; decide)) rfl) ?_
  refine ot_forS (ι := Unit) (vs := [2, 3]) (fun _ => [some (lotD 3 handE), none, none, none]) (fun _ _ => True) (it_list et_var) () True.intro (le_of ⟨.inr rfl, .inl rfl, .inl rfl, .inl rfl, True.intro⟩) ?_ ?_
  · rintro i d _ hd -
    obtain ⟨r, hr, rfl⟩ := List.mem_map.mp (List.mem_of_getElem? hd)
    obtain ⟨r1, r2, r3, r4⟩ := handR_ok r hr
    have kk : CalOk 3 handE r.1 r.2 := ⟨handE_ok, r1, r2, r3, r4⟩
    refine ⟨_, eg2 (by decide) (by decide), ot_if (b := !true || !true) (eb_or (eb_not (eb_val (et_call (ea3 et_var et_var et_var) ⟨3, handE, r.1, r.2, rfl, kk, by decide, rfl⟩))) fun _ => eb_not (eb_val (et_call (ea3 et_var et_var et_var) ⟨3, handE, r.1, r.2, rfl, kk, rfl⟩))) (fun z => nomatch z) fun _ => ot_nx ⟨(), True.intro, le_of ⟨.inr rfl, .inl rfl, .inl rfl, .inl rfl, True.intro⟩⟩⟩
  · rintro _ -
    have k0 : CalOk 1 [] [0] 0 := ⟨⟨by decide, by decide, by decide, by decide, by decide⟩, rfl, (fun x hx => by simp at hx; omega), by decide, by decide⟩
    exact ot_ret (et_and (a := true) (b := true) (et_call (ea3 (et_pair et_int (et_tup ea_nil True.intro (Nat.zero_le _)) nol_int nol_tup) (et_tup (ea1 et_int) ⟨nol_int, True.intro⟩ (by show 1 ≤ 1000; decide)) et_int) ⟨1, [], [0], 0, rfl, k0, by decide, rfl⟩) fun _ => et_call (ea3 (et_pair et_int (et_tup ea_nil True.intro (Nat.zero_le _)) nol_int nol_tup) (et_tup (ea1 et_int) ⟨nol_int, True.intro⟩ (by show 1 ≤ 1000; decide)) et_int) ⟨1, [], [0], 0, rfl, k0, rfl⟩) rfl
theorem allW_le {E : List Er} {B : Int} (hB : 0 ≤ B) (h : ∀ e ∈ E, e.2 ≤ B) (few : E.length ≤ 36) : allW E ≤ B * 36 := by
  rw [allW_fs]
  have h1 := fs_bound (P := fun _ => true) hB h
  have h2 : B * (E.length : Int) ≤ B * 36 := Int.mul_le_mul_of_nonneg_left (by omega) hB
  omega
def R__law_right (ds : List PyData) (n : Nat) (Po : PyData → Nat → Prop) : Prop := ds = [] ∧ n ≤ 100 ∧ Po = fun d m => d = .bool true ∧ m = n + 5000
abbrev N__law_right : List Str := ["_law_box_here", "_law_turn", "_law_size_so", "_law_lot_so", "_law_hands_so", "_law_after_so", "_law_its_so"]
theorem sc__law_right : FnScope N__law_right ["_law_box_here"] (defScope s__law_right) := ⟨rfl, rfl, rfl, by decide +kernel, rfl, by decide +kernel, by decide +kernel⟩
/- slots: 0:_law_box_here 1:_law_turn 2:_law_size_so 3:_law_lot_so 4:_law_hands_so 5:_law_after_so 6:_law_its_so ; cells:  ; callees: _law_take _law_lot _law_hands _law_moved _law_times_right _law_end_right _law_mates_right -/
theorem w__law_right {P : Program} {w : World} {K : PySem.W.Frag} {mg : Str → Option Value} {base : Heap} {f : Addr} {fd : FuncData} (T : Bn mg) (c__law_take : C8.Cal P w K mg base 1 "_law_take" (spB R__law_take) []) (c__law_lot : C8.Cal P w K mg base 2 "_law_lot" (spB R__law_lot) []) (c__law_hands : C8.Cal P w K mg base 2 "_law_hands" (spB R__law_hands) []) (c__law_moved : C8.Cal P w K mg base 3 "_law_moved" (spB R__law_moved) []) (c__law_times_right : C8.Cal P w K mg base 6 "_law_times_right" (spD R__law_times_right) []) (c__law_end_right : C8.Cal P w K mg base 5 "_law_end_right" (spD R__law_end_right) []) (c__law_mates_right : C8.Cal P w K mg base 7 "_law_mates_right" (spB R__law_mates_right) []) (F : FunD K "_law_right" "_law_right" (defArgs s__law_right) (defBody s__law_right) (defScope s__law_right) [] [] f fd) (hm : mg "_law_right" = some (.ref f)) : C8.Cal P w K mg base 8 "_law_right" (spB R__law_right) [] := by
  refine cal_ofB (N := N__law_right) (ps := ["_law_box_here"]) [] F hm sc__law_right (fun kV doc pm an cdv ct us hl => by match us, hl with | [u0], _ => rfl) (fun ds n Po h => by obtain ⟨rfl, hn, rfl⟩ := h; rfl) (by decide) ?_
  intro cdv A outer s H E hr
  have nd := sc__law_right.nd
  refine ⟨_, (pss_cons (ps_for PassesOwn.never rfl (pi_range1 (by rfl) T.brange (pa_cons pe_int pa_nil)) (pg_name (i := 1) nd rfl (.inl rfl))
      (pss_cons (ps_set (i := 2) nd rfl (.inl rfl) (pe_op op_add pe_int (C8.pe_c c__law_take hr (by decide) (by rfl) (pa_cons (pv 0) (pa_cons pe_int pa_nil)))))
    (pss_cons (ps_par (i := 3) (j := 4) (by rfl) nd rfl rfl (by decide) rfl rfl (pa_cons (C8.pe_c c__law_lot hr (by decide) (by rfl) (pa_cons (pv 0) (pa_cons (pv 2) (pa_cons pe_int pa_nil)))) (pa_cons (C8.pe_c c__law_hands hr (by decide) (by rfl) (pa_cons (pv 0) (pa_cons (pv 2) (pa_cons pe_int pa_nil)))) pa_nil)) (by rfl))
    (pss_cons (ps_par (i := 5) (j := 6) (by rfl) nd rfl rfl (by decide) rfl rfl (pa_cons (C8.pe_c c__law_take hr (by decide) (by rfl) (pa_cons (pv 0) (pa_cons pe_int pa_nil))) (pa_cons (C8.pe_c c__law_moved hr (by decide) (by rfl) (pa_cons (pv 0) (pa_cons (pv 3) (pa_cons pe_int pa_nil)))) pa_nil)) (by rfl))
    (pss_cons (ps_if (pw_or (pt_not (pt_val (C8.pe_c c__law_times_right hr (by decide) (by rfl) (pa_cons (pv 3) (pa_cons (pv 4) (pa_cons (pv 5) pa_nil)))))) (pw_or1 (pt_not (pt_val (C8.pe_c c__law_end_right hr (by decide) (by rfl) (pa_cons (pv 3) (pa_cons (pv 4) (pa_cons (pv 5) pa_nil)))))))).pt
      (pss_one (ps_ret pe_bl)) pss_nil)
    (pss_one (ps_if (pw_or (pt_not (pt_val (C8.pe_c c__law_mates_right hr (by decide) (by rfl) (pa_cons (pv 0) (pa_cons (pv 3) (pa_cons (pv 6) pa_nil)))))) (pw_or1 (pt_not (pt_val (C8.pe_c c__law_mates_right hr (by decide) (by rfl) (pa_cons (pv 0) (pa_cons (pv 6) (pa_cons (pv 3) pa_nil)))))))).pt
      (pss_one (ps_ret pe_bl)) pss_nil)))))))
    (pss_one (ps_ret pe_bl))), ?_⟩
  intro ds n0 Po h
  obtain ⟨rfl, hn, rfl⟩ := h
  refine ox_forG (ι := Unit) (fun _ => [none, none, none, none, none, none, none]) (fun i _ k => k ≤ n0 + 400 * i) (ITG.is (itg_range1 (k := 8) et_int (by decide)) (rng0 8)) () (Nat.le_refl _) (Le.refl _) (by decide) (by decide) ?_ ?_
  · rintro i d _ m hd hm
    have hi : i < 8 := by
      have := (List.getElem?_eq_some_iff.mp hd).1
      simpa using this
    rw [List.getElem?_map, List.getElem?_range hi] at hd
    cases hd
    refine ⟨ap_nol nol_int, nol_int, ?_⟩
    refine ox_let (i := 2) (Po := fun d k => ∃ T : Nat, 1 ≤ T ∧ T ≤ 8 ∧ d = .int (T : Nat) ∧ k = m + 1) (ETX.imp (ix_two (f := fun i j => i + j) (ix_pure et_int) (ix_take et_int (by decide) (by omega) ⟨ap_nol nol_int, True.intro⟩)) fun d k p => ?_) (by decide) (by decide) ?_
    · obtain ⟨z, rfl, ⟨a, b, rfl, ⟨b0, b6⟩, rfl⟩, rfl⟩ := p
      refine ⟨(1 + b).toNat, by omega, by omega, ?_, rfl⟩
      rw [Int.toNat_of_nonneg (by omega)]
    rintro _ _ ⟨T, h1, h8, rfl, rfl⟩
    refine ox_let2 (i := 3) (j := 4) (P2 := fun d k => (∃ c, c.length = T ∧ Nn c ∧ d = calD c) ∧ k = m + 121) (etx_call (ea2 et_var et_int) ⟨T, 2, rfl, h1, h8, by decide, by omega, rfl⟩ ⟨ap_nol nol_int, ap_nol nol_int, True.intro⟩) (fun d k p => by obtain ⟨⟨E, _, _, rfl⟩, _⟩ := p; exact nol_tup) (fun d k p => ?_) (by decide) (by decide) (by decide) (by decide) ?_
    · obtain ⟨_, rfl⟩ := p
      refine ETX.imp (etx_call (ea2 et_var et_int) ⟨T, 5, rfl, h8, by decide, by omega, rfl⟩ ⟨ap_nol nol_int, ap_nol nol_int, True.intro⟩) fun d k p => ⟨p.1, by have := p.2; omega⟩
    rintro _ _ _ _ ⟨⟨E1, k1, b1, rfl⟩, rfl⟩ ⟨⟨c, c1, c2, rfl⟩, rfl⟩
    refine ox_let2 (i := 5) (j := 6) (P2 := fun d k => (∃ E', LotOk T E' ∧ (∀ e ∈ E', e.2 ≤ 200) ∧ d = lotD T E') ∧ k = m + 142) (ix_take et_int (by decide) (by omega) ⟨ap_nol nol_int, ap_nol nol_int, ap_nol nol_tup, ap_nol nol_tup, True.intro⟩) (fun d k p => by obtain ⟨a, rfl, _⟩ := p; exact nol_int) (fun d k p => ?_) (by decide) (by decide) (by decide) (by decide) ?_
    · obtain ⟨_, _, _, rfl⟩ := p
      refine ETX.imp (etx_call (ea2 et_var et_int) ⟨T, E1, rfl, k1, fun e he => by have := b1 e he; omega, by omega, rfl⟩ ⟨ap_nol nol_int, ap_nol nol_int, ap_nol nol_tup, ap_nol nol_tup, True.intro⟩) fun d k p => ⟨p.1, by have := p.2; omega⟩
    rintro _ _ _ _ ⟨a, rfl, ⟨a0, a3⟩, _⟩ ⟨⟨F1, k2, b2, rfl⟩, rfl⟩
    have w1 := allW_le (by decide) b1 k1.few
    have w2 := allW_le (by decide) b2 k2.few
    have kk : CalOk T E1 c a := ⟨k1, c1, c2, a0, by omega⟩
    refine ox_ifr (b := !true || !true) (eb_or (eb_not (eb_val (et_call (ea3 et_var et_var et_var) ⟨T, E1, c, a, rfl, kk, by omega, rfl⟩))) fun _ => eb_not (eb_val (et_call (ea3 et_var et_var et_var) ⟨T, E1, c, a, rfl, kk, rfl⟩))) (fun z => nomatch z) fun _ => ?_
    have ape : ApE (wipeD [none, some (.int (i : Nat)), some (.int (T : Nat)), some (lotD T E1), some (calD c), some (.int a), some (lotD T F1)] []) := ⟨ap_nol nol_int, ap_nol nol_int, ap_nol nol_tup, ap_nol nol_tup, ap_nol nol_int, ap_nol nol_tup, True.intro⟩
    refine ox_if (tx_or2 (n1 := m + 242) (n2 := m + 342) (tx_not (b := true) (n1 := m + 242) (ETX.imp (etx_call (ea2 et_var et_var) ⟨T, E1, F1, rfl, k1, k2, by omega, by omega, by omega, rfl⟩ ape) fun d k p => ⟨p.1, by have := p.2; omega⟩)) (tx_not (b := true) (n1 := m + 342) (ETX.imp (etx_call (ea2 et_var et_var) ⟨T, F1, E1, rfl, k2, k1, by omega, by omega, by omega, rfl⟩ ape) fun d k p => ⟨p.1, by have := p.2; omega⟩))) (fun m' p => nomatch p.1) fun m' p => ?_
    obtain ⟨_, rfl⟩ := p
    exact ox_nx ⟨(), by omega, le_of ⟨.inl rfl, .inl rfl, .inl rfl, .inl rfl, .inl rfl, .inl rfl, .inl rfl, True.intro⟩⟩
  · rintro _ m hm
    have hm : m ≤ n0 + 3200 := by simpa using hm
    refine OX.le (m := n0 + 5000) (ox_ret (ET.x et_bl) ?_) (by omega)
    rintro _ _ ⟨rfl, rfl⟩
    exact ⟨rfl, rfl⟩
end K68

namespace K68
open PySem PySem.Spec PyProof.Rows L2
open Evl (Ex)
def spLaw (K : PySem.W.Frag) : Sp := fun vs H Q _ => ∃ (a : Addr) (ns : List Int), vs = [.ref a] ∧ SqL K H a (ns.map V.int) ∧ ns.length ≤ 63 ∧ ∀ H', Q (.bl true) H'
abbrev N_law : List Str := ["_law_script", "_law_cells_here", "_law_k"]
theorem sc_law : FnScope N_law ["_law_script"] (defScope s_law) := ⟨rfl, rfl, rfl, by decide +kernel, rfl, by decide +kernel, by decide +kernel⟩
/- slots: 0:_law_script 1:_law_cells_here 2:_law_k ; cells: _law_cells_here ; callees: _law_by_hand_right _law_cells _law_box _law_right -/
theorem w_law {P : Program} {w : World} {K : PySem.W.Frag} {mg : Str → Option Value} {base : Heap} {f : Addr} {fd : FuncData} (T : Bn mg) (c__law_by_hand_right : C8.Cal P w K mg base 7 "_law_by_hand_right" (spD R__law_by_hand_right) []) (c__law_cells : C8.Cal P w K mg base 1 "_law_cells" (sp__law_cells K) []) (c__law_box : C8.Cal P w K mg base 1 "_law_box" (spF R__law_box) []) (c__law_right : C8.Cal P w K mg base 8 "_law_right" (spB R__law_right) []) (F : FunD K "law" "law" (defArgs s_law) (defBody s_law) (defScope s_law) [] [] f fd) : FnOk P w K mg base C8.CX0 9 f fd ["_law_script"] (spLaw K) := by
  refine fn_raw (N := N_law) (ps := ["_law_script"]) F sc_law (fun vs H Q E h => by obtain ⟨a, ns, rfl, _⟩ := h; rfl) ?_
  intro cdv A outer s H vs Q E hr h
  have nd := sc_law.nd
  refine ⟨_, (pss_cons (ps_if (pt_not (pt_val (pe_c0 c__law_by_hand_right hr (by decide) (by rfl))))
      (pss_one (ps_ret pe_bl)) pss_nil)
    (pss_cons (ps_set (i := 1) nd rfl (.inr rfl) (C8.pe_c c__law_cells hr (by decide) (by rfl) (pa_cons (pv 0) (pa_cons pe_int pa_nil))))
    (pss_one (ps_ret (pe_callB (bAll (K := K) rfl rfl) (by rfl) T.ball (by decide +kernel) (pa_cons (pe_lc (own := [("_law_k", 2)]) (g := (gName 2)) (tt := tYes)  rfl nd (pi_range1 (by rfl) T.brange (pa_cons (pe_callB (bLen (K := K) rfl) (by rfl) T.blen (by decide +kernel) (pa_cons (pv 1) pa_nil)) pa_nil)) (blkOk_by (own := [("_law_k", 2)]) (N := N_law) (sc := defScope s_law) (by decide +kernel)) (fun _ _ _ _ _ => (pg_name (i := 2) nd rfl (.inl rfl))) (fun _ _ _ _ _ => pts_nil) (fun _ _ _ _ _ => (C8.pe_c c__law_right hr (by decide) (by rfl) (pa_cons (C8.pe_c c__law_box hr (by decide) (by rfl) (pa_cons (pv 1) (pa_cons (pv 2) pa_nil))) pa_nil)))) pa_nil)))))), ?_⟩
  obtain ⟨a, ns, rfl, hs, few, q⟩ := h
  refine ⟨[], .bool true, True.intro, ⟨rfl, rfl⟩, fun v H1 e1 hv => ⟨true, hv_bool hv, ?_⟩⟩
  dsimp only
  rw [if_neg (show ¬ (!true) = true by decide)]
  refine ⟨_, rfl, ?_⟩
  refine ⟨a, ns, rfl, Evl.ex_l e1 hs, few, fun p H2 ms hp e2 hm m1 m3 => ?_⟩
  refine g_name ?_
  have S2 : Sl (List.set (L2.start N_law [.ref a]) 1 (some (V.ref p))) H2 [none, some (.list (ms.map .int)), none] := ⟨rfl, fun j d q => by
    match j, q with
    | 0, q => cases q
    | 1, q => cases q; exact ⟨_, rfl, p, _, rfl, hm, TpAll.ofInts ms⟩
    | 2, q => cases q
    | k + 3, q => simp at q⟩
  generalize List.set (L2.start N_law [.ref a]) 1 (some (V.ref p)) = σ at S2
  refine et_allL (bs := (List.range ms.length).map fun _ => true) (et_mapV .bool (List.range ms.length) (fun i => .int (i : Nat)) (fun _ => true) (IT.is (it_range1 (n := (ms.length : Nat)) (et_is (et_lenL et_var) (by rw [List.length_map])) (by omega)) (rng0 _)) (by rw [List.length_range]; omega) fun i hi => ⟨_, eg_name (by decide), ?_, nol_bool⟩) σ H2 S2 _ fun w H3 e3 hw => ?_
  · have hi := List.mem_range.mp hi
    intro σ' H' S' Q' q'
    obtain ⟨v1, q1, r1⟩ := S'.2 1 _ rfl
    obtain ⟨v2, q2, r2⟩ := S'.2 2 _ rfl
    refine ⟨v1, q1, v2, q2, [.list (ms.map .int), .int (i : Nat)], _, ⟨r1, r2, True.intro⟩, ⟨ms, i, rfl, by omega, by omega, rfl⟩, fun b H5 hb e5 hd5 => ?_⟩
    obtain ⟨b', xs, e6, h6, t6⟩ := hd5
    cases e6
    have hxs : xs = [V.int (boxA (cellOf ms i)), V.int (boxB (cellOf ms i) i), V.int 0] := TpAll.ints (ns := [boxA (cellOf ms i), boxB (cellOf ms i) i, 0]) t6
    subst hxs
    refine ⟨b, [], [], 0, _, rfl, True.intro, ⟨_, _, 0, h6, Int.le_refl _, by decide⟩, ⟨rfl, by decide, rfl⟩, fun d v7 H7 m7 p7 e7 hb7 hv7 => ?_⟩
    obtain ⟨rfl, _⟩ := p7
    refine q' v7 H7 (fun x o hx => e7 _ _ ?_) hv7
    rw [rm_ne fun z => by rw [z, hb] at hx; cases hx]
    exact e5 _ _ hx
  · have : w = .bl true := by
      rw [hv_bool hw]
      congr 1
      rw [List.all_map, List.all_eq_true]
      intro i _
      rfl
    rw [this]
    exact q H3
end K68

namespace K68
open PySem PySem.Spec PyProof.Rows L2
theorem facts {P : Program} {w : World} {K : PySem.W.Frag} {h : Heap} {mg : Str → Option Value} {f : Addr} (X : K.In h) (G : h.Ns mainGlobals mg) (hfa : mg ("law" : Str) = some (.ref f)) (c : He.SaysD fa fn K) :
    ∃ fd : FuncData, (∀ (s : Shared) (v : Value), BindsTo s fd ⟨[v], []⟩ [("_law_script", v)]) ∧ ∀ base : Heap, K.In base → base.Ns mainGlobals mg → FnOk P w K mg base L2.CX0 9 f fd ["_law_script"] (spLaw K) := by
  have T : Bn mg := ⟨He.free_ok X G (c.fact 51 rfl), He.free_ok X G (c.fact 52 rfl), He.free_ok X G (c.fact 53 rfl), He.free_ok X G (c.fact 54 rfl), He.free_ok X G (c.fact 55 rfl), He.free_ok X G (c.fact 56 rfl), He.free_ok X G (c.fact 57 rfl), He.free_ok X G (c.fact 58 rfl), He.free_ok X G (c.fact 59 rfl), He.free_ok X G (c.fact 60 rfl), He.free_ok X G (c.fact 61 rfl), He.free_ok X G (c.fact 62 rfl), He.free_ok X G (c.fact 63 rfl), He.free_ok X G (c.fact 64 rfl), He.free_ok X G (c.fact 65 rfl), He.free_ok X G (c.fact 66 rfl), He.free_ok X G (c.fact 67 rfl), He.int_ok X G (c.fact 68 rfl)⟩
  obtain ⟨fd0, F0⟩ := c.def_ 0 (d := d_is_number) rfl
  have hm0 : mg "is_number" = some (.ref (He.fAd K d_is_number.at_)) := He.glo_ok X G (c.fact 0 rfl)
  obtain ⟨fd1, F1⟩ := c.def_ 1 (d := d_are_numbers) rfl
  have hm1 : mg "are_numbers" = some (.ref (He.fAd K d_are_numbers.at_)) := He.glo_ok X G (c.fact 1 rfl)
  obtain ⟨fd2, F2⟩ := c.def_ 2 (d := d_check_stretch) rfl
  have hm2 : mg "check_stretch" = some (.ref (He.fAd K d_check_stretch.at_)) := He.glo_ok X G (c.fact 2 rfl)
  obtain ⟨fd3, F3⟩ := c.def_ 3 (d := d_made_lot) rfl
  have hm3 : mg "made_lot" = some (.ref (He.fAd K d_made_lot.at_)) := He.glo_ok X G (c.fact 3 rfl)
  obtain ⟨fd4, F4⟩ := c.def_ 4 (d := d_hours_of) rfl
  have hm4 : mg "hours_of" = some (.ref (He.fAd K d_hours_of.at_)) := He.glo_ok X G (c.fact 4 rfl)
  obtain ⟨fd5, F5⟩ := c.def_ 5 (d := d_all_work) rfl
  have hm5 : mg "all_work" = some (.ref (He.fAd K d_all_work.at_)) := He.glo_ok X G (c.fact 5 rfl)
  obtain ⟨fd6, F6⟩ := c.def_ 6 (d := d_check_same) rfl
  have hm6 : mg "check_same" = some (.ref (He.fAd K d_check_same.at_)) := He.glo_ok X G (c.fact 6 rfl)
  obtain ⟨fd7, F7⟩ := c.def_ 7 (d := d_times_over) rfl
  have hm7 : mg "times_over" = some (.ref (He.fAd K d_times_over.at_)) := He.glo_ok X G (c.fact 7 rfl)
  obtain ⟨fd8, F8⟩ := c.def_ 8 (d := d_all_stretches) rfl
  have hm8 : mg "all_stretches" = some (.ref (He.fAd K d_all_stretches.at_)) := He.glo_ok X G (c.fact 8 rfl)
  obtain ⟨fd9, F9⟩ := c.def_ 9 (d := d_lies_within) rfl
  have hm9 : mg "lies_within" = some (.ref (He.fAd K d_lies_within.at_)) := He.glo_ok X G (c.fact 9 rfl)
  obtain ⟨fd10, F10⟩ := c.def_ 10 (d := d_asked) rfl
  have hm10 : mg "asked" = some (.ref (He.fAd K d_asked.at_)) := He.glo_ok X G (c.fact 10 rfl)
  obtain ⟨fd11, F11⟩ := c.def_ 11 (d := d_table_of) rfl
  have hm11 : mg "table_of" = some (.ref (He.fAd K d_table_of.at_)) := He.glo_ok X G (c.fact 11 rfl)
  obtain ⟨fd12, F12⟩ := c.def_ 12 (d := d_is_calendar) rfl
  have hm12 : mg "is_calendar" = some (.ref (He.fAd K d_is_calendar.at_)) := He.glo_ok X G (c.fact 12 rfl)
  obtain ⟨fd13, F13⟩ := c.def_ 13 (d := d_check_calendar) rfl
  have hm13 : mg "check_calendar" = some (.ref (He.fAd K d_check_calendar.at_)) := He.glo_ok X G (c.fact 13 rfl)
  obtain ⟨fd14, F14⟩ := c.def_ 14 (d := d_hands_in) rfl
  have hm14 : mg "hands_in" = some (.ref (He.fAd K d_hands_in.at_)) := He.glo_ok X G (c.fact 14 rfl)
  obtain ⟨fd15, F15⟩ := c.def_ 15 (d := d_lacks) rfl
  have hm15 : mg "lacks" = some (.ref (He.fAd K d_lacks.at_)) := He.glo_ok X G (c.fact 15 rfl)
  obtain ⟨fd16, F16⟩ := c.def_ 16 (d := d_short_stretches) rfl
  have hm16 : mg "short_stretches" = some (.ref (He.fAd K d_short_stretches.at_)) := He.glo_ok X G (c.fact 16 rfl)
  obtain ⟨fd17, F17⟩ := c.def_ 17 (d := d_is_done) rfl
  have hm17 : mg "is_done" = some (.ref (He.fAd K d_is_done.at_)) := He.glo_ok X G (c.fact 17 rfl)
  obtain ⟨fd18, F18⟩ := c.def_ 18 (d := d_differences) rfl
  have hm18 : mg "differences" = some (.ref (He.fAd K d_differences.at_)) := He.glo_ok X G (c.fact 18 rfl)
  obtain ⟨fd19, F19⟩ := c.def_ 19 (d := d_never_more) rfl
  have hm19 : mg "never_more" = some (.ref (He.fAd K d_never_more.at_)) := He.glo_ok X G (c.fact 19 rfl)
  obtain ⟨fd20, F20⟩ := c.def_ 20 (d := d_over) rfl
  have hm20 : mg "over" = some (.ref (He.fAd K d_over.at_)) := He.glo_ok X G (c.fact 20 rfl)
  obtain ⟨fd21, F21⟩ := c.def_ 21 (d := d_wait_for) rfl
  have hm21 : mg "wait_for" = some (.ref (He.fAd K d_wait_for.at_)) := He.glo_ok X G (c.fact 21 rfl)
  obtain ⟨fd22, F22⟩ := c.def_ 22 (d := d_all_waits) rfl
  have hm22 : mg "all_waits" = some (.ref (He.fAd K d_all_waits.at_)) := He.glo_ok X G (c.fact 22 rfl)
  obtain ⟨fd23, F23⟩ := c.def_ 23 (d := d_lateness) rfl
  have hm23 : mg "lateness" = some (.ref (He.fAd K d_lateness.at_)) := He.glo_ok X G (c.fact 23 rfl)
  obtain ⟨fd24, F24⟩ := c.def_ 24 (d := d_done_late) rfl
  have hm24 : mg "done_late" = some (.ref (He.fAd K d_done_late.at_)) := He.glo_ok X G (c.fact 24 rfl)
  obtain ⟨fd25, F25⟩ := c.def_ 25 (d := d_late_stretches) rfl
  have hm25 : mg "late_stretches" = some (.ref (He.fAd K d_late_stretches.at_)) := He.glo_ok X G (c.fact 25 rfl)
  obtain ⟨fd26, F26⟩ := c.def_ 26 (d := d_finish) rfl
  have hm26 : mg "finish" = some (.ref (He.fAd K d_finish.at_)) := He.glo_ok X G (c.fact 26 rfl)
  obtain ⟨fd27, F27⟩ := c.def_ 27 (d := d_least_after) rfl
  have hm27 : mg "least_after" = some (.ref (He.fAd K d_least_after.at_)) := He.glo_ok X G (c.fact 27 rfl)
  obtain ⟨fd28, F28⟩ := c.def_ 28 (d := d_longer) rfl
  have hm28 : mg "longer" = some (.ref (He.fAd K d_longer.at_)) := He.glo_ok X G (c.fact 28 rfl)
  obtain ⟨fd29, F29⟩ := c.def_ 29 (d := d_never_later) rfl
  have hm29 : mg "never_later" = some (.ref (He.fAd K d_never_later.at_)) := He.glo_ok X G (c.fact 29 rfl)
  obtain ⟨fd30, F30⟩ := c.def_ 30 (d := d_is_later) rfl
  have hm30 : mg "is_later" = some (.ref (He.fAd K d_is_later.at_)) := He.glo_ok X G (c.fact 30 rfl)
  obtain ⟨fd31, F31⟩ := c.def_ 31 (d := d_later_calendar) rfl
  have hm31 : mg "later_calendar" = some (.ref (He.fAd K d_later_calendar.at_)) := He.glo_ok X G (c.fact 31 rfl)
  obtain ⟨fd32, F32⟩ := c.def_ 32 (d := d_is_later_calendar) rfl
  have hm32 : mg "is_later_calendar" = some (.ref (He.fAd K d_is_later_calendar.at_)) := He.glo_ok X G (c.fact 32 rfl)
  obtain ⟨fd33, F33⟩ := c.def_ 33 (d := d__law_box) rfl
  have hm33 : mg "_law_box" = some (.ref (He.fAd K d__law_box.at_)) := He.glo_ok X G (c.fact 33 rfl)
  obtain ⟨fd34, F34⟩ := c.def_ 34 (d := d__law_take) rfl
  have hm34 : mg "_law_take" = some (.ref (He.fAd K d__law_take.at_)) := He.glo_ok X G (c.fact 34 rfl)
  obtain ⟨fd35, F35⟩ := c.def_ 35 (d := d__law_cells) rfl
  have hm35 : mg "_law_cells" = some (.ref (He.fAd K d__law_cells.at_)) := He.glo_ok X G (c.fact 35 rfl)
  obtain ⟨fd36, F36⟩ := c.def_ 36 (d := d__law_of) rfl
  have hm36 : mg "_law_of" = some (.ref (He.fAd K d__law_of.at_)) := He.glo_ok X G (c.fact 36 rfl)
  obtain ⟨fd37, F37⟩ := c.def_ 37 (d := d__law_same) rfl
  have hm37 : mg "_law_same" = some (.ref (He.fAd K d__law_same.at_)) := He.glo_ok X G (c.fact 37 rfl)
  obtain ⟨fd38, F38⟩ := c.def_ 38 (d := d__law_spans) rfl
  have hm38 : mg "_law_spans" = some (.ref (He.fAd K d__law_spans.at_)) := He.glo_ok X G (c.fact 38 rfl)
  obtain ⟨fd39, F39⟩ := c.def_ 39 (d := d__law_lot) rfl
  have hm39 : mg "_law_lot" = some (.ref (He.fAd K d__law_lot.at_)) := He.glo_ok X G (c.fact 39 rfl)
  obtain ⟨fd40, F40⟩ := c.def_ 40 (d := d__law_table) rfl
  have hm40 : mg "_law_table" = some (.ref (He.fAd K d__law_table.at_)) := He.glo_ok X G (c.fact 40 rfl)
  obtain ⟨fd41, F41⟩ := c.def_ 41 (d := d__law_made) rfl
  have hm41 : mg "_law_made" = some (.ref (He.fAd K d__law_made.at_)) := He.glo_ok X G (c.fact 41 rfl)
  obtain ⟨fd42, F42⟩ := c.def_ 42 (d := d__law_moved) rfl
  have hm42 : mg "_law_moved" = some (.ref (He.fAd K d__law_moved.at_)) := He.glo_ok X G (c.fact 42 rfl)
  obtain ⟨fd43, F43⟩ := c.def_ 43 (d := d__law_hands) rfl
  have hm43 : mg "_law_hands" = some (.ref (He.fAd K d__law_hands.at_)) := He.glo_ok X G (c.fact 43 rfl)
  obtain ⟨fd44, F44⟩ := c.def_ 44 (d := d__law_above) rfl
  have hm44 : mg "_law_above" = some (.ref (He.fAd K d__law_above.at_)) := He.glo_ok X G (c.fact 44 rfl)
  obtain ⟨fd45, F45⟩ := c.def_ 45 (d := d__law_times_right) rfl
  have hm45 : mg "_law_times_right" = some (.ref (He.fAd K d__law_times_right.at_)) := He.glo_ok X G (c.fact 45 rfl)
  obtain ⟨fd46, F46⟩ := c.def_ 46 (d := d__law_end_right) rfl
  have hm46 : mg "_law_end_right" = some (.ref (He.fAd K d__law_end_right.at_)) := He.glo_ok X G (c.fact 46 rfl)
  obtain ⟨fd47, F47⟩ := c.def_ 47 (d := d__law_mates_right) rfl
  have hm47 : mg "_law_mates_right" = some (.ref (He.fAd K d__law_mates_right.at_)) := He.glo_ok X G (c.fact 47 rfl)
  obtain ⟨fd48, F48⟩ := c.def_ 48 (d := d__law_by_hand_right) rfl
  have hm48 : mg "_law_by_hand_right" = some (.ref (He.fAd K d__law_by_hand_right.at_)) := He.glo_ok X G (c.fact 48 rfl)
  obtain ⟨fd49, F49⟩ := c.def_ 49 (d := d__law_right) rfl
  have hm49 : mg "_law_right" = some (.ref (He.fAd K d__law_right.at_)) := He.glo_ok X G (c.fact 49 rfl)
  obtain ⟨fd50, F50⟩ := c.def_ 50 (d := d_law) rfl
  have hm50 : mg "law" = some (.ref (He.fAd K d_law.at_)) := He.glo_ok X G (c.fact 50 rfl)
  have hf : f = He.fAd K d_law.at_ := by
    rw [hm50] at hfa
    injection hfa with h1
    injection h1 with h2
    exact h2.symm
  subst hf
  refine ⟨fd50, fun s v => FunD.bindsA (ps := ["_law_script"]) F50 (fun kV doc pm an cdv ct us hl => by match us, hl with | [u0], _ => rfl) s [v] rfl, fun base hK hG => ?_⟩
  have c_is_number := w_is_number (P := P) (w := w) (base := base) T  F0 hm0
  have c_check_stretch := w_check_stretch (P := P) (w := w) (base := base) T  F2 hm2
  have c_hours_of := w_hours_of (P := P) (w := w) (base := base) T  F4 hm4
  have c_all_work := w_all_work (P := P) (w := w) (base := base) T  F5 hm5
  have c_check_same := w_check_same (P := P) (w := w) (base := base) T  F6 hm6
  have c_all_stretches := w_all_stretches (P := P) (w := w) (base := base) T  F8 hm8
  have c_lies_within := w_lies_within (P := P) (w := w) (base := base) T  F9 hm9
  have c_check_calendar := w_check_calendar (P := P) (w := w) (base := base) T  F13 hm13
  have c_wait_for := w_wait_for (P := P) (w := w) (base := base) T  F21 hm21
  have c_is_later := w_is_later (P := P) (w := w) (base := base) T  F30 hm30
  have c__law_box := w__law_box (P := P) (w := w) (base := base) T  F33 hm33
  have c__law_take := w__law_take (P := P) (w := w) (base := base) T  F34 hm34
  have c__law_cells := w__law_cells (P := P) (w := w) (base := base) T  F35 hm35
  have c__law_spans := w__law_spans (P := P) (w := w) (base := base) T  F38 hm38
  have c__law_made := w__law_made (P := P) (w := w) (base := base) T  F41 hm41
  have c__law_above := w__law_above (P := P) (w := w) (base := base) T  F44 hm44
  have c_are_numbers := w_are_numbers (P := P) (w := w) (base := base) T c_is_number F1 hm1
  have c_made_lot := w_made_lot (P := P) (w := w) (base := base) T c_check_stretch F3 hm3
  have c_asked := w_asked (P := P) (w := w) (base := base) T c_check_stretch c_lies_within F10 hm10
  have c_hands_in := w_hands_in (P := P) (w := w) (base := base) T c_check_stretch F14 hm14
  have c__law_of := w__law_of (P := P) (w := w) (base := base) T c__law_take F36 hm36
  have c0__law_same := w__law_same0 (P := P) (w := w) (base := base) T F37 hm37
  have c__law_same := w__law_same (P := P) (w := w) (base := base) T c0__law_same F37 hm37
  have c__law_lot := w__law_lot (P := P) (w := w) (base := base) T c__law_take c__law_spans F39 hm39
  have c__law_table := w__law_table (P := P) (w := w) (base := base) T c__law_spans F40 hm40
  have c__law_hands := w__law_hands (P := P) (w := w) (base := base) T c__law_take F43 hm43
  have c_times_over := w_times_over (P := P) (w := w) (base := base) T c_made_lot F7 hm7
  have c_table_of := w_table_of (P := P) (w := w) (base := base) T c_all_stretches c_asked F11 hm11
  have c_is_calendar := w_is_calendar (P := P) (w := w) (base := base) T c_are_numbers F12 hm12
  have c_lacks := w_lacks (P := P) (w := w) (base := base) T c_check_calendar c_all_stretches c_asked c_hands_in F15 hm15
  have c_all_waits := w_all_waits (P := P) (w := w) (base := base) T c_check_calendar c_all_stretches c_asked c_wait_for F22 hm22
  have c_finish := w_finish (P := P) (w := w) (base := base) T c_check_calendar c_asked c_wait_for F26 hm26
  have c_least_after := w_least_after (P := P) (w := w) (base := base) T c_check_calendar c_all_stretches c_asked F27 hm27
  have c_longer := w_longer (P := P) (w := w) (base := base) T c_made_lot F28 hm28
  have c__law_moved := w__law_moved (P := P) (w := w) (base := base) T c__law_table c__law_take c__law_spans c__law_of c__law_made F42 hm42
  have c_short_stretches := w_short_stretches (P := P) (w := w) (base := base) T c_lacks F16 hm16
  have c_differences := w_differences (P := P) (w := w) (base := base) T c_check_same c_all_stretches c_table_of F18 hm18
  have c_lateness := w_lateness (P := P) (w := w) (base := base) T c_all_waits F23 hm23
  have c_is_done := w_is_done (P := P) (w := w) (base := base) T c_short_stretches F17 hm17
  have c_never_more := w_never_more (P := P) (w := w) (base := base) T c_differences F19 hm19
  have c_over := w_over (P := P) (w := w) (base := base) T c_differences F20 hm20
  have c_done_late := w_done_late (P := P) (w := w) (base := base) T c_lateness F24 hm24
  have c_late_stretches := w_late_stretches (P := P) (w := w) (base := base) T c_lateness c_all_waits F25 hm25
  have c_is_later_calendar := w_is_later_calendar (P := P) (w := w) (base := base) T c_check_same c_is_calendar c_is_number c_lateness c_is_later F32 hm32
  have c__law_end_right := w__law_end_right (P := P) (w := w) (base := base) T c_finish c_lateness c_hours_of c_made_lot F46 hm46
  have c_never_later := w_never_later (P := P) (w := w) (base := base) T c_over F29 hm29
  have c_later_calendar := w_later_calendar (P := P) (w := w) (base := base) T c_over c_all_work F31 hm31
  have c__law_times_right := w__law_times_right (P := P) (w := w) (base := base) T c_lateness c_hours_of c_done_late c_longer c_is_done c__law_same c_least_after c_all_work c_late_stretches c_asked F45 hm45
  have c__law_mates_right := w__law_mates_right (P := P) (w := w) (base := base) T c_never_later c_later_calendar c_never_more c__law_same c_lateness c__law_above c_is_later_calendar c__law_hands c__law_take c_times_over F47 hm47
  have c__law_by_hand_right := w__law_by_hand_right (P := P) (w := w) (base := base) T c__law_times_right c__law_end_right F48 hm48
  have c__law_right := w__law_right (P := P) (w := w) (base := base) T c__law_take c__law_lot c__law_hands c__law_moved c__law_times_right c__law_end_right c__law_mates_right F49 hm49
  exact w_law T c__law_by_hand_right c__law_cells c__law_box c__law_right F50

end K68
open PySem PySem.W PySem.Calls PyProof.Rows
theorem PySem.Challenge.cw_anyhands_k68_whole_late_and_done_holds : PySem.Challenge.rw_anyhands_k68_whole_late_and_done.Holds := by
  w_on; o_law
  refine HandSHeadRun.head_any (r := OpenLaw.row PySem.Challenge.rw_anyhands_k68_whole_late_and_done) (q := view (OpenLaw.row PySem.Challenge.rw_anyhands_k68_whole_late_and_done).prog [62]) (H := K68.hk) (ob := K68.ob) (M := 4000) (loose := K68.loose) (d := HandSHeadRun.topDef (OpenLaw.row PySem.Challenge.rw_anyhands_k68_whole_late_and_done).prog 62) (kwd := []) K68.ob_eq
    (by kernel_rfl) (fun s => by kernel_rfl) K68.run (by kernel_rfl) (by kernel_rfl) (by kernel_rfl) (by rfl) (by first | assumption | decide +kernel) (by decide +kernel) ⟨rfl, rfl, rfl, rfl, rfl, by decide +kernel⟩ ?hw ?hc
  case hw => w_witness2
  case hc =>
    refine L2.walk_ofE (l := PySem.Challenge.rw_anyhands_k68_whole_late_and_done) (n := 63) (k := 9) (x := "_law_script") (CX := L2.CX0) rfl (by decide) (by kernel_rfl) ⟨rfl, by decide, by decide⟩ ?F (fun _ _ _ _ z => z)
    intro w mg fa h Y G hmg0
    obtain ⟨K, KX, c⟩ := Y
    have hmg : mg ("law" : PySem.Str) = some (.ref fa) := by
      have e : (HandSHeadRun.topDef (OpenLaw.row PySem.Challenge.rw_anyhands_k68_whole_late_and_done).prog 62).name = ("law" : PySem.Str) := by kernel_rfl
      rw [← e]
      exact hmg0
    obtain ⟨fd, hb, hF⟩ := K68.facts (P := (PySem.Challenge.rw_anyhands_k68_whole_late_and_done).prog) (w := w) KX G hmg c
    exact ⟨K, fd, K68.spLaw K, KX, hb, fun H a ns hl _ hS => ⟨a, ns, rfl, hS, hl, fun _ => rfl⟩, hF⟩

