import PyProof.Rows.All
import Wide.All
import OpenK.AllK
import Wide.FinOn
import HandS.ForMost
import HandS.TupSets
import HandS.TupAny
import HandS.Conv
import HandS.Wide
import HandS.IsInst
import HandS.Style
import HandS.Evl
import KE.SortData
import KE.KeyNested
import KE.KDictDisplayH
import HandS.Walk
import PySem.Challenge.RW_covernets_k16_whole_decisions
set_option Elab.async false
set_option maxRecDepth 100000
set_option maxHeartbeats 8000000
namespace K16
/-! ### sums -/
abbrev gt (m : List Int) (i : Nat) : Int := m.getD i 0
def sm : Nat → (Nat → Int) → Int
  | 0, _ => 0
  | n + 1, f => sm n f + f n
theorem sm_congr {n : Nat} {f g : Nat → Int} (h : ∀ i, i < n → f i = g i) : sm n f = sm n g := by
  induction n with
  | zero => rfl
  | succ n ih => simp only [sm]; rw [ih fun i hi => h i (by omega), h n (by omega)]
theorem sm_le {n : Nat} {f g : Nat → Int} (h : ∀ i, i < n → f i ≤ g i) : sm n f ≤ sm n g := by
  induction n with
  | zero => exact Int.le_refl _
  | succ n ih =>
    have a := ih fun i hi => h i (by omega)
    have b := h n (by omega)
    simp only [sm]; omega
theorem sm_zero (n : Nat) : sm n (fun _ => 0) = 0 := by
  induction n with
  | zero => rfl
  | succ n ih => simp only [sm]; omega
theorem sm_eq_zero {n : Nat} {f : Nat → Int} (h : ∀ i, i < n → f i = 0) : sm n f = 0 := (sm_congr h).trans (sm_zero n)
theorem sm_nonneg {n : Nat} {f : Nat → Int} (h : ∀ i, i < n → 0 ≤ f i) : 0 ≤ sm n f := by
  have := sm_le (n := n) (f := fun _ => 0) (g := f) h
  rw [sm_zero] at this
  exact this
theorem sm_term {n : Nat} {f : Nat → Int} (h : ∀ i, i < n → 0 ≤ f i) {j : Nat} (hj : j < n) : f j ≤ sm n f := by
  induction n with
  | zero => omega
  | succ n ih =>
    simp only [sm]
    rcases Nat.lt_succ_iff_lt_or_eq.mp hj with c | c
    · have a := ih (fun i hi => h i (by omega)) c
      have b := h n (by omega)
      omega
    · subst c
      have := sm_nonneg (n := j) (f := f) fun i hi => h i (by omega)
      omega
theorem sm_zero_all {n : Nat} {f : Nat → Int} (h : ∀ i, i < n → 0 ≤ f i) (e : sm n f = 0) : ∀ i, i < n → f i = 0 := fun i hi => by
  have a := sm_term h hi
  have b := h i hi
  omega
theorem sm_pos {n : Nat} {f : Nat → Int} (e : 0 < sm n f) : ∃ i, i < n ∧ 0 < f i := by
  induction n with
  | zero => simp [sm] at e
  | succ n ih =>
    simp only [sm] at e
    by_cases c : 0 < sm n f
    · obtain ⟨i, hi, h⟩ := ih c
      exact ⟨i, by omega, h⟩
    · exact ⟨n, by omega, by omega⟩
theorem sm_add (n : Nat) (f g : Nat → Int) : sm n (fun i => f i + g i) = sm n f + sm n g := by
  induction n with
  | zero => rfl
  | succ n ih => simp only [sm]; omega
theorem sm_sub (n : Nat) (f g : Nat → Int) : sm n (fun i => f i - g i) = sm n f - sm n g := by
  induction n with
  | zero => rfl
  | succ n ih => simp only [sm]; omega
theorem sm_comm (n k : Nat) (f : Nat → Nat → Int) : sm n (fun i => sm k (fun j => f i j)) = sm k (fun j => sm n (fun i => f i j)) := by
  induction n with
  | zero => simp only [sm]; exact (sm_zero k).symm
  | succ n ih => simp only [sm]; rw [ih, ← sm_add]
theorem sm_single {n : Nat} {f : Nat → Int} {j : Nat} (hj : j < n) (h : ∀ i, i < n → i ≠ j → f i = 0) : sm n f = f j := by
  induction n with
  | zero => omega
  | succ n ih =>
    simp only [sm]
    rcases Nat.lt_succ_iff_lt_or_eq.mp hj with c | c
    · rw [ih c fun i hi => h i (by omega), h n (by omega) (by omega)]; omega
    · subst c
      rw [sm_eq_zero fun i hi => h i (by omega) (by omega)]; omega
theorem sm_upd {n : Nat} {f g : Nat → Int} {j : Nat} {d : Int} (hj : j < n) (h : ∀ i, i < n → i ≠ j → g i = f i) (e : g j = f j + d) : sm n g = sm n f + d := by
  have a : sm n (fun i => g i - f i) = d := by
    rw [sm_single hj fun i hi hn => by rw [h i hi hn]; omega]; omega
  rw [sm_sub] at a
  omega
/-- as many as wanted, out of what there is -/
theorem greedy : ∀ (n : Nat) (av : Nat → Int) (T : Int), (∀ i, i < n → 0 ≤ av i) → 0 ≤ T → T ≤ sm n av → ∃ d : Nat → Int, (∀ i, i < n → 0 ≤ d i ∧ d i ≤ av i) ∧ sm n d = T
  | 0, _, T, _, h0, h1 => ⟨fun _ => 0, fun i hi => absurd hi (Nat.not_lt_zero _), by simp only [sm] at h1 ⊢; omega⟩
  | n + 1, av, T, hp, h0, h1 => by
    simp only [sm] at h1
    by_cases c : T ≤ sm n av
    · obtain ⟨d, d1, d2⟩ := greedy n av T (fun i hi => hp i (by omega)) h0 c
      refine ⟨fun i => if i < n then d i else 0, fun i hi => ?_, ?_⟩
      · by_cases ci : i < n
        · simp only [ci, if_true]; exact d1 i ci
        · simp only [ci, if_false]; exact ⟨Int.le_refl _, hp i hi⟩
      · simp only [sm, Nat.lt_irrefl, if_false]
        rw [sm_congr (g := d) fun i hi => by simp [hi], d2]; omega
    · refine ⟨fun i => if i < n then av i else T - sm n av, fun i hi => ?_, ?_⟩
      · by_cases ci : i < n
        · simp only [ci, if_true]; exact ⟨hp i (by omega), Int.le_refl _⟩
        · have e : i = n := by omega
          subst e
          simp only [Nat.lt_irrefl, if_false]; omega
      · simp only [sm, Nat.lt_irrefl, if_false]
        rw [sm_congr (g := av) fun i hi => by simp [hi]]; omega
theorem sum_map_range (f : Nat → Int) : ∀ n, ((List.range n).map f).sum = sm n f
  | 0 => rfl
  | n + 1 => by
    rw [List.range_succ, List.map_append, List.sum_append, sum_map_range f n]
    simp [sm]
theorem sum_filter_range (p : Nat → Bool) (f : Nat → Int) : ∀ n, (((List.range n).filter p).map f).sum = sm n (fun i => if p i = true then f i else 0)
  | 0 => rfl
  | n + 1 => by
    rw [List.range_succ, List.filter_append, List.map_append, List.sum_append, sum_filter_range p f n]
    simp only [sm, List.filter_cons, List.filter_nil]
    split <;> simp
theorem sum_sm : ∀ (l : List Int), l.sum = sm l.length (gt l) := fun l => by
  have h : l = (List.range l.length).map (gt l) := by
    apply List.ext_getElem
    · simp
    · intro i h1 h2
      simp [gt, List.getD_eq_getElem?_getD, h1]
  conv => lhs; rw [h]
  exact sum_map_range _ _

/-! ### lists by their places -/
theorem gt_lt {m : List Int} {i : Nat} (h : i < m.length) : gt m i = m[i] := by simp [gt, List.getD_eq_getElem?_getD, h]
theorem gt_mem {m : List Int} {i : Nat} (h : i < m.length) : gt m i ∈ m := by rw [gt_lt h]; exact List.getElem_mem h
theorem ext_gt {a b : List Int} (hl : a.length = b.length) (h : ∀ i, i < a.length → gt a i = gt b i) : a = b := by
  apply List.ext_getElem hl
  intro i h1 h2
  rw [← gt_lt h1, ← gt_lt h2]
  exact h i h1
theorem gt_set {m : List Int} {s i : Nat} {v : Int} (hs : s < m.length) : gt (m.set s v) i = if i = s then v else gt m i := by
  unfold gt
  rw [List.getD_eq_getElem?_getD, List.getElem?_set]
  by_cases c : s = i
  · subst c; simp [hs]
  · rw [if_neg c, if_neg (fun e => c e.symm), List.getD_eq_getElem?_getD]
theorem gt_map_range {n i : Nat} {f : Nat → Int} (h : i < n) : gt ((List.range n).map f) i = f i := by
  simp [gt, List.getD_eq_getElem?_getD, h]
end K16
namespace K16
/-- the first marking covers the second -/
def cov (x y : List Int) : Bool := (List.range x.length).all fun i => decide (gt y i ≤ gt x i)
theorem cov_iff {x y : List Int} : cov x y = true ↔ ∀ i, i < x.length → gt y i ≤ gt x i := by
  unfold cov
  rw [List.all_eq_true]
  exact ⟨fun h i hi => of_decide_eq_true (h i (List.mem_range.mpr hi)), fun h i hi => decide_eq_true (h i (List.mem_range.mp hi))⟩
theorem cov_false {x y : List Int} {i : Nat} (hi : i < x.length) (h : gt x i < gt y i) : cov x y = false := by
  cases e : cov x y with
  | false => rfl
  | true =>
    have := cov_iff.mp e i hi
    omega
theorem cov_refl (x : List Int) : cov x x = true := cov_iff.mpr fun _ _ => Int.le_refl _
theorem cov_trans {x y z : List Int} (hl : x.length = y.length) (a : cov x y = true) (b : cov y z = true) : cov x z = true :=
  cov_iff.mpr fun i hi => Int.le_trans (cov_iff.mp b i (hl ▸ hi)) (cov_iff.mp a i hi)
theorem cov_antisymm {x y : List Int} (hl : x.length = y.length) (a : cov x y = true) (b : cov y x = true) : x = y :=
  ext_gt hl fun i hi => Int.le_antisymm (cov_iff.mp b i (hl ▸ hi)) (cov_iff.mp a i hi)
/-- in the closed set of some markings -/
def inC (ms : List (List Int)) (x : List Int) : Bool := ms.any fun m => cov x m
theorem inC_iff {ms : List (List Int)} {x : List Int} : inC ms x = true ↔ ∃ m ∈ ms, cov x m = true := by simp [inC]

/-! ### transitions -/
structure Tr where
  tk : List Int
  gv : List Int
  mv : List Int
structure TrOk (n : Nat) (t : Tr) : Prop where
  ltk : t.tk.length = n
  lgv : t.gv.length = n
  lmv : t.mv.length = n
  ptk : ∀ i, i < n → 0 ≤ gt t.tk i ∧ gt t.tk i ≤ 9
  pgv : ∀ i, i < n → 0 ≤ gt t.gv i ∧ gt t.gv i ≤ 9
  pmv : ∀ i, i < n → -1 ≤ gt t.mv i ∧ gt t.mv i < n
/-- what goes to the place q out of p -/
def into (n : Nat) (t : Tr) (p : List Int) (q : Nat) : Int := sm n fun i => if gt t.mv i = (q : Int) then gt p i - gt t.tk i else 0
def miss (t : Tr) (m : List Int) (q : Nat) : Int := max 0 (gt m q - gt t.gv q)
theorem miss_nonneg (t : Tr) (m : List Int) (q : Nat) : 0 ≤ miss t m q := by unfold miss; omega
/-- a marking of n places, p takes at least what t takes, and what is left covers m just so -/
structure IsPred (n : Nat) (t : Tr) (m p : List Int) : Prop where
  len : p.length = n
  ge : ∀ i, i < n → gt t.tk i ≤ gt p i
  lost : ∀ i, i < n → gt t.mv i < 0 → gt p i = gt t.tk i
  all : ∀ q, q < n → into n t p q = miss t m q

/-- one step of firing: the tokens of place k -/
def fireL (t : Tr) (m : List Int) : Nat → List Int
  | 0 => t.gv
  | k + 1 => if 0 ≤ gt t.mv k then (fireL t m k).set (gt t.mv k).toNat (gt (fireL t m k) (gt t.mv k).toNat + gt m k - gt t.tk k) else fireL t m k
def fireM (t : Tr) (m : List Int) : Option (List Int) := if cov m t.tk = true then some (fireL t m m.length) else none
theorem fireL_len (t : Tr) (m : List Int) : ∀ k, (fireL t m k).length = t.gv.length
  | 0 => rfl
  | k + 1 => by
    unfold fireL
    split
    · rw [List.length_set, fireL_len t m k]
    · exact fireL_len t m k
theorem fireL_gt {n : Nat} {t : Tr} (ok : TrOk n t) (m : List Int) {q : Nat} : ∀ k, k ≤ n → gt (fireL t m k) q = gt t.gv q + sm k fun i => if gt t.mv i = (q : Int) then gt m i - gt t.tk i else 0
  | 0, _ => by simp only [fireL, sm]; omega
  | k + 1, hk => by
    have ih := fireL_gt ok m (q := q) k (by omega)
    have hm := ok.pmv k (by omega)
    simp only [fireL, sm]
    by_cases c : 0 ≤ gt t.mv k
    · rw [if_pos c, gt_set (by rw [fireL_len, ok.lgv]; omega)]
      by_cases d : q = (gt t.mv k).toNat
      · rw [if_pos d, if_pos (by omega), ← d, ih]; omega
      · rw [if_neg d, if_neg (by omega), ih]; omega
    · rw [if_neg c, if_neg (by omega), ih]; omega
theorem fire_gt {n : Nat} {t : Tr} (ok : TrOk n t) {m : List Int} (hm : m.length = n) (q : Nat) : gt (fireL t m m.length) q = gt t.gv q + into n t m q := by
  rw [hm]; exact fireL_gt ok m n (Nat.le_refl _)
theorem fire_len {n : Nat} {t : Tr} (ok : TrOk n t) (m : List Int) : (fireL t m m.length).length = n := (fireL_len t m _).trans ok.lgv
theorem fire_nonneg {n : Nat} {t : Tr} (ok : TrOk n t) {m : List Int} (hm : m.length = n) (he : cov m t.tk = true) {q : Nat} (hq : q < n) : 0 ≤ gt (fireL t m m.length) q := by
  rw [fire_gt ok hm]
  have a := ok.pgv q hq
  have b : 0 ≤ into n t m q := sm_nonneg fun i hi => by
    have := cov_iff.mp he i (hm ▸ hi)
    split <;> omega
  omega
/-- from what covers a predecessor, firing leads to what covers the member -/
theorem pred_sound {n : Nat} {t : Tr} (ok : TrOk n t) {m p x : List Int} (h : IsPred n t m p) (hx : x.length = n) (c : cov x p = true) (hm : m.length = n) :
    cov x t.tk = true ∧ cov (fireL t x x.length) m = true := by
  have c' := cov_iff.mp c
  refine ⟨cov_iff.mpr fun i hi => Int.le_trans (h.ge i (hx ▸ hi)) (c' i hi), cov_iff.mpr fun q hq => ?_⟩
  rw [fire_len ok] at hq
  rw [fire_gt ok hx]
  have a := h.all q hq
  have b : into n t p q ≤ into n t x q := sm_le fun i hi => by
    have := c' i (hx ▸ hi)
    split <;> omega
  unfold miss at a
  omega
/-- what fires into the closed set of a member covers one of its predecessors -/
theorem pred_complete {n : Nat} {t : Tr} (ok : TrOk n t) {m x : List Int} (hx : x.length = n) (en : cov x t.tk = true) (c : cov (fireL t x x.length) m = true) :
    ∃ p, IsPred n t m p ∧ cov x p = true := by
  have en' := cov_iff.mp en
  have c' := cov_iff.mp c
  have key : ∀ q : Nat, ∃ d : Nat → Int, q < n → (∀ i, i < n → 0 ≤ d i ∧ d i ≤ if gt t.mv i = (q : Int) then gt x i - gt t.tk i else 0) ∧ sm n d = miss t m q := fun q => by
    by_cases hq : q < n
    · have a := c' q (by rw [fire_len ok]; exact hq)
      rw [fire_gt ok hx] at a
      have b : 0 ≤ into n t x q := sm_nonneg fun i hi => by
        have := en' i (hx ▸ hi)
        split <;> omega
      obtain ⟨d, h⟩ := greedy n (fun i => if gt t.mv i = (q : Int) then gt x i - gt t.tk i else 0) (miss t m q) (fun i hi => by
        have := en' i (hx ▸ hi)
        split <;> omega) (miss_nonneg t m q) (by unfold miss; show _ ≤ into n t x q; omega)
      exact ⟨d, fun _ => h⟩
    · exact ⟨fun _ => 0, fun z => absurd z hq⟩
  obtain ⟨d, hd⟩ := Classical.axiomOfChoice key
  have gp : ∀ i, i < n → gt ((List.range n).map fun i => gt t.tk i + if 0 ≤ gt t.mv i then d (gt t.mv i).toNat i else 0) i = gt t.tk i + if 0 ≤ gt t.mv i then d (gt t.mv i).toNat i else 0 := fun i hi => gt_map_range hi
  refine ⟨(List.range n).map fun i => gt t.tk i + if 0 ≤ gt t.mv i then d (gt t.mv i).toNat i else 0, ⟨by simp, fun i hi => ?_, fun i hi hl => ?_, fun q hq => ?_⟩, cov_iff.mpr fun i hi => ?_⟩
  · rw [gp i hi]
    have hm := ok.pmv i hi
    split
    · have := ((hd (gt t.mv i).toNat (by omega)).1 i hi).1; omega
    · omega
  · rw [gp i hi, if_neg (by omega)]; omega
  · unfold into
    rw [← (hd q hq).2]
    refine sm_congr fun i hi => ?_
    rw [gp i hi]
    have hm := ok.pmv i hi
    have z := (hd q hq).1 i hi
    by_cases e : gt t.mv i = (q : Int)
    · have e2 : (gt t.mv i).toNat = q := by omega
      rw [if_pos e, if_pos (by omega), e2]; omega
    · rw [if_neg e] at z ⊢; omega
  · have hi' : i < n := hx ▸ hi
    rw [gp i hi']
    have hm := ok.pmv i hi'
    have he := en' i hi
    by_cases e : 0 ≤ gt t.mv i
    · rw [if_pos e]
      have z := (hd (gt t.mv i).toNat (by omega)).1 i hi'
      rw [if_pos (by omega)] at z
      omega
    · rw [if_neg e]; omega
end K16
namespace K16
/-! ### the program's own way back -/
def shar : Nat → Int → List (List Int)
  | 0, num => if 0 < num then [] else [[]]
  | 1, num => [[num]]
  | k + 2, num => (List.range (num + 1).toNat).flatMap fun f : Nat => (shar (k + 1) (num - (f : Int))).map fun r => (f : Int) :: r
theorem shar_mem : ∀ (k : Nat) (num : Int) (d : List Int), 0 ≤ num → (d ∈ shar k num ↔ d.length = k ∧ (∀ x ∈ d, 0 ≤ x) ∧ d.sum = num)
  | 0, num, d, h => by
    unfold shar
    by_cases c : 0 < num
    · rw [if_pos c]
      refine ⟨fun z => by simp at z, fun ⟨a, _, b⟩ => ?_⟩
      have e := List.eq_nil_of_length_eq_zero a
      subst e
      simp at b; omega
    · rw [if_neg c]
      have e0 : num = 0 := by omega
      subst e0
      constructor
      · intro z
        have e : d = [] := by simpa using z
        subst e; simp
      · intro ⟨a, _, _⟩
        have e := List.eq_nil_of_length_eq_zero a
        subst e; simp
  | 1, num, d, h => by
    unfold shar
    constructor
    · intro z
      have e : d = [num] := by simpa using z
      subst e
      exact ⟨rfl, by simpa using h, by simp⟩
    · intro ⟨a, _, b⟩
      match d, a with
      | [x], _ => simp at b; simp [b]
  | k + 2, num, d, h => by
    unfold shar
    rw [List.mem_flatMap]
    constructor
    · intro ⟨f, hf, z⟩
      rw [List.mem_range] at hf
      obtain ⟨r, hr, e⟩ := List.mem_map.mp z
      obtain ⟨r1, r2, r3⟩ := (shar_mem (k + 1) (num - f) r (by omega)).mp hr
      subst e
      refine ⟨by simp [r1], fun x hx => ?_, by simp [r3]; omega⟩
      rcases List.mem_cons.mp hx with e | hx
      · omega
      · exact r2 x hx
    · intro ⟨a, b, c⟩
      match d, a with
      | x :: r, a =>
        have hx := b x List.mem_cons_self
        have hr : ∀ y ∈ r, 0 ≤ y := fun y hy => b y (List.mem_cons_of_mem _ hy)
        have hs : 0 ≤ r.sum := by
          clear a b c
          induction r with
          | nil => simp
          | cons y r ih =>
            have := ih fun z hz => hr z (List.mem_cons_of_mem _ hz)
            have := hr y List.mem_cons_self
            simp; omega
        simp at c
        refine ⟨x.toNat, List.mem_range.mpr (by omega), List.mem_map.mpr ⟨r, (shar_mem (k + 1) (num - ((x.toNat : Nat) : Int)) r (by omega)).mpr ⟨by simpa using a, hr, by omega⟩, ?_⟩⟩
        rw [show ((x.toNat : Nat) : Int) = x by omega]
theorem flat_len {α β : Type} {f : α → List β} {b : Nat} : ∀ {l : List α}, (∀ x ∈ l, (f x).length ≤ b) → (l.flatMap f).length ≤ l.length * b
  | [], _ => by simp
  | x :: l, h => by
    have a := flat_len (l := l) fun y hy => h y (List.mem_cons_of_mem _ hy)
    have c := h x List.mem_cons_self
    rw [List.flatMap_cons, List.length_append, List.length_cons, Nat.add_mul]
    omega
theorem shar_len : ∀ (k : Nat) (num : Int), num ≤ 12 → (shar k num).length ≤ 13 ^ k
  | 0, num, _ => by
    unfold shar
    split <;> simp
  | 1, num, _ => by simp [shar]
  | k + 2, num, h => by
    unfold shar
    have a := flat_len (f := fun f : Nat => (shar (k + 1) (num - (f : Int))).map fun r => (f : Int) :: r) (b := 13 ^ (k + 1)) (l := List.range (num + 1).toNat) fun f _ => by
      rw [List.length_map]; exact shar_len (k + 1) _ (by omega)
    rw [List.length_range] at a
    have b : (num + 1).toNat * 13 ^ (k + 1) ≤ 13 * 13 ^ (k + 1) := Nat.mul_le_mul_right _ (by omega)
    rw [Nat.pow_succ 13 (k + 1)]
    omega

def srcs (mv : List Int) (q : Int) : List Nat := (List.range mv.length).filter fun k => decide (gt mv k = q)
theorem srcs_mem {mv : List Int} {q : Int} {k : Nat} : k ∈ srcs mv q ↔ k < mv.length ∧ gt mv k = q := by simp [srcs]
theorem srcs_nodup (mv : List Int) (q : Int) : (srcs mv q).Nodup := List.nodup_range.filter _
theorem srcs_len (mv : List Int) (q : Int) : (srcs mv q).length ≤ mv.length := by
  have := List.length_filter_le (fun k => decide (gt mv k = q)) (List.range mv.length)
  rw [List.length_range] at this
  exact this
def bumpK (a : List Int) (fr : List Nat) (d : List Int) : Nat → List Int
  | 0 => a
  | k + 1 => (bumpK a fr d k).set (fr.getD k 0) (gt (bumpK a fr d k) (fr.getD k 0) + gt d k)
def bump (a : List Int) (fr : List Nat) (d : List Int) : List Int := bumpK a fr d fr.length
theorem bumpK_len (a : List Int) (fr : List Nat) (d : List Int) : ∀ k, (bumpK a fr d k).length = a.length
  | 0 => rfl
  | k + 1 => by unfold bumpK; rw [List.length_set, bumpK_len a fr d k]
theorem bump_len (a : List Int) (fr : List Nat) (d : List Int) : (bump a fr d).length = a.length := bumpK_len a fr d _
theorem bumpK_gt {a : List Int} {fr : List Nat} {d : List Int} (hf : ∀ k, k < fr.length → fr.getD k 0 < a.length) (i : Nat) : ∀ k, k ≤ fr.length → gt (bumpK a fr d k) i = gt a i + sm k fun j => if fr.getD j 0 = i then gt d j else 0
  | 0, _ => by simp only [bumpK, sm]; omega
  | k + 1, hk => by
    have ih := bumpK_gt (d := d) hf i k (by omega)
    simp only [bumpK, sm]
    rw [gt_set (by rw [bumpK_len]; exact hf k (by omega))]
    by_cases e : i = fr.getD k 0
    · rw [if_pos e, if_pos e.symm, ← e, ih]; omega
    · rw [if_neg e, if_neg fun z => e z.symm, ih]; omega
def predL (t : Tr) (m : List Int) : Nat → List (List Int)
  | 0 => [t.tk]
  | q + 1 => if 0 < miss t m q then (predL t m q).flatMap fun a => (shar (srcs t.mv q).length (miss t m q)).map fun d => bump a (srcs t.mv q) d else predL t m q
def preds (t : Tr) (m : List Int) : List (List Int) := predL t m m.length
/-- what predL holds behind the places below q -/
structure PredTo (n : Nat) (t : Tr) (m : List Int) (q : Nat) (p : List Int) : Prop where
  len : p.length = n
  ge : ∀ i, i < n → gt t.tk i ≤ gt p i
  lost : ∀ i, i < n → (gt t.mv i < 0 ∨ (q : Int) ≤ gt t.mv i) → gt p i = gt t.tk i
  all : ∀ r, r < q → into n t p r = miss t m r
theorem getD_ix {fr : List Nat} {k : Nat} (h : k < fr.length) : fr.getD k 0 = fr[k] := by simp [List.getD_eq_getElem?_getD, h]
theorem getD_mem {fr : List Nat} {k : Nat} (h : k < fr.length) : fr.getD k 0 ∈ fr := by rw [getD_ix h]; exact List.getElem_mem h
/-- over the sources of q: by their places in the list, by all places -/
theorem sm_srcs (mv : List Int) (q : Int) (g : Nat → Int) : sm (srcs mv q).length (fun k => g ((srcs mv q).getD k 0)) = sm mv.length fun i => if gt mv i = q then g i else 0 := by
  have a := sum_filter_range (fun k => decide (gt mv k = q)) g mv.length
  have b := sum_sm ((srcs mv q).map g)
  rw [List.length_map] at b
  rw [show (((List.range mv.length).filter fun k => decide (gt mv k = q)).map g).sum = ((srcs mv q).map g).sum from rfl, b] at a
  rw [sm_congr (g := fun i => if decide (gt mv i = q) = true then g i else 0) (n := mv.length) fun i _ => by simp only [decide_eq_true_eq], ← a]
  refine sm_congr fun k hk => ?_
  simp [gt, List.getD_eq_getElem?_getD, hk]
theorem one_of {fr : List Nat} (nd : fr.Nodup) {i : Nat} (g : Nat → Int) : (i ∈ fr → ∃ k, k < fr.length ∧ fr.getD k 0 = i ∧ sm fr.length (fun j => if fr.getD j 0 = i then g j else 0) = g k) ∧
    (i ∉ fr → sm fr.length (fun j => if fr.getD j 0 = i then g j else 0) = 0) := by
  constructor
  · intro hi
    obtain ⟨k, hk, e⟩ := List.getElem_of_mem hi
    refine ⟨k, hk, (getD_ix hk).trans e, ?_⟩
    rw [sm_single hk fun j hj hn => if_neg fun z => hn ?_, if_pos ((getD_ix hk).trans e)]
    rw [getD_ix hj, ← e] at z
    exact (List.getElem_inj nd).mp z
  · intro hi
    exact sm_eq_zero fun j hj => if_neg fun z => hi (by rw [← z]; exact getD_mem hj)
theorem bump_gt {n : Nat} {t : Tr} (ok : TrOk n t) {q : Nat} {a : List Int} {d : List Int} (ha : a.length = n) (i : Nat) :
    gt (bump a (srcs t.mv q) d) i = gt a i + sm (srcs t.mv q).length fun j => if (srcs t.mv q).getD j 0 = i then gt d j else 0 :=
  bumpK_gt (fun k hk => by
    have := (srcs_mem.mp (getD_mem hk)).1
    rw [ok.lmv] at this
    omega) i _ (Nat.le_refl _)
theorem predTo_step {n : Nat} {t : Tr} (ok : TrOk n t) {m : List Int} {q : Nat} (hq : q < n) {a d : List Int} (A : PredTo n t m q a) (hd : d.length = (srcs t.mv q).length) (hp : ∀ x ∈ d, 0 ≤ x) (hs : d.sum = miss t m q) :
    PredTo n t m (q + 1) (bump a (srcs t.mv q) d) := by
  have bg := bump_gt ok (q := q) (d := d) A.len
  have nd := srcs_nodup t.mv (q : Int)
  have non : ∀ i, i < n → gt t.mv i ≠ (q : Int) → gt (bump a (srcs t.mv q) d) i = gt a i := fun i hi h => by
    rw [bg, (one_of nd (gt d)).2 fun z => h (srcs_mem.mp z).2]; omega
  refine ⟨(bump_len _ _ _).trans A.len, fun i hi => ?_, fun i hi h => ?_, fun r hr => ?_⟩
  · rw [bg]
    have := A.ge i hi
    have b : 0 ≤ sm (srcs t.mv q).length fun j => if (srcs t.mv q).getD j 0 = i then gt d j else 0 := sm_nonneg fun j hj => by
      have := hp _ (gt_mem (hd ▸ hj : j < d.length))
      split <;> omega
    omega
  · rw [non i hi (by omega)]
    exact A.lost i hi (by omega)
  · by_cases e : r = q
    · subst e
      have z : into n t a r = 0 := sm_eq_zero fun i hi => by
        by_cases c : gt t.mv i = (r : Int)
        · rw [if_pos c, A.lost i hi (.inr (by omega))]; omega
        · rw [if_neg c]
      unfold into at z ⊢
      have e1 : sm n (fun i => if gt t.mv i = (r : Int) then gt (bump a (srcs t.mv r) d) i - gt t.tk i else 0) =
          sm n (fun i => (if gt t.mv i = (r : Int) then gt a i - gt t.tk i else 0) + sm (srcs t.mv r).length fun j => if (srcs t.mv r).getD j 0 = i then gt d j else 0) := by
        refine sm_congr fun i hi => ?_
        by_cases c : gt t.mv i = (r : Int)
        · rw [if_pos c, if_pos c, bg]; omega
        · rw [if_neg c, if_neg c, (one_of nd (gt d)).2 fun z => c (srcs_mem.mp z).2]; omega
      rw [e1, sm_add, z, sm_comm, ← hs, sum_sm d, hd]
      rw [Int.zero_add]
      refine sm_congr fun k hk => ?_
      have hk' := (srcs_mem.mp (getD_mem hk)).1
      rw [sm_single (j := (srcs t.mv r).getD k 0) (by rw [ok.lmv] at hk'; exact hk') fun i _ hn => if_neg fun z => hn z.symm, if_pos rfl]
    · rw [← A.all r (by omega)]
      exact sm_congr fun i hi => by
        by_cases c : gt t.mv i = (r : Int)
        · rw [if_pos c, if_pos c, non i hi (by omega)]
        · rw [if_neg c, if_neg c]
theorem predTo_back {n : Nat} {t : Tr} (ok : TrOk n t) {m : List Int} {q : Nat} (hq : q < n) {p : List Int} (B : PredTo n t m (q + 1) p) :
    ∃ a d, PredTo n t m q a ∧ d.length = (srcs t.mv q).length ∧ (∀ x ∈ d, 0 ≤ x) ∧ d.sum = miss t m q ∧ bump a (srcs t.mv q) d = p := by
  have nd := srcs_nodup t.mv (q : Int)
  have ga : ∀ i, i < n → gt ((List.range n).map fun i => if gt t.mv i = (q : Int) then gt t.tk i else gt p i) i = if gt t.mv i = (q : Int) then gt t.tk i else gt p i := fun i hi => gt_map_range hi
  have gd : ∀ k, k < (srcs t.mv q).length → gt ((srcs t.mv q).map fun i => gt p i - gt t.tk i) k = gt p ((srcs t.mv q).getD k 0) - gt t.tk ((srcs t.mv q).getD k 0) := fun k hk => by
    simp [gt, List.getD_eq_getElem?_getD, hk]
  refine ⟨(List.range n).map fun i => if gt t.mv i = (q : Int) then gt t.tk i else gt p i, (srcs t.mv q).map fun i => gt p i - gt t.tk i, ⟨by simp, fun i hi => ?_, fun i hi h => ?_, fun r hr => ?_⟩, by simp, fun x hx => ?_, ?_, ?_⟩
  · rw [ga i hi]
    have := B.ge i hi
    split <;> omega
  · rw [ga i hi]
    by_cases c : gt t.mv i = (q : Int)
    · rw [if_pos c]
    · rw [if_neg c]; exact B.lost i hi (by omega)
  · rw [← B.all r (by omega)]
    exact sm_congr fun i hi => by
      rw [ga i hi]
      by_cases c : gt t.mv i = (r : Int)
      · rw [if_pos c, if_pos c, if_neg (by omega)]
      · rw [if_neg c, if_neg c]
  · obtain ⟨i, hi, e⟩ := List.mem_map.mp hx
    have := B.ge i (by have := (srcs_mem.mp hi).1; rw [ok.lmv] at this; exact this)
    omega
  · rw [sum_sm, List.length_map, sm_congr gd, sm_srcs t.mv (q : Int) fun i => gt p i - gt t.tk i, ok.lmv]
    exact B.all q (by omega)
  · refine ext_gt (by rw [bump_len]; simp [B.len]) fun i hi => ?_
    rw [bump_len] at hi
    have hi' : i < n := by simpa using hi
    rw [bump_gt ok (by simp), ga i hi']
    by_cases c : gt t.mv i = (q : Int)
    · rw [if_pos c]
      obtain ⟨k, hk, e, es⟩ := (one_of nd (gt ((srcs t.mv q).map fun i => gt p i - gt t.tk i))).1 (srcs_mem.mpr ⟨by rw [ok.lmv]; exact hi', c⟩)
      rw [es, gd k hk, e]; omega
    · rw [if_neg c, (one_of nd _).2 fun z => c (srcs_mem.mp z).2]; omega
theorem predTo_skip {n : Nat} {t : Tr} {m : List Int} {q : Nat} (hz : miss t m q = 0) (p : List Int) : PredTo n t m q p ↔ PredTo n t m (q + 1) p := by
  constructor
  · intro A
    refine ⟨A.len, A.ge, fun i hi h => A.lost i hi (by omega), fun r hr => ?_⟩
    by_cases e : r = q
    · subst e
      rw [hz]
      exact sm_eq_zero fun i hi => by
        by_cases c : gt t.mv i = (r : Int)
        · rw [if_pos c, A.lost i hi (.inr (by omega))]; omega
        · rw [if_neg c]
    · exact A.all r (by omega)
  · intro B
    refine ⟨B.len, B.ge, fun i hi h => ?_, fun r hr => B.all r (by omega)⟩
    by_cases c : gt t.mv i = (q : Int)
    · have z := sm_zero_all (n := n) (fun i hi => by have := B.ge i hi; split <;> omega) ((B.all q (by omega)).trans hz) i hi
      rw [if_pos c] at z
      omega
    · exact B.lost i hi (by omega)
theorem predL_mem {n : Nat} {t : Tr} (ok : TrOk n t) {m : List Int} : ∀ (q : Nat), q ≤ n → ∀ p, p ∈ predL t m q ↔ PredTo n t m q p
  | 0, _, p => by
    unfold predL
    rw [List.mem_singleton]
    constructor
    · intro e
      subst e
      exact ⟨ok.ltk, fun _ _ => Int.le_refl _, fun _ _ _ => rfl, fun r hr => absurd hr (Nat.not_lt_zero _)⟩
    · intro A
      exact ext_gt (A.len.trans ok.ltk.symm) fun i hi => A.lost i (A.len ▸ hi) (by omega)
  | q + 1, hq, p => by
    have ih := predL_mem ok (m := m) q (by omega)
    unfold predL
    by_cases c : 0 < miss t m q
    · rw [if_pos c, List.mem_flatMap]
      constructor
      · intro ⟨a, ha, z⟩
        obtain ⟨d, hd, e⟩ := List.mem_map.mp z
        obtain ⟨d1, d2, d3⟩ := (shar_mem _ _ d (miss_nonneg t m q)).mp hd
        subst e
        exact predTo_step ok (by omega) ((ih a).mp ha) d1 d2 d3
      · intro B
        obtain ⟨a, d, A, d1, d2, d3, e⟩ := predTo_back ok (by omega) B
        exact ⟨a, (ih a).mpr A, List.mem_map.mpr ⟨d, (shar_mem _ _ d (miss_nonneg t m q)).mpr ⟨d1, d2, d3⟩, e⟩⟩
    · rw [if_neg c, ih p]
      exact predTo_skip (by have := miss_nonneg t m q; omega) p
theorem isPred_iff {n : Nat} {t : Tr} (ok : TrOk n t) {m p : List Int} : PredTo n t m n p ↔ IsPred n t m p :=
  ⟨fun A => ⟨A.len, A.ge, fun i hi h => A.lost i hi (.inl h), A.all⟩, fun A => ⟨A.len, A.ge, fun i hi h => h.elim (A.lost i hi) fun z => by have := ok.pmv i hi; omega, A.all⟩⟩
theorem preds_mem {n : Nat} {t : Tr} (ok : TrOk n t) {m : List Int} (hm : m.length = n) {p : List Int} : p ∈ preds t m ↔ IsPred n t m p := by
  unfold preds
  rw [hm]
  exact (predL_mem ok n (Nat.le_refl _) p).trans (isPred_iff ok)
/-- how many: 13 for each source so far -/
def srcN (t : Tr) : Nat → Nat
  | 0 => 0
  | q + 1 => srcN t q + (srcs t.mv q).length
theorem predL_len {t : Tr} {m : List Int} (hm : ∀ q, miss t m q ≤ 12) : ∀ q, (predL t m q).length ≤ 13 ^ srcN t q
  | 0 => by simp [predL, srcN]
  | q + 1 => by
    have ih := predL_len hm q
    unfold predL srcN
    split
    · refine Nat.le_trans (flat_len (b := 13 ^ (srcs t.mv q).length) fun a _ => by rw [List.length_map]; exact shar_len _ _ (hm q)) ?_
      rw [Nat.pow_add]
      exact Nat.mul_le_mul_right _ ih
    · exact Nat.le_trans ih (Nat.pow_le_pow_right (by decide) (Nat.le_add_right _ _))
theorem srcN_eq (t : Tr) : ∀ q, srcN t q = ((List.range t.mv.length).filter fun k => decide (0 ≤ gt t.mv k ∧ gt t.mv k < (q : Int))).length
  | 0 => by
    symm
    have e : ((List.range t.mv.length).filter fun k => decide (0 ≤ gt t.mv k ∧ gt t.mv k < ((0 : Nat) : Int))) = [] := List.filter_eq_nil_iff.mpr fun k _ => by rw [decide_eq_true_eq]; omega
    rw [e]; rfl
  | q + 1 => by
    unfold srcN
    rw [srcN_eq t q]
    unfold srcs
    induction t.mv.length with
    | zero => rfl
    | succ n ih =>
      rw [List.range_succ, List.filter_append, List.filter_append, List.filter_append, List.length_append, List.length_append, List.length_append]
      simp only [List.filter_cons, List.filter_nil, decide_eq_true_eq]
      have : (if 0 ≤ gt t.mv n ∧ gt t.mv n < (q : Int) then [n] else []).length + (if gt t.mv n = (q : Int) then [n] else []).length = (if 0 ≤ gt t.mv n ∧ gt t.mv n < ((q + 1 : Nat) : Int) then [n] else []).length := by
        by_cases a : 0 ≤ gt t.mv n ∧ gt t.mv n < (q : Int)
        · rw [if_pos a, if_neg (by omega), if_pos (by omega)]; rfl
        · by_cases b : gt t.mv n = (q : Int)
          · rw [if_neg a, if_pos b, if_pos (by omega)]; rfl
          · rw [if_neg a, if_neg b, if_neg (by omega)]; rfl
      omega
theorem srcN_le (t : Tr) (q : Nat) : srcN t q ≤ t.mv.length := by
  rw [srcN_eq]
  have := List.length_filter_le (fun k => decide (0 ≤ gt t.mv k ∧ gt t.mv k < (q : Int))) (List.range t.mv.length)
  rw [List.length_range] at this
  exact this
theorem predL_big {n : Nat} (h4 : n ≤ 4) {t : Tr} (ok : TrOk n t) {m : List Int} (hm : ∀ q, miss t m q ≤ 12) (q : Nat) : (predL t m q).length ≤ 28561 :=
  Nat.le_trans (predL_len hm q) (Nat.le_trans (Nat.pow_le_pow_right (by decide) (Nat.le_trans (srcN_le t q) (by rw [ok.lmv]; exact h4))) (by decide))
end K16
namespace K16
/-! ### the law's way back: token by token -/
structure BackTo (n : Nat) (t : Tr) (m : List Int) (q : Nat) (c : Int) (p : List Int) : Prop where
  len : p.length = n
  ge : ∀ i, i < n → gt t.tk i ≤ gt p i
  lost : ∀ i, i < n → (gt t.mv i < 0 ∨ (q : Int) < gt t.mv i) → gt p i = gt t.tk i
  all : ∀ r, r < q → into n t p r = miss t m r
  here : into n t p q = c
theorem back_start {n : Nat} {t : Tr} {m : List Int} {q : Nat} {p : List Int} : PredTo n t m q p ↔ BackTo n t m q 0 p := by
  constructor
  · intro A
    exact ⟨A.len, A.ge, fun i hi h => A.lost i hi (by omega), A.all, sm_eq_zero fun i hi => by
      by_cases c : gt t.mv i = (q : Int)
      · rw [if_pos c, A.lost i hi (.inr (by omega))]; omega
      · rw [if_neg c]⟩
  · intro B
    refine ⟨B.len, B.ge, fun i hi h => ?_, B.all⟩
    by_cases c : gt t.mv i = (q : Int)
    · have z := sm_zero_all (n := n) (fun i hi => by have := B.ge i hi; split <;> omega) B.here i hi
      rw [if_pos c] at z
      omega
    · exact B.lost i hi (by omega)
theorem back_end {n : Nat} {t : Tr} {m : List Int} {q : Nat} {p : List Int} : BackTo n t m q (miss t m q) p ↔ PredTo n t m (q + 1) p := by
  constructor
  · intro B
    refine ⟨B.len, B.ge, fun i hi h => B.lost i hi (by omega), fun r hr => ?_⟩
    by_cases e : r = q
    · subst e; exact B.here
    · exact B.all r (by omega)
  · intro A
    exact ⟨A.len, A.ge, fun i hi h => A.lost i hi (by omega), fun r hr => A.all r (by omega), A.all q (by omega)⟩
theorem into_set {n : Nat} {t : Tr} {p : List Int} (hp : p.length = n) {s : Nat} (hs : s < n) (v : Int) (r : Nat) :
    into n t (p.set s (gt p s + v)) r = into n t p r + if gt t.mv s = (r : Int) then v else 0 := by
  unfold into
  refine sm_upd hs (fun i hi hn => ?_) ?_
  · rw [gt_set (by omega), if_neg hn]
  · rw [gt_set (by omega), if_pos rfl]
    split <;> omega
theorem back_up {n : Nat} {t : Tr} {m : List Int} {q : Nat} {c : Int} {p : List Int} (B : BackTo n t m q c p) {s : Nat} (hs : s < n) (e : gt t.mv s = (q : Int)) : BackTo n t m q (c + 1) (p.set s (gt p s + 1)) := by
  have hl := B.len
  refine ⟨by rw [List.length_set]; exact B.len, fun i hi => ?_, fun i hi h => ?_, fun r hr => ?_, ?_⟩
  · rw [gt_set (by omega)]
    have := B.ge i hi
    split
    · subst_vars; omega
    · exact this
  · rw [gt_set (by omega), if_neg (by intro z; subst z; omega)]
    exact B.lost i hi h
  · rw [into_set B.len hs, if_neg (by omega), B.all r hr]; omega
  · rw [into_set B.len hs, if_pos e, B.here]
theorem back_down {n : Nat} {t : Tr} {m : List Int} {q : Nat} {c : Int} (hc : 0 ≤ c) {p : List Int} (B : BackTo n t m q (c + 1) p) :
    ∃ (s : Nat) (p0 : List Int), s < n ∧ gt t.mv s = (q : Int) ∧ BackTo n t m q c p0 ∧ p = p0.set s (gt p0 s + 1) := by
  obtain ⟨s, hs, hp⟩ := sm_pos (n := n) (f := fun i => if gt t.mv i = (q : Int) then gt p i - gt t.tk i else 0) (by have := B.here; unfold into at this; omega)
  have hl := B.len
  by_cases e : gt t.mv s = (q : Int)
  · rw [if_pos e] at hp
    refine ⟨s, p.set s (gt p s + -1), hs, e, ⟨by rw [List.length_set]; exact B.len, fun i hi => ?_, fun i hi h => ?_, fun r hr => ?_, ?_⟩, ?_⟩
    · rw [gt_set (by omega)]
      have := B.ge i hi
      split
      · subst_vars; omega
      · exact this
    · rw [gt_set (by omega), if_neg (by intro z; subst z; omega)]
      exact B.lost i hi h
    · rw [into_set B.len hs, if_neg (by omega), B.all r hr]; omega
    · rw [into_set B.len hs, if_pos e, B.here]; omega
    · refine ext_gt (by simp) fun i hi => ?_
      have hz : s < (p.set s (gt p s + -1)).length := by rw [List.length_set]; omega
      rw [gt_set hz, gt_set (show s < p.length by omega), gt_set (show s < p.length by omega), if_pos rfl]
      split
      · subst_vars; omega
      · rfl
  · rw [if_neg e] at hp
    omega
theorem back_box {n : Nat} {t : Tr} (ok : TrOk n t) {m : List Int} {q : Nat} (hq : q < n) {c : Int} {p : List Int} (B : BackTo n t m q c p) (hc : c ≤ 12) (hm : ∀ r, miss t m r ≤ 12) : ∀ i, i < n → gt t.tk i ≤ gt p i ∧ gt p i ≤ gt t.tk i + 12 := fun i hi => by
  refine ⟨B.ge i hi, ?_⟩
  have hv := ok.pmv i hi
  have pos : ∀ r : Nat, ∀ i, i < n → 0 ≤ if gt t.mv i = (r : Int) then gt p i - gt t.tk i else 0 := fun r i hi => by
    have := B.ge i hi
    split <;> omega
  by_cases a : gt t.mv i < 0
  · rw [B.lost i hi (.inl a)]; omega
  · by_cases b : (q : Int) < gt t.mv i
    · rw [B.lost i hi (.inr b)]; omega
    · have z := sm_term (pos (gt t.mv i).toNat) hi
      rw [if_pos (by omega)] at z
      by_cases e : (gt t.mv i).toNat = q
      · rw [e] at z
        have h1 : sm n (fun i => if gt t.mv i = (q : Int) then gt p i - gt t.tk i else 0) = c := B.here
        omega
      · have h1 := B.all (gt t.mv i).toNat (by omega)
        unfold into at h1
        have h2 := hm (gt t.mv i).toNat
        omega
theorem pred_box {n : Nat} {t : Tr} {m : List Int} {q : Nat} {p : List Int} (ok : TrOk n t) (A : PredTo n t m q p) (hm : ∀ r, miss t m r ≤ 12) : ∀ i, i < n → gt t.tk i ≤ gt p i ∧ gt p i ≤ gt t.tk i + 12 := fun i hi => by
  refine ⟨A.ge i hi, ?_⟩
  have hv := ok.pmv i hi
  have pos : ∀ r : Nat, ∀ i, i < n → 0 ≤ if gt t.mv i = (r : Int) then gt p i - gt t.tk i else 0 := fun r i hi => by
    have := A.ge i hi
    split <;> omega
  by_cases a : gt t.mv i < 0
  · rw [A.lost i hi (.inl a)]; omega
  · by_cases b : (q : Int) ≤ gt t.mv i
    · rw [A.lost i hi (.inr b)]; omega
    · have z := sm_term (pos (gt t.mv i).toNat) hi
      rw [if_pos (by omega)] at z
      have h1 := A.all (gt t.mv i).toNat (by omega)
      unfold into at h1
      have h2 := hm (gt t.mv i).toNat
      omega
/-- different lists within a list -/
theorem nodup_le {α : Type} [DecidableEq α] : ∀ {l D : List α}, l.Nodup → (∀ x ∈ l, x ∈ D) → l.length ≤ D.length
  | [], _, _, _ => Nat.zero_le _
  | a :: l, D, hn, hs => by
    obtain ⟨h1, h2⟩ := List.nodup_cons.mp hn
    have ha := hs a List.mem_cons_self
    have := nodup_le (D := D.erase a) h2 fun x hx => (List.mem_erase_of_ne fun e : x = a => h1 (e ▸ hx)).mpr (hs x (List.mem_cons_of_mem _ hx))
    rw [List.length_erase_of_mem ha] at this
    have := List.length_pos_of_mem ha
    rw [List.length_cons]
    omega
/-- all rows of the box above lo -/
def box : List Int → List (List Int)
  | [] => [[]]
  | a :: lo => (List.range 13).flatMap fun k : Nat => (box lo).map fun r => (a + (k : Int)) :: r
theorem box_len : ∀ lo : List Int, (box lo).length ≤ 13 ^ lo.length
  | [] => by simp [box]
  | a :: lo => by
    unfold box
    refine Nat.le_trans (flat_len (b := 13 ^ lo.length) fun k _ => by rw [List.length_map]; exact box_len lo) ?_
    rw [List.length_range, List.length_cons, Nat.pow_succ]
    omega
theorem box_mem : ∀ (lo p : List Int), p.length = lo.length → (∀ i, i < lo.length → gt lo i ≤ gt p i ∧ gt p i ≤ gt lo i + 12) → p ∈ box lo
  | [], p, hl, _ => by
    have e := List.eq_nil_of_length_eq_zero hl
    subst e; simp [box]
  | a :: lo, [], hl, _ => by simp at hl
  | a :: lo, x :: p, hl, h => by
    unfold box
    rw [List.mem_flatMap]
    have h0 := h 0 (by simp)
    simp only [gt, List.getD_cons_zero] at h0
    refine ⟨(x - a).toNat, List.mem_range.mpr (by omega), List.mem_map.mpr ⟨p, box_mem lo p (by simpa using hl) fun i hi => ?_, ?_⟩⟩
    · have := h (i + 1) (by simp; omega)
      simpa [gt] using this
    · rw [show a + (((x - a).toNat : Nat) : Int) = x by omega]
theorem box_bound {n : Nat} (h4 : n ≤ 4) {lo : List Int} (hlo : lo.length = n) {ks : List (List Int)} (nd : ks.Nodup) (h : ∀ p ∈ ks, p.length = n ∧ ∀ i, i < n → gt lo i ≤ gt p i ∧ gt p i ≤ gt lo i + 12) : ks.length ≤ 28561 := by
  have a := nodup_le nd fun p hp => box_mem lo p ((h p hp).1.trans hlo.symm) fun i hi => (h p hp).2 i (hlo ▸ hi)
  have b := box_len lo
  have c : 13 ^ lo.length ≤ 13 ^ 4 := Nat.pow_le_pow_right (by decide) (by omega)
  have d : 13 ^ 4 = 28561 := by decide
  omega
end K16
namespace K16
/-! ### the order of tuples; the basis -/
theorem lex_of_cov : ∀ {a b : List Int}, a.length = b.length → cov a b = true → a ≠ b → b < a
  | [], [], _, _, h => absurd rfl h
  | x :: a, y :: b, hl, hc, hn => by
    have c := cov_iff.mp hc
    have h0 := c 0 (by simp)
    simp only [gt, List.getD_cons_zero] at h0
    have hc' : cov a b = true := cov_iff.mpr fun i hi => by
      have := c (i + 1) (by simp; omega)
      simpa [gt] using this
    rw [List.cons_lt_cons_iff]
    by_cases e : y = x
    · subst e
      exact .inr ⟨rfl, lex_of_cov (by simpa using hl) hc' fun z => hn (by rw [z])⟩
    · exact .inl (by omega)
structure IsBasis (B ms : List (List Int)) : Prop where
  asc : B.Pairwise (· < ·)
  sub : ∀ b ∈ B, b ∈ ms
  anti : ∀ b ∈ B, ∀ b' ∈ B, b ≠ b' → cov b b' = false
  gen : ∀ m ∈ ms, ∃ b ∈ B, cov m b = true
theorem lt_irr (a : List Int) : ¬ a < a := List.lt_irrefl a
theorem lt_asy {a b : List Int} (h : a < b) : ¬ b < a := List.lt_asymm h
theorem IsBasis.nil : IsBasis [] [] := ⟨List.Pairwise.nil, fun b h => absurd h (by simp), fun b h => absurd h (by simp), fun m h => absurd h (by simp)⟩
theorem IsBasis.skip {F S : List (List Int)} {x : List Int} (B : IsBasis F S) (h : ∃ o ∈ F, cov x o = true) : IsBasis F (S ++ [x]) :=
  ⟨B.asc, fun b hb => List.mem_append_left _ (B.sub b hb), B.anti, fun m hm => by
    rcases List.mem_append.mp hm with z | z
    · exact B.gen m z
    · rw [List.mem_singleton.mp z]; exact h⟩
theorem IsBasis.keep {F S : List (List Int)} {x : List Int} {n : Nat} (B : IsBasis F S) (hS : ∀ s ∈ S, s < x ∧ s.length = n) (hx : x.length = n) (h : ∀ o ∈ F, cov x o = false) : IsBasis (F ++ [x]) (S ++ [x]) := by
  refine ⟨?_, fun b hb => ?_, fun b hb b' hb' hn => ?_, fun m hm => ?_⟩
  · rw [List.pairwise_append]
    exact ⟨B.asc, List.pairwise_singleton _ _, fun a ha b hb => by rw [List.mem_singleton.mp hb]; exact (hS a (B.sub a ha)).1⟩
  · rcases List.mem_append.mp hb with z | z
    · exact List.mem_append_left _ (B.sub b z)
    · exact List.mem_append_right _ z
  · rcases List.mem_append.mp hb with z | z <;> rcases List.mem_append.mp hb' with z' | z'
    · exact B.anti b z b' z' hn
    · rw [List.mem_singleton.mp z'] at hn ⊢
      cases e : cov b x with
      | false => rfl
      | true =>
        have hs := hS b (B.sub b z)
        exact absurd (lex_of_cov (hs.2.trans hx.symm) e hn) (lt_asy hs.1)
    · rw [List.mem_singleton.mp z]
      exact h b' z'
    · exact absurd ((List.mem_singleton.mp z).trans (List.mem_singleton.mp z').symm) hn
  · rcases List.mem_append.mp hm with z | z
    · obtain ⟨b, hb, c⟩ := B.gen m z
      exact ⟨b, List.mem_append_left _ hb, c⟩
    · rw [List.mem_singleton.mp z]
      exact ⟨x, List.mem_append_right _ (List.mem_singleton.mpr rfl), cov_refl x⟩
theorem IsBasis.congr {B ms ms' : List (List Int)} (h : IsBasis B ms) (e : ∀ m, m ∈ ms ↔ m ∈ ms') : IsBasis B ms' :=
  ⟨h.asc, fun b hb => (e b).mp (h.sub b hb), h.anti, fun m hm => h.gen m ((e m).mpr hm)⟩
/-- an ascending list is the only one of its members -/
theorem asc_nodup {l : List (List Int)} (h : l.Pairwise (· < ·)) : l.Nodup := by
  unfold List.Nodup
  exact List.Pairwise.imp (fun {a b} (hab : a < b) (e : a = b) => lt_irr a (by rw [← e] at hab; exact hab)) h
theorem asc_unique : ∀ {l l' : List (List Int)}, l.Pairwise (· < ·) → l'.Pairwise (· < ·) → (∀ x, x ∈ l ↔ x ∈ l') → l = l'
  | [], [], _, _, _ => rfl
  | [], b :: r, _, _, h => absurd ((h b).mpr List.mem_cons_self) (by simp)
  | a :: l, [], _, _, h => absurd ((h a).mp List.mem_cons_self) (by simp)
  | a :: l, b :: r, h1, h2, h => by
    obtain ⟨p1, q1⟩ := List.pairwise_cons.mp h1
    obtain ⟨p2, q2⟩ := List.pairwise_cons.mp h2
    have e : a = b := by
      rcases List.mem_cons.mp ((h a).mp List.mem_cons_self) with z | z
      · exact z
      · rcases List.mem_cons.mp ((h b).mpr List.mem_cons_self) with y | y
        · exact y.symm
        · exact absurd (p1 b y) (lt_asy (p2 a z))
    subst e
    rw [asc_unique q1 q2 fun x => ?_]
    constructor
    · intro hx
      rcases List.mem_cons.mp ((h x).mp (List.mem_cons_of_mem _ hx)) with z | z
      · subst z; exact absurd (p1 x hx) (lt_irr x)
      · exact z
    · intro hx
      rcases List.mem_cons.mp ((h x).mpr (List.mem_cons_of_mem _ hx)) with z | z
      · subst z; exact absurd (p2 x hx) (lt_irr x)
      · exact z

/-! ### counts -/
def okC (base : List Int) (fr : Int) (m : List Int) : Bool := (List.range base.length).all fun i => decide ((i : Int) = fr ∨ gt m i ≤ gt base i)
def dueC (base : List Int) (fr : Int) (m : List Int) : Int := if 0 ≤ fr then max 0 (gt m fr.toNat - gt base fr.toNat) else 0
def lcS (base : List Int) (fr : Int) (acc : Option Int) (m : List Int) : Option Int :=
  if okC base fr m = true then (match acc with | none => some (dueC base fr m) | some c => if dueC base fr m < c then some (dueC base fr m) else some c) else acc
def lc (base : List Int) (fr : Int) (ms : List (List Int)) : Option Int := ms.foldl (lcS base fr) none
def startM (base : List Int) (fr k : Int) : List Int := if 0 ≤ fr then base.set fr.toNat (gt base fr.toNat + k) else base
theorem okC_iff {base : List Int} {fr : Int} {m : List Int} : okC base fr m = true ↔ ∀ i, i < base.length → (i : Int) = fr ∨ gt m i ≤ gt base i := by
  unfold okC
  rw [List.all_eq_true]
  exact ⟨fun h i hi => of_decide_eq_true (h i (List.mem_range.mpr hi)), fun h i hi => decide_eq_true (h i (List.mem_range.mp hi))⟩
theorem dueC_nonneg (base : List Int) (fr : Int) (m : List Int) : 0 ≤ dueC base fr m := by unfold dueC; split <;> omega
theorem startM_len (base : List Int) (fr k : Int) : (startM base fr k).length = base.length := by unfold startM; split <;> simp
theorem startM_cov {base : List Int} {fr : Int} {m : List Int} (hf : fr < base.length) (h : okC base fr m = true) : cov (startM base fr (dueC base fr m)) m = true := by
  refine cov_iff.mpr fun i hi => ?_
  rw [startM_len] at hi
  unfold startM dueC
  have o := okC_iff.mp h i hi
  by_cases c : 0 ≤ fr
  · rw [if_pos c, if_pos c, gt_set (by omega)]
    by_cases e : i = fr.toNat
    · rw [if_pos e, e]; omega
    · rw [if_neg e]
      rcases o with z | z
      · omega
      · exact z
  · rw [if_neg c]
    rcases o with z | z
    · omega
    · exact z
theorem startM_of {base : List Int} {fr k : Int} {m : List Int} (hf : fr < base.length) (hk : 0 ≤ k) (h : cov (startM base fr k) m = true) : okC base fr m = true ∧ dueC base fr m ≤ k := by
  have c := cov_iff.mp h
  rw [startM_len] at c
  unfold startM at c
  refine ⟨okC_iff.mpr fun i hi => ?_, ?_⟩
  · have z := c i hi
    by_cases p : 0 ≤ fr
    · rw [if_pos p, gt_set (by omega)] at z
      by_cases e : i = fr.toNat
      · exact .inl (by omega)
      · rw [if_neg e] at z; exact .inr z
    · rw [if_neg p] at z; exact .inr z
  · unfold dueC
    by_cases p : 0 ≤ fr
    · have z := c fr.toNat (by omega)
      rw [if_pos p, gt_set (by omega), if_pos rfl] at z
      rw [if_pos p]; omega
    · rw [if_neg p]; exact hk
theorem lcS_le {base : List Int} {fr : Int} {acc : Option Int} {m : List Int} {c : Int} (h : acc = some c) : ∃ c', lcS base fr acc m = some c' ∧ c' ≤ c := by
  subst h
  unfold lcS
  split
  · by_cases d : dueC base fr m < c
    · exact ⟨_, if_pos d, by omega⟩
    · exact ⟨_, if_neg d, Int.le_refl _⟩
  · exact ⟨c, rfl, Int.le_refl _⟩
theorem lc_le {base : List Int} {fr : Int} : ∀ (ms : List (List Int)) (acc : Option Int),
    (∀ c, acc = some c → ∃ c', ms.foldl (lcS base fr) acc = some c' ∧ c' ≤ c) ∧ (∀ m ∈ ms, okC base fr m = true → ∃ c', ms.foldl (lcS base fr) acc = some c' ∧ c' ≤ dueC base fr m)
  | [], acc => ⟨fun c h => ⟨c, h, Int.le_refl _⟩, fun m h => absurd h (by simp)⟩
  | x :: ms, acc => by
    obtain ⟨a, b⟩ := lc_le (base := base) (fr := fr) ms (lcS base fr acc x)
    refine ⟨fun c h => ?_, fun m hm ho => ?_⟩
    · obtain ⟨c', e, l⟩ := lcS_le (base := base) (fr := fr) (m := x) h
      obtain ⟨c2, e2, l2⟩ := a c' e
      exact ⟨c2, e2, by omega⟩
    · rcases List.mem_cons.mp hm with e | hm
      · subst e
        have : ∃ c', lcS base fr acc m = some c' ∧ c' ≤ dueC base fr m := by
          unfold lcS
          rw [if_pos ho]
          cases acc with
          | none => exact ⟨_, rfl, Int.le_refl _⟩
          | some c =>
            by_cases d : dueC base fr m < c
            · exact ⟨_, if_pos d, Int.le_refl _⟩
            · exact ⟨_, if_neg d, by omega⟩
        obtain ⟨c', e, l⟩ := this
        obtain ⟨c2, e2, l2⟩ := a c' e
        exact ⟨c2, e2, by omega⟩
      · exact b m hm ho
theorem lc_some {base : List Int} {fr : Int} : ∀ (ms : List (List Int)) (acc : Option Int) (c : Int), ms.foldl (lcS base fr) acc = some c → acc = some c ∨ ∃ m ∈ ms, okC base fr m = true ∧ dueC base fr m = c
  | [], acc, c, h => .inl h
  | x :: ms, acc, c, h => by
    rcases lc_some ms (lcS base fr acc x) c h with z | ⟨m, hm, r⟩
    · unfold lcS at z
      by_cases o : okC base fr x = true
      · rw [if_pos o] at z
        cases acc with
        | none => exact .inr ⟨x, List.mem_cons_self, o, Option.some.inj z⟩
        | some c0 =>
          by_cases d : dueC base fr x < c0
          · simp only [d, if_true] at z
            exact .inr ⟨x, List.mem_cons_self, o, Option.some.inj z⟩
          · simp only [d, if_false] at z
            exact .inl z
      · rw [if_neg o] at z
        exact .inl z
    · exact .inr ⟨m, List.mem_cons_of_mem _ hm, r⟩
/-- the least count: found, it is good; any count that is good is no less -/
theorem lc_good {base : List Int} {fr : Int} {ms : List (List Int)} {c : Int} (hf : fr < base.length) (h : lc base fr ms = some c) : 0 ≤ c ∧ inC ms (startM base fr c) = true := by
  rcases lc_some ms none c h with z | ⟨m, hm, o, e⟩
  · cases z
  · subst e
    exact ⟨dueC_nonneg base fr m, inC_iff.mpr ⟨m, hm, startM_cov hf o⟩⟩
theorem lc_least {base : List Int} {fr k : Int} {ms : List (List Int)} (hf : fr < base.length) (hk : 0 ≤ k) (h : inC ms (startM base fr k) = true) : ∃ c, lc base fr ms = some c ∧ c ≤ k := by
  obtain ⟨m, hm, e⟩ := inC_iff.mp h
  obtain ⟨o, d⟩ := startM_of hf hk e
  obtain ⟨c, e2, l⟩ := (lc_le ms none).2 m hm o
  exact ⟨c, e2, by omega⟩
end K16
namespace K16
/-! ### the saturation -/
abbrev Fol := Option (Nat × Nat)
def follows (n : Nat) (ts : List Tr) (goals F : List (List Int)) (i : Nat) : Fol → List Int → Prop
  | none, x => x ∈ goals
  | some (k, j), x => j < i ∧ ∃ t y, ts[k]? = some t ∧ F[j]? = some y ∧ IsPred n t y x
/-- what stands in found and following -/
structure Sat (n : Nat) (ts : List Tr) (goals F : List (List Int)) (G : List Fol) : Prop where
  len : G.length = F.length
  size : ∀ x ∈ F, x.length = n ∧ ∀ i, i < n → 0 ≤ gt x i
  fol : ∀ (i : Nat) (x : List Int) (g : Fol), F[i]? = some x → G[i]? = some g → follows n ts goals F i g x
  anti : ∀ (i j : Nat) (x y : List Int), i < j → F[i]? = some x → F[j]? = some y → cov y x = false
theorem Sat.nil (n : Nat) (ts : List Tr) (goals : List (List Int)) : Sat n ts goals [] [] :=
  ⟨rfl, fun x h => absurd h (by simp), fun i x g h => by simp at h, fun i j x y _ h => by simp at h⟩
theorem follows_up {n : Nat} {ts : List Tr} {goals F : List (List Int)} {i : Nat} {g : Fol} {x z : List Int} (h : follows n ts goals F i g x) : follows n ts goals (F ++ [z]) i g x := by
  cases g with
  | none => exact h
  | some p =>
    obtain ⟨k, j⟩ := p
    obtain ⟨a, t, y, b, c, d⟩ := h
    exact ⟨a, t, y, b, by rw [List.getElem?_append_left (List.getElem?_eq_some_iff.mp c).1]; exact c, d⟩
theorem get_snoc {α : Type} {l : List α} {x y : α} {i : Nat} (h : (l ++ [x])[i]? = some y) : l[i]? = some y ∨ (i = l.length ∧ y = x) := by
  by_cases c : i < l.length
  · rw [List.getElem?_append_left c] at h; exact .inl h
  · rw [List.getElem?_append_right (by omega)] at h
    have e : i - l.length = 0 := by
      have := (List.getElem?_eq_some_iff.mp h).1
      simp at this; omega
    rw [e] at h
    exact .inr ⟨by omega, by simpa using h.symm⟩
theorem Sat.add {n : Nat} {ts : List Tr} {goals F : List (List Int)} {G : List Fol} (S : Sat n ts goals F G) {x : List Int} {g : Fol} (hx : x.length = n) (hp : ∀ i, i < n → 0 ≤ gt x i) (hf : follows n ts goals F F.length g x) (hn : inC F x = false) :
    Sat n ts goals (F ++ [x]) (G ++ [g]) := by
  have hn' : ∀ y ∈ F, cov x y = false := fun y hy => by
    cases e : cov x y with
    | false => rfl
    | true => rw [inC_iff.mpr ⟨y, hy, e⟩] at hn; cases hn
  refine ⟨by simp [S.len], fun y hy => ?_, fun i y g' h1 h2 => ?_, fun i j y z hij h1 h2 => ?_⟩
  · rcases List.mem_append.mp hy with z | z
    · exact S.size y z
    · rw [List.mem_singleton.mp z]; exact ⟨hx, hp⟩
  · rcases get_snoc h1 with a | ⟨a, b⟩
    · rcases get_snoc h2 with c | ⟨c, d⟩
      · exact follows_up (S.fol i y g' a c)
      · have := (List.getElem?_eq_some_iff.mp a).1
        rw [c, S.len] at this
        omega
    · rcases get_snoc h2 with c | ⟨c, d⟩
      · have := (List.getElem?_eq_some_iff.mp c).1
        rw [a, S.len] at this
        omega
      · subst a b d
        exact follows_up hf
  · rcases get_snoc h2 with c | ⟨c, d⟩
    · rcases get_snoc h1 with a | ⟨a, b⟩
      · exact S.anti i j y z hij a c
      · have := (List.getElem?_eq_some_iff.mp c).1
        omega
    · rcases get_snoc h1 with a | ⟨a, b⟩
      · subst d; exact hn' y (List.mem_of_getElem? a)
      · omega
theorem Sat.nodup {n : Nat} {ts : List Tr} {goals F : List (List Int)} {G : List Fol} (S : Sat n ts goals F G) : F.Nodup := by
  unfold List.Nodup
  rw [List.pairwise_iff_getElem]
  intro i j hi hj hij e
  have := S.anti i j F[i] F[j] hij (List.getElem?_eq_getElem hi) (List.getElem?_eq_getElem hj)
  rw [← e, cov_refl] at this
  cases this
/-- the saturation never gets large -/
def Bnd (n : Nat) (ts : List Tr) (goals : List (List Int)) : Prop := ∀ F G, Sat n ts goals F G → F.length ≤ 80 ∧ ∀ x ∈ F, ∀ i, i < n → gt x i ≤ 12
/-- the law's own tree back, looked through: a marking with the markings ahead of it -/
structure Tree (n : Nat) (ts : List Tr) (goals : List (List Int)) (R : List (List Int × List (List Int))) : Prop where
  root : ∀ g ∈ goals, (g, []) ∈ R
  few : R.length ≤ 80
  low : ∀ c p, (c, p) ∈ R → c.sum ≤ 12
  kids : ∀ c p, (c, p) ∈ R → ∀ (k : Nat) (t : Tr), ts[k]? = some t → ∀ x, IsPred n t c x → (∃ y ∈ p ++ [c], cov x y = true) ∨ (x, p ++ [c]) ∈ R
theorem le_sum {x : List Int} {n : Nat} (hl : x.length = n) (hp : ∀ i, i < n → 0 ≤ gt x i) {i : Nat} (hi : i < n) : gt x i ≤ x.sum := by
  rw [sum_sm, hl]
  exact sm_term hp hi
theorem Tree.bnd {n : Nat} {ts : List Tr} {goals : List (List Int)} {R : List (List Int × List (List Int))} (T : Tree n ts goals R) : Bnd n ts goals := by
  intro F G S
  have key : ∀ (i : Nat) (x : List Int), F[i]? = some x → ∃ p, (x, p) ∈ R ∧ ∀ y ∈ p, ∃ j, j < i ∧ F[j]? = some y := by
    intro i
    induction i using Nat.strongRecOn with
    | _ i ih =>
      intro x hx
      have hi := (List.getElem?_eq_some_iff.mp hx).1
      have hgl : i < G.length := by rw [S.len]; exact hi
      have hg : G[i]? = some G[i] := List.getElem?_eq_getElem hgl
      have f := S.fol i x _ hx hg
      cases e : G[i] with
      | none =>
        rw [e] at f
        exact ⟨[], T.root x f, fun y hy => absurd hy (by simp)⟩
      | some q =>
        obtain ⟨k, j⟩ := q
        rw [e] at f
        obtain ⟨hj, t, y, ht, hy, pr⟩ := f
        obtain ⟨p, hp, hq⟩ := ih j hj y hy
        have all : ∀ z ∈ p ++ [y], ∃ l, l < i ∧ F[l]? = some z := fun z hz => by
          rcases List.mem_append.mp hz with c | c
          · obtain ⟨l, a, b⟩ := hq z c
            exact ⟨l, by omega, b⟩
          · rw [List.mem_singleton.mp c]; exact ⟨j, hj, hy⟩
        rcases T.kids y p hp k t ht x pr with ⟨z, hz, c⟩ | c
        · obtain ⟨l, a, b⟩ := all z hz
          rw [S.anti l i z x a b hx] at c
          cases c
        · exact ⟨p ++ [y], c, all⟩
  have mem : ∀ x ∈ F, ∃ p, (x, p) ∈ R := fun x hx => by
    obtain ⟨i, hi, e⟩ := List.getElem_of_mem hx
    obtain ⟨p, hp, _⟩ := key i x (by rw [List.getElem?_eq_getElem hi, e])
    exact ⟨p, hp⟩
  refine ⟨?_, fun x hx i hi => ?_⟩
  · have := nodup_le (D := R.map (·.1)) S.nodup fun x hx => by
      obtain ⟨p, hp⟩ := mem x hx
      exact List.mem_map.mpr ⟨(x, p), hp, rfl⟩
    rw [List.length_map] at this
    have := T.few
    omega
  · obtain ⟨p, hp⟩ := mem x hx
    have a := T.low x p hp
    have b := le_sum (S.size x hx).1 (S.size x hx).2 hi
    omega
/-- a set of markings that holds the goals and what is new behind its members -/
theorem bnd_of {n : Nat} {ts : List Tr} {goals U : List (List Int)} (hU : U.length ≤ 80) (hl : ∀ u ∈ U, ∀ i, i < n → gt u i ≤ 12) (hg : ∀ g ∈ goals, g ∈ U)
    (hs : ∀ u ∈ U, ∀ (k : Nat) (t : Tr), ts[k]? = some t → ∀ x, IsPred n t u x → cov x u = true ∨ x ∈ U) : Bnd n ts goals := by
  intro F G S
  have key : ∀ (i : Nat) (x : List Int), F[i]? = some x → x ∈ U := by
    intro i
    induction i using Nat.strongRecOn with
    | _ i ih =>
      intro x hx
      have hi := (List.getElem?_eq_some_iff.mp hx).1
      have hgl : i < G.length := by rw [S.len]; exact hi
      have hgi : G[i]? = some G[i] := List.getElem?_eq_getElem hgl
      have f := S.fol i x _ hx hgi
      cases e : G[i] with
      | none => rw [e] at f; exact hg x f
      | some q =>
        obtain ⟨k, j⟩ := q
        rw [e] at f
        obtain ⟨hj, t, y, ht, hy, pr⟩ := f
        rcases hs y (ih j hj y hy) k t ht x pr with c | c
        · rw [S.anti j i y x hj hy hx] at c
          cases c
        · exact c
  have mem : ∀ x ∈ F, x ∈ U := fun x hx => by
    obtain ⟨i, hi, e⟩ := List.getElem_of_mem hx
    exact key i x (by rw [List.getElem?_eq_getElem hi, e])
  exact ⟨Nat.le_trans (nodup_le S.nodup mem) hU, fun x hx => hl x (mem x hx)⟩
/-- one transition that moves at most one token -/
structure Calm (n : Nat) (t : Tr) : Prop where
  ok : TrOk n t
  mv : ∀ i, i < n → gt t.mv i = (i : Int)
  one : (∀ i, i < n → gt t.gv i = 0) ∨ ∃ a, a < n ∧ ∀ i, i < n → gt t.gv i = if i = a then 1 else 0
theorem calm_pred {n : Nat} {t : Tr} (C : Calm n t) {m p : List Int} (h : IsPred n t m p) (i : Nat) (hi : i < n) : gt p i = gt t.tk i + miss t m i := by
  have a := h.all i hi
  unfold into at a
  rw [sm_single hi fun j hj hn => if_neg (by rw [C.mv j hj]; omega), if_pos (C.mv i hi)] at a
  omega
theorem sum_le_of {n : Nat} {a b : List Int} (ha : a.length = n) (hb : b.length = n) (h : ∀ i, i < n → gt a i ≤ gt b i) : a.sum ≤ b.sum := by
  rw [sum_sm, sum_sm, ha, hb]
  exact sm_le h
theorem calm_bnd {n : Nat} (h4 : n ≤ 4) {t : Tr} (C : Calm n t) (ht : ∀ i, i < n → gt t.tk i ≤ 1) {goals : List (List Int)} (hg : goals.length ≤ 3) (hz : ∀ g ∈ goals, g.length = n ∧ ∀ i, i < n → 0 ≤ gt g i ∧ gt g i ≤ 3) : Bnd n [t] goals := by
  rcases C.one with z | ⟨a, ha, za⟩
  · refine bnd_of (U := goals) (by omega) (fun u hu i hi => by have := (hz u hu).2 i hi; omega) (fun g h => h) fun u hu k t' ht' x pr => ?_
    obtain rfl : t = t' := by
      cases k with
      | zero => simpa using ht'
      | succ k => simp at ht'
    refine .inl (cov_iff.mpr fun i hi => ?_)
    rw [pr.len] at hi
    rw [calm_pred C pr i hi]
    have := C.ok.ptk i hi
    have := z i hi
    unfold miss; omega
  · have gU : ∀ (g : List Int) (k : Nat) i, i < n → gt ((List.range n).map fun i => gt g i + (k : Int) * gt t.tk i - if i = a then (k : Int) else 0) i = gt g i + (k : Int) * gt t.tk i - if i = a then (k : Int) else 0 := fun g k i hi => gt_map_range hi
    refine bnd_of (U := goals.flatMap fun g => (List.range 4).map fun k : Nat => (List.range n).map fun i => gt g i + (k : Int) * gt t.tk i - if i = a then (k : Int) else 0) ?_ (fun u hu i hi => ?_) (fun g h => ?_) fun u hu k t' ht' x pr => ?_
    · refine Nat.le_trans (flat_len (b := 4) fun g _ => by simp) (by omega)
    · obtain ⟨g, hgm, e⟩ := List.mem_flatMap.mp hu
      obtain ⟨k, hk, e⟩ := List.mem_map.mp e
      subst e
      rw [gU g k i hi]
      have hk := List.mem_range.mp hk
      have b := (hz g hgm).2 i hi
      have c := ht i hi
      have d := (C.ok.ptk i hi).1
      have e : (k : Int) * gt t.tk i ≤ 3 := by
        rcases (show gt t.tk i = 0 ∨ gt t.tk i = 1 by omega) with z | z <;> rw [z] <;> omega
      split <;> omega
    · refine List.mem_flatMap.mpr ⟨g, h, List.mem_map.mpr ⟨0, by simp, ?_⟩⟩
      have hl := (hz g h).1
      refine ext_gt (by simp [hl]) fun i hi => ?_
      have hi' : i < n := by simpa using hi
      have := gU g 0 i hi'
      rw [this]
      simp
    · obtain rfl : t = t' := by
        cases k with
        | zero => simpa using ht'
        | succ k => simp at ht'
      obtain ⟨g, hgm, e⟩ := List.mem_flatMap.mp hu
      obtain ⟨k, hk, e⟩ := List.mem_map.mp e
      have hk := List.mem_range.mp hk
      have ue : ∀ i, i < n → gt u i = gt g i + (k : Int) * gt t.tk i - if i = a then (k : Int) else 0 := fun i hi => by rw [← e]; exact gU g k i hi
      have ca := calm_pred C pr
      have mi : ∀ i, i < n → miss t u i = max 0 (gt u i - if i = a then 1 else 0) := fun i hi => by unfold miss; rw [za i hi]
      have ga := (hz g hgm).2 a ha
      have ta := ht a ha
      have tp := (C.ok.ptk a ha).1
      have ua := ue a ha
      rw [if_pos rfl] at ua
      rcases (show gt t.tk a = 0 ∨ gt t.tk a = 1 by omega) with z | z
      · by_cases c : 1 ≤ gt u a
        · right
          have hk1 : k + 1 < 4 := by rw [z, Int.mul_zero] at ua; omega
          refine List.mem_flatMap.mpr ⟨g, hgm, List.mem_map.mpr ⟨k + 1, List.mem_range.mpr hk1, ?_⟩⟩
          refine ext_gt (by simp [pr.len]) fun i hi => ?_
          have hi' : i < n := by simpa using hi
          rw [gU g (k + 1) i hi', ca i hi', mi i hi', ue i hi']
          have hm : ((k + 1 : Nat) : Int) * gt t.tk i = (k : Int) * gt t.tk i + gt t.tk i := by rw [Int.natCast_succ, Int.add_mul, Int.one_mul]
          rw [hm]
          have gi := (hz g hgm).2 i hi'
          have ti := C.ok.ptk i hi'
          have pk : 0 ≤ (k : Int) * gt t.tk i := Int.mul_nonneg (by omega) ti.1
          by_cases ei : i = a
          · subst ei
            rw [if_pos rfl, if_pos rfl, if_pos rfl]
            rw [z, Int.mul_zero] at ua ⊢
            omega
          · rw [if_neg ei, if_neg ei, if_neg ei]; omega
        · left
          refine cov_iff.mpr fun i hi => ?_
          rw [pr.len] at hi
          rw [ca i hi, mi i hi]
          have := C.ok.ptk i hi
          by_cases ei : i = a
          · subst ei; rw [if_pos rfl]; omega
          · rw [if_neg ei]; omega
      · left
        refine cov_iff.mpr fun i hi => ?_
        rw [pr.len] at hi
        rw [ca i hi, mi i hi]
        have := C.ok.ptk i hi
        by_cases ei : i = a
        · subst ei; rw [if_pos rfl, z]; omega
        · rw [if_neg ei]; omega
end K16
namespace K16
def Closed (n : Nat) (ts : List Tr) (B : List (List Int)) : Prop := ∀ b ∈ B, ∀ (k : Nat) (t : Tr), ts[k]? = some t → ∀ p, IsPred n t b p → inC B p = true
inductive Reach (ts : List Tr) (a : List Int) : List Int → Prop
  | here : Reach ts a a
  | step {x : List Int} {k : Nat} {t : Tr} : Reach ts a x → ts[k]? = some t → cov x t.tk = true → Reach ts a (fireL t x x.length)
structure TrsOk (n : Nat) (ts : List Tr) : Prop where
  ok : ∀ t ∈ ts, TrOk n t
theorem TrsOk.at {n : Nat} {ts : List Tr} (o : TrsOk n ts) {k : Nat} {t : Tr} (h : ts[k]? = some t) : TrOk n t := o.ok t (List.mem_of_getElem? h)
theorem reach_len {n : Nat} {ts : List Tr} (o : TrsOk n ts) {a x : List Int} (ha : a.length = n) (r : Reach ts a x) : x.length = n := by
  induction r with
  | here => exact ha
  | step _ h _ _ => exact fire_len (o.at h) _
theorem reach_back {n : Nat} {ts : List Tr} (o : TrsOk n ts) {B : List (List Int)} (hB : Closed n ts B) {a x : List Int} (ha : a.length = n) (r : Reach ts a x) (h : inC B x = true) : inC B a = true := by
  induction r with
  | here => exact h
  | step r' hk en ih =>
    obtain ⟨b, hb, c⟩ := inC_iff.mp h
    obtain ⟨p, hp, cp⟩ := pred_complete (o.at hk) (reach_len o ha r') en c
    obtain ⟨b', hb', c'⟩ := inC_iff.mp (hB b hb _ _ hk p hp)
    exact ih (inC_iff.mpr ⟨b', hb', cov_trans ((reach_len o ha r').trans hp.len.symm) cp c'⟩)
/-- all below at have been looked at -/
def Done (n : Nat) (ts : List Tr) (F : List (List Int)) (at_ : Nat) : Prop := ∀ (j : Nat) (y : List Int), j < at_ → F[j]? = some y → ∀ (k : Nat) (t : Tr), ts[k]? = some t → ∀ p, IsPred n t y p → inC F p = true
theorem inC_up {F G : List (List Int)} {x : List Int} (h : ∀ y ∈ F, y ∈ G) (c : inC F x = true) : inC G x = true := by
  obtain ⟨m, hm, e⟩ := inC_iff.mp c
  exact inC_iff.mpr ⟨m, h m hm, e⟩
theorem inC_basis {n : Nat} {B F : List (List Int)} (hB : IsBasis B F) (hF : ∀ x ∈ F, x.length = n) {x : List Int} (hx : x.length = n) (c : inC F x = true) : inC B x = true := by
  obtain ⟨m, hm, e⟩ := inC_iff.mp c
  obtain ⟨b, hb, e2⟩ := hB.gen m hm
  exact inC_iff.mpr ⟨b, hb, cov_trans (hx.trans (hF m hm).symm) e e2⟩
theorem closed_of {n : Nat} {ts : List Tr} {goals F B : List (List Int)} {G : List Fol} (S : Sat n ts goals F G) (D : Done n ts F F.length) (hB : IsBasis B F) : Closed n ts B := fun b hb k t hk p hp => by
  obtain ⟨j, hj, e⟩ := List.getElem_of_mem (hB.sub b hb)
  exact inC_basis hB (fun x hx => (S.size x hx).1) hp.len (D j b hj (by rw [List.getElem?_eq_getElem hj, e]) k t hk p hp)
/-! ### runs -/
def runM (ts : List Tr) : List Int → List Nat → Option (List Int)
  | x, [] => some x
  | x, k :: r => match ts[k]? with
    | some t => match fireM t x with
      | some y => runM ts y r
      | none => none
    | none => none
theorem runM_snoc (ts : List Tr) : ∀ (r : List Nat) (x : List Int) {y z : List Int} {k : Nat} {t : Tr}, runM ts x r = some y → ts[k]? = some t → fireM t y = some z → runM ts x (r ++ [k]) = some z
  | [], x, y, z, k, t, h, hk, hf => by
    have e : x = y := Option.some.inj h
    subst e
    simp [runM, hk, hf]
  | a :: r, x, y, z, k, t, h, hk, hf => by
    rw [List.cons_append]
    unfold runM at h ⊢
    cases e : ts[a]? with
    | none => rw [e] at h; cases h
    | some u =>
      rw [e] at h
      cases f : fireM u x with
      | none => simp only [f] at h; cases h
      | some v =>
        simp only [f] at h ⊢
        exact runM_snoc ts r v h hk hf
/-- a step of the way: from what covers a marking found, to what covers the one that follows -/
theorem way_step {n : Nat} {ts : List Tr} {goals F : List (List Int)} {G : List Fol} (o : TrsOk n ts) (S : Sat n ts goals F G) {x y m : List Int} {i k j : Nat} (hx : x.length = n) (hm : F[i]? = some m) (hg : G[i]? = some (some (k, j))) (c : cov x m = true) :
    j < i ∧ ∃ t y, ts[k]? = some t ∧ F[j]? = some y ∧ fireM t x = some (fireL t x x.length) ∧ (fireL t x x.length).length = n ∧ cov (fireL t x x.length) y = true := by
  obtain ⟨a, t, y, b, d, pr⟩ := S.fol i m _ hm hg
  have hy := (S.size y (List.mem_of_getElem? d)).1
  obtain ⟨e1, e2⟩ := pred_sound (o.at b) pr hx c hy
  exact ⟨a, t, y, b, d, if_pos e1, fire_len (o.at b) x, e2⟩
/-- what the law asks of a decision -/
structure Right (n : Nat) (ts : List Tr) (goals : List (List Int)) (B : List (List Int)) : Prop where
  asc : B.Pairwise (· < ·)
  anti : ∀ b ∈ B, ∀ b' ∈ B, b ≠ b' → cov b b' = false
  size : ∀ b ∈ B, b.length = n ∧ ∀ i, i < n → 0 ≤ gt b i ∧ gt b i ≤ 12
  closed : Closed n ts B
  goals : ∀ g ∈ goals, inC B g = true
  few : B.length ≤ 80
end K16
namespace K16
open PySem L2
/-! ### the text by places -/
def top (i : Nat) : Stmt := PySem.Challenge.pw_covernets_k16_whole_decisions.main.body.getD i (.Pass ⟨0, 0, 0, 0⟩)
abbrev scovers : Stmt := top 1
abbrev sbasis_of : Stmt := top 2
abbrev sin_closed : Stmt := top 3
abbrev ssharings : Stmt := top 5
abbrev ssources : Stmt := top 6
abbrev spredecessors : Stmt := top 7
abbrev sSaturation_init : Stmt := inClass (top 8) 0
abbrev sSaturation_add : Stmt := inClass (top 8) 1
abbrev sSaturation_way : Stmt := inClass (top 8) 2
abbrev sall_from : Stmt := top 17
abbrev sfits : Stmt := top 18
abbrev sNet_init : Stmt := inClass (top 19) 0
abbrev sDecision_init : Stmt := inClass (top 21) 0
abbrev sstart_marking : Stmt := top 22
abbrev scount_for : Stmt := top 23
abbrev sleast_count : Stmt := top 24
abbrev sdecide : Stmt := top 25
abbrev sLdraws : Stmt := top 27
abbrev sLtake : Stmt := top 28
abbrev sLis_integer : Stmt := top 29
abbrev sLnumbers : Stmt := top 30
abbrev sLall_numbers : Stmt := top 31
abbrev sLmarking : Stmt := top 32
abbrev sLmarkings : Stmt := top 33
abbrev sLcovers : Stmt := top 34
abbrev sLinside : Stmt := top 35
abbrev sLleast : Stmt := top 36
abbrev sLtransition : Stmt := top 37
abbrev sLnet : Stmt := top 38
abbrev sLfire : Stmt := top 39
abbrev sLrun : Stmt := top 40
abbrev sLwalk : Stmt := top 41
abbrev sLback : Stmt := top 42
abbrev sLclosed : Stmt := top 43
abbrev sLstart : Stmt := top 44
abbrev sLcount : Stmt := top 45
abbrev sLis_run : Stmt := top 46
abbrev sLconfig_covers : Stmt := top 48
abbrev sLconfig_inside : Stmt := top 49
abbrev sLmail_back : Stmt := top 50
abbrev sLways_back : Stmt := top 51
abbrev sLsmall : Stmt := top 52
abbrev sLcalm : Stmt := top 53
abbrev sLtame : Stmt := top 54
abbrev slaw : Stmt := top 55

/-- the built-in names that the text leaves as they are -/
structure Blt (mg : Str → Option Value) : Prop where
  len : mg "len" = none
  range : mg "range" = none
  sorted : mg "sorted" = none
  set : mg "set" = none
  list : mg "list" = none
  tuple : mg "tuple" = none
  max : mg "max" = none
  int : mg "int" = none
  isinstance : mg "isinstance" = none
  sum : mg "sum" = none
  bool : mg "bool" = none

/-- a def of the top keeps its promise, and is bound to its name -/
def Has (P : Program) (w : World) (K : PySem.W.Frag) (mg : Str → Option Value) (base : Heap) (x : Str) (ps : List Str) (k : Nat) (sp : Sp) : Prop :=
  ∃ (f : Addr) (fd : FuncData), FnOk P w K mg base CX0 k f fd ps sp ∧ mg x = some (.ref f) ∧ PySem.W.keepIn K (.ref f) = true ∧ Binds K fd ps []
/-- a def as it stands behind the top -/
def Stands (K : PySem.W.Frag) (mg : Str → Option Value) (x : Str) (st : Stmt) (ps : List Str) (f : Addr) (fd : FuncData) : Prop :=
  Fun K x x st f fd ∧ mg x = some (.ref f) ∧ Binds K fd ps []

/-! ### heaps -/
theorem same_new {H : Hp} {p : Addr} (h : H p = none) (o : HO) : Same H (upd H p o) := fun b u q => by
  rw [upd_ne (ne_of_none q h)]
  exact q
/-- a new object: the heap by what is known of it -/
@[elab_as_elim]
theorem alloc {H : Hp} {p : Addr} {o : HO} {G : Hp → Prop} (h : H p = none) (k : ∀ H1, Same H H1 → H1 p = some o → G H1) : G (upd H p o) := k _ (same_new h o) upd_same
/-- all but the object at d as it was -/
def SameD (d : Addr) (H H' : Hp) : Prop := ∀ b o, H b = some o → b ≠ d → H' b = some o
theorem same_but {d : Addr} {H H' : Hp} (s : Same H H') : SameD d H H' := fun b o h _ => s b o h
theorem SameD.refl (d : Addr) (H : Hp) : SameD d H H := fun _ _ h _ => h
theorem SameD.trans {d : Addr} {H H1 H2 : Hp} (a : SameD d H H1) (b : SameD d H1 H2) : SameD d H H2 := fun c o h n => b c o (a c o h n) n
theorem SameD.put {d : Addr} {H : Hp} (o : HO) : SameD d H (upd H d o) := fun b u h n => by
  rw [upd_ne n]
  exact h
/-- an object that the first heap does not know was changed -/
theorem same_mut {H H' : Hp} {p : Addr} {o : HO} (s : Same H H') (h : H p = none) : Same H (upd H' p o) := fun b u e => by
  rw [upd_ne (ne_of_none e h)]
  exact s b u e
theorem SameD.mut {H H' : Hp} {d p : Addr} {o : HO} (s : SameD d H H') (h : H p = none) : SameD d H (upd H' p o) := fun b u e n => by
  rw [upd_ne (ne_of_none e h)]
  exact s b u e n
theorem SameD.undo {H H1 H' : Hp} {d : Addr} (a : Same H H1) (s : SameD d H1 H') (h : H d = none) : Same H H' := fun b u e => s b u (a b u e) (ne_of_none e h)

/-- a tuple of ints -/
def Tu (H : Hp) (a : Addr) (m : List Int) : Prop := H a = some (.tup (m.map V.int))
/-- a list of ints -/
def Li (H : Hp) (a : Addr) (m : List Int) : Prop := H a = some (.lst (m.map V.int))
theorem Tu.up {H H' : Hp} {a : Addr} {m : List Int} (h : Tu H a m) (s : Same H H') : Tu H' a m := s a _ h
theorem Li.up {H H' : Hp} {a : Addr} {m : List Int} (h : Li H a m) (s : Same H H') : Li H' a m := s a _ h
/-- tuples of ints, each with its address -/
def Tus (H : Hp) (ks : List (Addr × List Int)) : Prop := ∀ p ∈ ks, Tu H p.1 p.2
theorem Tus.up {H H' : Hp} {ks : List (Addr × List Int)} (h : Tus H ks) (s : Same H H') : Tus H' ks := fun p hp => (h p hp).up s
abbrev refs {α : Type} (ks : List (Addr × α)) : List V := ks.map fun p => V.ref p.1
theorem at_int {m : List Int} {i : Nat} (h : i < m.length) : atI (m.map V.int) (i : Int) = some (.int (m.getD i 0)) :=
  atI_nat (by rw [List.getElem?_map, List.getElem?_eq_getElem h, List.getD_eq_getElem?_getD, List.getElem?_eq_getElem h]; rfl)
theorem at_ref {α : Type} {ks : List (Addr × α)} {i : Nat} {p : Addr × α} (h : ks[i]? = some p) : atI (refs ks) (i : Int) = some (.ref p.1) :=
  atI_nat (by rw [List.getElem?_map, h]; rfl)
theorem small {n : Nat} (h : n ≤ 1000) : n ≤ sizeLine := Nat.le_of_lt (small1000 h)
theorem line_eq : sizeLine = 16777216 := sizeLine_eq
theorem len_int {m : List Int} : (m.map V.int).length = m.length := List.length_map _
theorem len_ref {α : Type} {ks : List (Addr × α)} : (refs ks).length = ks.length := List.length_map _
/-- walked as a list or as a tuple -/
theorem pi_or {X : Cx} {tg iter : Expr} {u v : TI} (a : PI X tg iter u) (b : PI X tg iter v) : PI X tg iter (fun σ H R => u σ H R ∨ v σ H R) :=
  ⟨fun pins s σ H R I h => h.elim (a.run pins s σ H R I) (b.run pins s σ H R I)⟩
theorem ref_at {α : Type} {ks : List (Addr × α)} {i : Nat} {v : V} (h : (refs ks)[i]? = some v) : ∃ p, ks[i]? = some p ∧ v = .ref p.1 := by
  rw [List.getElem?_map] at h
  cases e : ks[i]? with
  | none => rw [e] at h; cases h
  | some p => rw [e] at h; exact ⟨p, rfl, (Option.some.inj h).symm⟩
theorem int_at {m : List Int} {i : Nat} {v : V} (h : (m.map V.int)[i]? = some v) : i < m.length ∧ v = .int (gt m i) := by
  rw [List.getElem?_map] at h
  cases e : m[i]? with
  | none => rw [e] at h; cases h
  | some z =>
    rw [e] at h
    refine ⟨(List.getElem?_eq_some_iff.mp e).1, ?_⟩
    have q : V.int z = v := Option.some.inj h
    rw [← q, gt, List.getD_eq_getElem?_getD, e]
    rfl
theorem snd_get {α β : Type} {ks : List (α × β)} {i : Nat} {p : α × β} (h : ks[i]? = some p) : (ks.map (·.2))[i]? = some p.2 := by rw [List.getElem?_map, h]; rfl
theorem get_some {α : Type} {l : List α} {i : Nat} (h : i < l.length) : l[i]? = some l[i] := List.getElem?_eq_getElem h
theorem take_succ' {α : Type} {l : List α} {i : Nat} {x : α} (h : l[i]? = some x) : l.take (i + 1) = l.take i ++ [x] := by rw [List.take_succ, h]; rfl
end K16
namespace K16
open PySem L2
def rGetL (K : PySem.W.Frag) : V → V → Hp → VK → Prop := fun x y H Q => ∃ (p : Addr) (xs : List V) (i : Nat) (v : V), x = .ref p ∧ y = .int (i : Int) ∧ SqL K H p xs ∧ xs[i]? = some v ∧ Q v H
theorem get_list {X : Cx} : PGet X (rGetL X.K) := by
  intro pins s σ H o i ov iv Q I r1 r2 h
  obtain ⟨p, xs, j, v, rfl, rfl, hq, he, q⟩ := h
  cases r1
  obtain ⟨t, rfl⟩ := r2
  obtain ⟨its, r, pl, hz⟩ := I.list hq
  obtain ⟨u, hu, ru⟩ := r.get he
  have hj := (List.getElem?_eq_some_iff.mp he).1
  have hn := line63
  exact PyProof.Rows.getItem_listL pl.isList (Int.natCast_nonneg j) (by omega) (by simpa using hu) ⟨v, H, I, ru, q⟩
/-- lists of ints, each with its address -/
def Lis (H : Hp) (ks : List (Addr × List Int)) : Prop := ∀ p ∈ ks, Li H p.1 p.2
theorem Lis.up {H H' : Hp} {ks : List (Addr × List Int)} (h : Lis H ks) (s : Same H H') : Lis H' ks := fun p hp => (h p hp).up s
theorem cutV_from1 {xs : List V} : cutV xs (some 1) none = xs.drop 1 := by
  have e1 : HT.sIx xs.length 0 (some 1) = min 1 xs.length := HT.sIx_nat xs.length 0 1
  unfold cutV
  rw [e1, HT.sIx_none]
  by_cases h : xs.length = 0
  · rw [List.eq_nil_of_length_eq_zero h]; rfl
  · rw [show min 1 xs.length = 1 by omega, List.take_of_length_le (by rw [List.length_drop]; omega)]
/-! rules by the written part's name, for a comprehension's block -/
theorem ix_tupK {X : Cx} {K : PySem.W.Frag} (h : X.K = K) : IxR X (rIxT K) := h ▸ ix_tup
theorem ix_listK {X : Cx} {K : PySem.W.Frag} (h : X.K = K) : IxR X (rIxL K) := h ▸ ix_list
def rTupleOf (K : PySem.W.Frag) : List V → Hp → VK → Prop := fun xs H Q => ∃ (p : Addr) (ys : List V), xs = [.ref p] ∧ ((SqL K H p ys ∧ ∀ l, H l = none → Q (.ref l) (upd H l (.tup ys))) ∨ (SqT K H p ys ∧ Q (.ref p) H))
theorem call_tupleK {X : Cx} {K : PySem.W.Frag} (h : X.K = K) : CallR X (.type "tuple") (rTupleOf K) := by
  subst h
  exact call_tuple_of
def rLenOf (K : PySem.W.Frag) : List V → Hp → VK → Prop := fun xs H Q => ∃ (p : Addr) (ys : List V), xs = [.ref p] ∧ (SqL K H p ys ∨ SqT K H p ys) ∧ Q (.int ys.length) H
theorem call_lenK {X : Cx} {K : PySem.W.Frag} (h : X.K = K) : CallR X (.builtin "len") (rLenOf K) := by
  subst h
  exact call_len_seq
end K16
namespace K16
open PySem L2
/-- both tuples, the answer, nothing made -/
def spCovers : Sp := fun vs H Q _ => ∃ (a b : Addr) (x y : List Int), vs = [.ref a, .ref b] ∧ Tu H a x ∧ Tu H b y ∧ x.length ≤ 1000 ∧ x.length ≤ y.length ∧ Q (.bl (cov x y)) H
section
variable {P : Program} {w : World} {K : PySem.W.Frag} {mg : Str → Option Value} {base : Heap} {f : Addr} {fd : FuncData}
theorem sc_covers : FnScope ["first", "second", "k"] ["first", "second"] (defScope scovers) := ⟨rfl, rfl, rfl, by decide +kernel, rfl, by decide +kernel, by decide +kernel⟩
theorem ok_covers (F : Stands K mg "covers" scovers ["first", "second"] f fd) (T : Blt mg) : Has P w K mg base "covers" ["first", "second"] 1 spCovers := by
  refine ⟨f, fd, F.1.ok sc_covers (fun vs H Q E h => ?_) (fun cdv A outer s H vs Q E hr h => ?_), F.2.1, F.1.kp, F.2.2⟩
  · obtain ⟨a, b, x, y, rfl, _⟩ := h
    rfl
  obtain ⟨a, b, x, y, rfl, hx, hy, hz, hl, q⟩ := h
  refine ⟨_, pss_cons (ps_for PassesOwn.never rfl (pi_range1 rfl T.range (pa_cons (pe_callB call_len_seq rfl T.len PySem.boot_len (pa_cons (pv 0) pa_nil)) pa_nil)) (pg_name (i := 2) sc_covers.nd rfl (.inl rfl))
      (pss_one (ps_if (pt_cmpR op_lt (pe_ix ix_tup (pv 0) (pv 2) (fun _ _ => rfl)) (pe_ix ix_tup (pv 1) (pv 2) (fun _ _ => rfl)) (nomark _))
        (pss_one (ps_ret pe_bl)) pss_nil)))
    (pss_one (ps_ret pe_bl)), ?_⟩
  refine ⟨_, rfl, a, _, rfl, .inr (SqT.of hx), _, rfl, by omega, by rw [len_int]; omega, ?_⟩
  rw [len_int]
  refine for_range (lo := 0) (n := x.length) (fun i σ H' => ∃ v, σ = [some (.ref a), some (.ref b), v] ∧ H' = H ∧ ∀ j, j < i → y.getD j 0 ≤ x.getD j 0) ⟨none, rfl, rfl, fun j hj => absurd hj (Nat.not_lt_zero _)⟩ ?_ ?_
  · rintro i σ H' hi ⟨v, rfl, rfl, hp⟩
    rw [Int.zero_add]
    refine ⟨_, rfl, _, rfl, a, _, _, _, rfl, rfl, SqT.of hx, at_int hi, _, rfl, _, rfl, b, _, _, _, rfl, rfl, SqT.of hy, at_int (by omega), _, _, rfl, rfl, _, rfl, ?_⟩
    refine ite2 (fun c => ?_) (fun c => ?_)
    · have c' := of_decide_eq_true c
      rw [cov_false hi c'] at q
      exact q
    · have c' : ¬ x.getD i 0 < y.getD i 0 := fun z => c (decide_eq_true z)
      exact ⟨_, rfl, rfl, fun j hj => by
        rcases Nat.lt_succ_iff_lt_or_eq.mp hj with z | z
        · exact hp j z
        · subst z
          omega⟩
  · rintro σ H' ⟨v, rfl, rfl, hp⟩
    have e : cov x y = true := cov_iff.mpr hp
    rw [e] at q
    exact q
theorem sc_Lcovers : FnScope ["_law_first", "_law_second", "_law_k"] ["_law_first", "_law_second"] (defScope sLcovers) := ⟨rfl, rfl, rfl, by decide +kernel, rfl, by decide +kernel, by decide +kernel⟩
theorem ok_Lcovers (F : Stands K mg "_law_covers" sLcovers ["_law_first", "_law_second"] f fd) (T : Blt mg) : Has P w K mg base "_law_covers" ["_law_first", "_law_second"] 1 spCovers := by
  refine ⟨f, fd, F.1.ok sc_Lcovers (fun vs H Q E h => ?_) (fun cdv A outer s H vs Q E hr h => ?_), F.2.1, F.1.kp, F.2.2⟩
  · obtain ⟨a, b, x, y, rfl, _⟩ := h
    rfl
  obtain ⟨a, b, x, y, rfl, hx, hy, hz, hl, q⟩ := h
  refine ⟨_, pss_cons (ps_for PassesOwn.never rfl (pi_range1 rfl T.range (pa_cons (pe_callB call_len_seq rfl T.len PySem.boot_len (pa_cons (pv 0) pa_nil)) pa_nil)) (pg_name (i := 2) sc_Lcovers.nd rfl (.inl rfl))
      (pss_one (ps_if (pt_cmpR op_lt (pe_ix ix_tup (pv 0) (pv 2) (fun _ _ => rfl)) (pe_ix ix_tup (pv 1) (pv 2) (fun _ _ => rfl)) (nomark _))
        (pss_one (ps_ret pe_bl)) pss_nil)))
    (pss_one (ps_ret pe_bl)), ?_⟩
  refine ⟨_, rfl, a, _, rfl, .inr (SqT.of hx), _, rfl, by omega, by rw [len_int]; omega, ?_⟩
  rw [len_int]
  refine for_range (lo := 0) (n := x.length) (fun i σ H' => ∃ v, σ = [some (.ref a), some (.ref b), v] ∧ H' = H ∧ ∀ j, j < i → y.getD j 0 ≤ x.getD j 0) ⟨none, rfl, rfl, fun j hj => absurd hj (Nat.not_lt_zero _)⟩ ?_ ?_
  · rintro i σ H' hi ⟨v, rfl, rfl, hp⟩
    rw [Int.zero_add]
    refine ⟨_, rfl, _, rfl, a, _, _, _, rfl, rfl, SqT.of hx, at_int hi, _, rfl, _, rfl, b, _, _, _, rfl, rfl, SqT.of hy, at_int (by omega), _, _, rfl, rfl, _, rfl, ?_⟩
    refine ite2 (fun c => ?_) (fun c => ?_)
    · have c' := of_decide_eq_true c
      rw [cov_false hi c'] at q
      exact q
    · have c' : ¬ x.getD i 0 < y.getD i 0 := fun z => c (decide_eq_true z)
      exact ⟨_, rfl, rfl, fun j hj => by
        rcases Nat.lt_succ_iff_lt_or_eq.mp hj with z | z
        · exact hp j z
        · subst z
          omega⟩
  · rintro σ H' ⟨v, rfl, rfl, hp⟩
    have e : cov x y = true := cov_iff.mpr hp
    rw [e] at q
    exact q
/-- a list of markings, a marking: is it in their closed set -/
def spInside (K : PySem.W.Frag) : Sp := fun vs H Q _ => ∃ (l b : Addr) (ks : List (Addr × List Int)) (y : List Int), vs = [.ref l, .ref b] ∧ (SqL K H l (refs ks) ∨ SqT K H l (refs ks)) ∧ Tus H ks ∧ Tu H b y ∧ (∀ p ∈ ks, p.2.length = y.length) ∧ y.length ≤ 1000 ∧ Q (.bl (inC (ks.map (·.2)) y)) H
theorem sc_in_closed : FnScope ["members", "marking", "member"] ["members", "marking"] (defScope sin_closed) := ⟨rfl, rfl, rfl, by decide +kernel, rfl, by decide +kernel, by decide +kernel⟩
theorem ok_in_closed (F : Stands K mg "in_closed" sin_closed ["members", "marking"] f fd) (C : Has P w K mg base "covers" ["first", "second"] 1 spCovers) : Has P w K mg base "in_closed" ["members", "marking"] 2 (spInside K) := by
  obtain ⟨_, _, Gcovers, mcovers, kcovers, bcovers⟩ := C
  refine ⟨f, fd, F.1.ok sc_in_closed (fun vs H Q E h => ?_) (fun cdv A outer s H vs Q E hr h => ?_), F.2.1, F.1.kp, F.2.2⟩
  · obtain ⟨l, b, ks, y, rfl, _⟩ := h
    rfl
  obtain ⟨l, b, ks, y, rfl, hl, hk, hy, hn, hz, q⟩ := h
  refine ⟨_, pss_cons (ps_for PassesOwn.never rfl (pi_or (pi_list (pv 0)) (pi_tup (pv 0))) (pg_name (i := 2) sc_in_closed.nd rfl (.inl rfl))
      (pss_one (ps_if (pt_val (pe_call Gcovers hr rfl mcovers kcovers bcovers .nil pass0 (pa_cons (pv 1) (pa_cons (pv 2) pa_nil))))
        (pss_one (ps_ret pe_bl)) pss_nil)))
    (pss_one (ps_ret pe_bl)), ?_⟩
  have go : ∀ (i : Nat) (p : Addr × List Int), ks[i]? = some p → p ∈ ks := fun i p h => List.mem_of_getElem? h
  have fin : (∀ p ∈ ks, cov y p.2 = false) → inC (ks.map (·.2)) y = false := fun h => by
    cases e : inC (ks.map (·.2)) y with
    | false => rfl
    | true =>
      obtain ⟨m, hm, c⟩ := inC_iff.mp e
      obtain ⟨p, hp, e2⟩ := List.mem_map.mp hm
      rw [← e2, h p hp] at c
      cases c
  rcases hl with hl | hl
  · refine .inl ⟨_, rfl, l, rfl, ⟨_, hl⟩, for_list (K := K) (a := l) (xs := refs ks) (fun i σ H' => ∃ v, σ = [some (.ref l), some (.ref b), v] ∧ H' = H ∧ ∀ p ∈ ks.take i, cov y p.2 = false) ⟨none, rfl, rfl, fun p h => absurd h (by simp)⟩ (fun i σ H' _ h => ?_) (fun i x σ H' hx h => ?_) fun σ H' h => ?_⟩
    · obtain ⟨v, _, rfl, _⟩ := h
      exact hl
    · obtain ⟨v, rfl, rfl, hp⟩ := h
      obtain ⟨p, e, rfl⟩ := ref_at hx
      refine ⟨_, rfl, _, rfl, b, p.1, y, p.2, rfl, hy, hk p (go i p e), hz, Nat.le_of_eq (hn p (go i p e)).symm, _, rfl, ?_⟩
      cases c : cov y p.2 with
      | true =>
        refine iteT ?_
        rw [inC_iff.mpr ⟨p.2, List.mem_map.mpr ⟨p, go i p e, rfl⟩, c⟩] at q
        exact q
      | false =>
        refine iteF ⟨_, rfl, rfl, fun r hr => ?_⟩
        rw [take_succ' e] at hr
        rcases List.mem_append.mp hr with z | z
        · exact hp r z
        · rw [List.mem_singleton.mp z]; exact c
    · obtain ⟨v, rfl, rfl, hp⟩ := h
      rw [len_ref, List.take_length] at hp
      rw [fin hp] at q
      exact q
  · refine .inr ⟨_, rfl, l, rfl, ⟨_, hl⟩, for_tup (K := K) (a := l) (xs := refs ks) (fun i σ H' => ∃ v, σ = [some (.ref l), some (.ref b), v] ∧ H' = H ∧ ∀ p ∈ ks.take i, cov y p.2 = false) ⟨none, rfl, rfl, fun p h => absurd h (by simp)⟩ (fun i σ H' _ h => ?_) (fun i x σ H' hx h => ?_) fun σ H' h => ?_⟩
    · obtain ⟨v, _, rfl, _⟩ := h
      exact hl
    · obtain ⟨v, rfl, rfl, hp⟩ := h
      obtain ⟨p, e, rfl⟩ := ref_at hx
      refine ⟨_, rfl, _, rfl, b, p.1, y, p.2, rfl, hy, hk p (go i p e), hz, Nat.le_of_eq (hn p (go i p e)).symm, _, rfl, ?_⟩
      cases c : cov y p.2 with
      | true =>
        refine iteT ?_
        rw [inC_iff.mpr ⟨p.2, List.mem_map.mpr ⟨p, go i p e, rfl⟩, c⟩] at q
        exact q
      | false =>
        refine iteF ⟨_, rfl, rfl, fun r hr => ?_⟩
        rw [take_succ' e] at hr
        rcases List.mem_append.mp hr with z | z
        · exact hp r z
        · rw [List.mem_singleton.mp z]; exact c
    · obtain ⟨v, rfl, rfl, hp⟩ := h
      rw [len_ref, List.take_length] at hp
      rw [fin hp] at q
      exact q
theorem sc_Linside : FnScope ["_law_members", "_law_marking_here", "_law_member"] ["_law_members", "_law_marking_here"] (defScope sLinside) := ⟨rfl, rfl, rfl, by decide +kernel, rfl, by decide +kernel, by decide +kernel⟩
theorem ok_Linside (F : Stands K mg "_law_inside" sLinside ["_law_members", "_law_marking_here"] f fd) (C : Has P w K mg base "_law_covers" ["_law_first", "_law_second"] 1 spCovers) : Has P w K mg base "_law_inside" ["_law_members", "_law_marking_here"] 2 (spInside K) := by
  obtain ⟨_, _, Gcovers, mcovers, kcovers, bcovers⟩ := C
  refine ⟨f, fd, F.1.ok sc_Linside (fun vs H Q E h => ?_) (fun cdv A outer s H vs Q E hr h => ?_), F.2.1, F.1.kp, F.2.2⟩
  · obtain ⟨l, b, ks, y, rfl, _⟩ := h
    rfl
  obtain ⟨l, b, ks, y, rfl, hl, hk, hy, hn, hz, q⟩ := h
  refine ⟨_, pss_cons (ps_for PassesOwn.never rfl (pi_or (pi_list (pv 0)) (pi_tup (pv 0))) (pg_name (i := 2) sc_Linside.nd rfl (.inl rfl))
      (pss_one (ps_if (pt_val (pe_call Gcovers hr rfl mcovers kcovers bcovers .nil pass0 (pa_cons (pv 1) (pa_cons (pv 2) pa_nil))))
        (pss_one (ps_ret pe_bl)) pss_nil)))
    (pss_one (ps_ret pe_bl)), ?_⟩
  have go : ∀ (i : Nat) (p : Addr × List Int), ks[i]? = some p → p ∈ ks := fun i p h => List.mem_of_getElem? h
  have fin : (∀ p ∈ ks, cov y p.2 = false) → inC (ks.map (·.2)) y = false := fun h => by
    cases e : inC (ks.map (·.2)) y with
    | false => rfl
    | true =>
      obtain ⟨m, hm, c⟩ := inC_iff.mp e
      obtain ⟨p, hp, e2⟩ := List.mem_map.mp hm
      rw [← e2, h p hp] at c
      cases c
  rcases hl with hl | hl
  · refine .inl ⟨_, rfl, l, rfl, ⟨_, hl⟩, for_list (K := K) (a := l) (xs := refs ks) (fun i σ H' => ∃ v, σ = [some (.ref l), some (.ref b), v] ∧ H' = H ∧ ∀ p ∈ ks.take i, cov y p.2 = false) ⟨none, rfl, rfl, fun p h => absurd h (by simp)⟩ (fun i σ H' _ h => ?_) (fun i x σ H' hx h => ?_) fun σ H' h => ?_⟩
    · obtain ⟨v, _, rfl, _⟩ := h
      exact hl
    · obtain ⟨v, rfl, rfl, hp⟩ := h
      obtain ⟨p, e, rfl⟩ := ref_at hx
      refine ⟨_, rfl, _, rfl, b, p.1, y, p.2, rfl, hy, hk p (go i p e), hz, Nat.le_of_eq (hn p (go i p e)).symm, _, rfl, ?_⟩
      cases c : cov y p.2 with
      | true =>
        refine iteT ?_
        rw [inC_iff.mpr ⟨p.2, List.mem_map.mpr ⟨p, go i p e, rfl⟩, c⟩] at q
        exact q
      | false =>
        refine iteF ⟨_, rfl, rfl, fun r hr => ?_⟩
        rw [take_succ' e] at hr
        rcases List.mem_append.mp hr with z | z
        · exact hp r z
        · rw [List.mem_singleton.mp z]; exact c
    · obtain ⟨v, rfl, rfl, hp⟩ := h
      rw [len_ref, List.take_length] at hp
      rw [fin hp] at q
      exact q
  · refine .inr ⟨_, rfl, l, rfl, ⟨_, hl⟩, for_tup (K := K) (a := l) (xs := refs ks) (fun i σ H' => ∃ v, σ = [some (.ref l), some (.ref b), v] ∧ H' = H ∧ ∀ p ∈ ks.take i, cov y p.2 = false) ⟨none, rfl, rfl, fun p h => absurd h (by simp)⟩ (fun i σ H' _ h => ?_) (fun i x σ H' hx h => ?_) fun σ H' h => ?_⟩
    · obtain ⟨v, _, rfl, _⟩ := h
      exact hl
    · obtain ⟨v, rfl, rfl, hp⟩ := h
      obtain ⟨p, e, rfl⟩ := ref_at hx
      refine ⟨_, rfl, _, rfl, b, p.1, y, p.2, rfl, hy, hk p (go i p e), hz, Nat.le_of_eq (hn p (go i p e)).symm, _, rfl, ?_⟩
      cases c : cov y p.2 with
      | true =>
        refine iteT ?_
        rw [inC_iff.mpr ⟨p.2, List.mem_map.mpr ⟨p, go i p e, rfl⟩, c⟩] at q
        exact q
      | false =>
        refine iteF ⟨_, rfl, rfl, fun r hr => ?_⟩
        rw [take_succ' e] at hr
        rcases List.mem_append.mp hr with z | z
        · exact hp r z
        · rw [List.mem_singleton.mp z]; exact c
    · obtain ⟨v, rfl, rfl, hp⟩ := h
      rw [len_ref, List.take_length] at hp
      rw [fin hp] at q
      exact q
end
end K16
namespace K16
open PySem L2
/-- the draws left: a list of ints, whichever -/
def Dr (H : Hp) (d : Addr) : Prop := ∃ ds : List Int, Li H d ds
/-- one draw below the limit -/
def sp_Ltake : Sp := fun vs H Q _ => ∃ (d : Addr) (n : Int), vs = [.ref d, .int n] ∧ Dr H d ∧ 0 < n ∧ ∀ (v : Int) (H' : Hp), 0 ≤ v → v < n → SameD d H H' → Dr H' d → Q (.int v) H'
def sp_Lis_integer : Sp := fun vs H Q _ => ∃ i : Int, vs = [.int i] ∧ Q (.bl true) H
def sp_Lnumbers : Sp := fun vs H Q _ => ∃ (a : Addr) (m : List Int) (n : Nat) (lo : Int), vs = [.ref a, .int (n : Int), .int lo] ∧ Tu H a m ∧ m.length = n ∧ (∀ i, i < n → lo ≤ gt m i) ∧ Q (.bl true) H
def sp_Lall_numbers : Sp := fun vs H Q _ => ∃ (l : Addr) (ks : List (Addr × List Int)) (n : Nat) (lo : Int), vs = [.ref l, .int (n : Int), .int lo] ∧ H l = some (.lst (refs ks)) ∧ Tus H ks ∧ (∀ p ∈ ks, p.2.length = n ∧ ∀ i, i < n → lo ≤ gt p.2 i) ∧ Q (.bl true) H
/-- a new marking of drawn numbers -/
def sp_Lmarking : Sp := fun vs H Q _ => ∃ (d : Addr) (n : Nat) (k : Int), vs = [.ref d, .int (n : Int), .int k] ∧ Dr H d ∧ n ≤ 1000 ∧ 0 ≤ k ∧
  ∀ (a : Addr) (m : List Int) (H' : Hp), SameD d H H' → Dr H' d → Tu H' a m → m.length = n → (∀ i, i < n → 0 ≤ gt m i ∧ gt m i ≤ k) → Q (.ref a) H'
def sp_Lmarkings : Sp := fun vs H Q _ => ∃ (d : Addr) (n c : Nat) (k : Int), vs = [.ref d, .int (n : Int), .int (c : Int), .int k] ∧ Dr H d ∧ n ≤ 1000 ∧ c ≤ 1000 ∧ 0 ≤ k ∧
  ∀ (l : Addr) (ks : List (Addr × List Int)) (H' : Hp), SameD d H H' → Dr H' d → H l = none → l ≠ d → H' l = some (.lst (refs ks)) → Tus H' ks → ks.length = c → (∀ p ∈ ks, p.2.length = n ∧ ∀ i, i < n → 0 ≤ gt p.2 i ∧ gt p.2 i ≤ k) → Q (.ref l) H'
section
variable {P : Program} {w : World} {K : PySem.W.Frag} {mg : Str → Option Value} {base : Heap} {f : Addr} {fd : FuncData}
theorem sc_Ltake : FnScope ["_law_draws_here", "_law_limit"] ["_law_draws_here", "_law_limit"] (defScope sLtake) := ⟨rfl, rfl, rfl, by decide +kernel, rfl, by decide +kernel, by decide +kernel⟩
theorem ok_Ltake (F : Stands K mg "_law_take" sLtake ["_law_draws_here", "_law_limit"] f fd) (T : Blt mg) : Has P w K mg base "_law_take" ["_law_draws_here", "_law_limit"] 1 sp_Ltake := by
  refine ⟨f, fd, F.1.ok sc_Ltake (fun vs H Q E h => ?_) (fun cdv A outer s H vs Q E hr h => ?_), F.2.1, F.1.kp, F.2.2⟩
  · obtain ⟨d, n, rfl, _⟩ := h
    rfl
  obtain ⟨d, n, rfl, ⟨ds, hd⟩, hn, q⟩ := h
  refine ⟨_, pss_cons (ps_if (pt_cmpR op_eq (pe_callB call_len_seq rfl T.len PySem.boot_len (pa_cons (pv 0) pa_nil)) pe_int (nomark _))
      (pss_one (ps_ret pe_int)) pss_nil)
    (pss_one (ps_ret (pe_op op_mod (pe_callTy call_int1 rfl T.int (by decide +kernel) (pa_cons (pe_bm0 PySem.F.plainAttrs_list PySem.F.slot_list_pop PySem.F.type_list_pop mt_pop (pv 0)) pa_nil)) (pv 1)))), ?_⟩
  refine ⟨_, rfl, d, _, rfl, .inl (SqL.of hd), rfl, _, rfl, ?_⟩
  refine ite2 (fun c => ?_) (fun c => ?_)
  · exact q 0 H (Int.le_refl 0) hn (SameD.refl d H) ⟨ds, hd⟩
  · have hne : 0 < ds.length := by
      rcases Nat.eq_zero_or_pos ds.length with z | z
      · exact absurd (by rw [len_int, z]; rfl) c
      · exact z
    refine ⟨_, rfl, .inl ⟨rfl, _, SqL.of hd⟩, d, _, V.int (gt ds (ds.length - 1)), rfl, rfl, hd, ?_, ?_⟩
    · rw [len_int, List.getElem?_map, List.getElem?_eq_getElem (by omega), ← gt_lt]
      rfl
    · refine .inl ⟨_, rfl, _, rfl, _, _, rfl, rfl, hn, ?_⟩
      refine q _ _ (Int.emod_nonneg _ (by omega)) (Int.emod_lt_of_pos _ hn) (SameD.put _) ⟨ds.dropLast, ?_⟩
      show upd H d _ d = _
      rw [upd_same, List.map_dropLast]
theorem sc_Lis_integer : FnScope ["_law_actual"] ["_law_actual"] (defScope sLis_integer) := ⟨rfl, rfl, rfl, by decide +kernel, rfl, by decide +kernel, by decide +kernel⟩
theorem ok_Lis_integer (F : Stands K mg "_law_is_integer" sLis_integer ["_law_actual"] f fd) (T : Blt mg) : Has P w K mg base "_law_is_integer" ["_law_actual"] 1 sp_Lis_integer := by
  refine ⟨f, fd, F.1.ok sc_Lis_integer (fun vs H Q E h => ?_) (fun cdv A outer s H vs Q E hr h => ?_), F.2.1, F.1.kp, F.2.2⟩
  · obtain ⟨i, rfl, _⟩ := h
    rfl
  obtain ⟨i, rfl, q⟩ := h
  refine ⟨_, pss_one (ps_ret (pe_and (pe_callB call_isi rfl T.isinstance (by decide +kernel) (pa_cons (pv 0) (pa_cons (pe_bltn (v := .ty "int") rfl T.int (by decide +kernel) rfl) pa_nil))) (pe_one (pe_not (pe_callB call_isi rfl T.isinstance (by decide +kernel) (pa_cons (pv 0) (pa_cons (pe_bltn (v := .ty "bool") rfl T.bool (by decide +kernel) rfl) pa_nil))))))), ?_⟩
  refine ⟨_, rfl, _, _, .type "int", _, true, rfl, .ty "int", .base (.int i), kit_ty (by decide +kernel), _, rfl, iteT ?_⟩
  refine ⟨_, rfl, _, _, .type "int", _, false, rfl, .ty "bool", .base (.int i), kit_ty (by decide +kernel), _, rfl, q⟩
theorem sc_Lnumbers : FnScope ["_law_actual", "_law_size", "_law_low", "_law_item"] ["_law_actual", "_law_size", "_law_low"] (defScope sLnumbers) := ⟨rfl, rfl, rfl, by decide +kernel, rfl, by decide +kernel, by decide +kernel⟩
theorem ok_Lnumbers (F : Stands K mg "_law_numbers" sLnumbers ["_law_actual", "_law_size", "_law_low"] f fd) (T : Blt mg) (CLis_integer : Has P w K mg base "_law_is_integer" ["_law_actual"] 1 sp_Lis_integer) : Has P w K mg base "_law_numbers" ["_law_actual", "_law_size", "_law_low"] 2 sp_Lnumbers := by
  obtain ⟨_, _, GLis_integer, mLis_integer, kLis_integer, bLis_integer⟩ := CLis_integer
  refine ⟨f, fd, F.1.ok sc_Lnumbers (fun vs H Q E h => ?_) (fun cdv A outer s H vs Q E hr h => ?_), F.2.1, F.1.kp, F.2.2⟩
  · obtain ⟨a, m, n, lo, rfl, _⟩ := h
    rfl
  obtain ⟨a, m, n, lo, rfl, ha, hn, hp, q⟩ := h
  refine ⟨_, pss_cons (ps_if (PW.pt (pw_or (pt_not (pt_val (pe_callB call_isi rfl T.isinstance (by decide +kernel) (pa_cons (pv 0) (pa_cons (pe_bltn (v := .ty "tuple") rfl T.tuple (by decide +kernel) rfl) pa_nil))))) (pw_or1 (pt_cmpR op_ne (pe_callB call_len_seq rfl T.len PySem.boot_len (pa_cons (pv 0) pa_nil)) (pv 1) (nomark _)))))
      (pss_one (ps_ret pe_bl)) pss_nil)
    (pss_cons (ps_for PassesOwn.never rfl (pi_tup (pv 0)) (pg_name (i := 3) sc_Lnumbers.nd rfl (.inl rfl))
      (pss_one (ps_if (PW.pt (pw_or (pt_not (pt_val (pe_call GLis_integer hr rfl mLis_integer kLis_integer bLis_integer .nil pass0 (pa_cons (pv 3) pa_nil)))) (pw_or1 (pt_cmpR op_lt (pv 3) (pv 2) (nomark _)))))
        (pss_one (ps_ret pe_bl)) pss_nil)))
    (pss_one (ps_ret pe_bl))), ?_⟩
  refine ⟨_, rfl, _, _, .type "tuple", _, true, rfl, .ty "tuple", .base (.tup ha), kit_ty (by decide +kernel), _, rfl, iteF ?_⟩
  refine ⟨_, rfl, a, _, rfl, .inr (SqT.of ha), _, rfl, rfl, _, rfl, ?_⟩
  refine iteNS (by rw [len_int, hn]) ?_
  refine ⟨_, rfl, a, rfl, ⟨_, SqT.of ha⟩, for_tup (K := K) (a := a) (xs := m.map V.int) (fun i σ H' => ∃ v, σ = [some (.ref a), some (.int (n : Int)), some (.int lo), v] ∧ H' = H) ⟨none, rfl, rfl⟩ (fun i σ H' _ h => ?_) (fun i x σ H' hx h => ?_) fun σ H' h => ?_⟩
  · obtain ⟨v, _, rfl⟩ := h
    exact SqT.of ha
  · obtain ⟨v, rfl, rfl⟩ := h
    obtain ⟨hi, rfl⟩ := int_at hx
    refine ⟨_, rfl, _, rfl, _, rfl, iteF ?_⟩
    have := hp i (hn ▸ hi)
    refine ⟨_, rfl, _, rfl, _, _, rfl, rfl, _, rfl, ?_⟩
    rw [decide_eq_false (by omega)]
    exact iteF ⟨_, rfl, rfl⟩
  · obtain ⟨v, rfl, rfl⟩ := h
    exact q
theorem sc_Lall_numbers : FnScope ["_law_actual", "_law_size", "_law_low", "_law_item"] ["_law_actual", "_law_size", "_law_low"] (defScope sLall_numbers) := ⟨rfl, rfl, rfl, by decide +kernel, rfl, by decide +kernel, by decide +kernel⟩
theorem ok_Lall_numbers (F : Stands K mg "_law_all_numbers" sLall_numbers ["_law_actual", "_law_size", "_law_low"] f fd) (T : Blt mg) (CLnumbers : Has P w K mg base "_law_numbers" ["_law_actual", "_law_size", "_law_low"] 2 sp_Lnumbers) : Has P w K mg base "_law_all_numbers" ["_law_actual", "_law_size", "_law_low"] 3 sp_Lall_numbers := by
  obtain ⟨_, _, GLnumbers, mLnumbers, kLnumbers, bLnumbers⟩ := CLnumbers
  refine ⟨f, fd, F.1.ok sc_Lall_numbers (fun vs H Q E h => ?_) (fun cdv A outer s H vs Q E hr h => ?_), F.2.1, F.1.kp, F.2.2⟩
  · obtain ⟨l, ks, n, lo, rfl, _⟩ := h
    rfl
  obtain ⟨l, ks, n, lo, rfl, hl, hk, hp, q⟩ := h
  refine ⟨_, pss_cons (ps_if (pt_not (pt_val (pe_callB call_isi rfl T.isinstance (by decide +kernel) (pa_cons (pv 0) (pa_cons (pe_bltn (v := .ty "list") rfl T.list (by decide +kernel) rfl) pa_nil)))))
      (pss_one (ps_ret pe_bl)) pss_nil)
    (pss_cons (ps_for PassesOwn.never rfl (pi_list (pv 0)) (pg_name (i := 3) sc_Lall_numbers.nd rfl (.inl rfl))
      (pss_one (ps_if (pt_not (pt_val (pe_call GLnumbers hr rfl mLnumbers kLnumbers bLnumbers .nil pass0 (pa_cons (pv 3) (pa_cons (pv 1) (pa_cons (pv 2) pa_nil))))))
        (pss_one (ps_ret pe_bl)) pss_nil)))
    (pss_one (ps_ret pe_bl))), ?_⟩
  refine ⟨_, rfl, _, _, .type "list", _, true, rfl, .ty "list", .base (.lst hl), kit_ty (by decide +kernel), _, rfl, iteF ?_⟩
  refine ⟨_, rfl, l, rfl, ⟨_, SqL.of hl⟩, for_list (K := K) (a := l) (xs := refs ks) (fun i σ H' => ∃ v, σ = [some (.ref l), some (.int (n : Int)), some (.int lo), v] ∧ H' = H) ⟨none, rfl, rfl⟩ (fun i σ H' _ h => ?_) (fun i x σ H' hx h => ?_) fun σ H' h => ?_⟩
  · obtain ⟨v, _, rfl⟩ := h
    exact SqL.of hl
  · obtain ⟨v, rfl, rfl⟩ := h
    obtain ⟨p, e, rfl⟩ := ref_at hx
    have hm := List.mem_of_getElem? e
    refine ⟨_, rfl, _, rfl, _, rfl, p.1, p.2, n, lo, rfl, hk p hm, (hp p hm).1, (hp p hm).2, _, rfl, ?_⟩
    exact iteF ⟨_, rfl, rfl⟩
  · obtain ⟨v, rfl, rfl⟩ := h
    exact q
theorem sc_Lmarking : FnScope ["_law_draws_here", "_law_size", "_law_most", "_law_k"] ["_law_draws_here", "_law_size", "_law_most"] (defScope sLmarking) := ⟨rfl, rfl, rfl, by decide +kernel, rfl, by decide +kernel, by decide +kernel⟩
theorem ok_Lmarking (F : Stands K mg "_law_marking" sLmarking ["_law_draws_here", "_law_size", "_law_most"] f fd) (T : Blt mg) (CLtake : Has P w K mg base "_law_take" ["_law_draws_here", "_law_limit"] 1 sp_Ltake) : Has P w K mg base "_law_marking" ["_law_draws_here", "_law_size", "_law_most"] 2 sp_Lmarking := by
  obtain ⟨_, _, GLtake, mLtake, kLtake, bLtake⟩ := CLtake
  refine ⟨f, fd, F.1.ok sc_Lmarking (fun vs H Q E h => ?_) (fun cdv A outer s H vs Q E hr h => ?_), F.2.1, F.1.kp, F.2.2⟩
  · obtain ⟨d, n, k, rfl, _⟩ := h
    rfl
  obtain ⟨d, n, k, rfl, hd, hn, hk, q⟩ := h
  refine ⟨_, pss_one (ps_ret (pe_callTy call_tuple_of rfl T.tuple (by decide +kernel) (pa_cons (pe_lc (own := [("_law_k", 3)]) (g := gName 3) (tt := tYes) rfl sc_Lmarking.nd (pi_range1 rfl T.range (pa_cons (pv 1) pa_nil)) (blkOk_by (own := [("_law_k", 3)]) (N := ["_law_draws_here", "_law_size", "_law_most", "_law_k"]) (sc := defScope sLmarking) (by decide +kernel)) (fun _ _ _ _ _ => pg_name (i := 3) sc_Lmarking.nd rfl (Or.inl rfl)) (fun _ _ _ _ _ => pts_nil) (fun _ _ _ _ _ => (pe_call GLtake hr rfl mLtake kLtake bLtake .nil pass0 (pa_cons (pv 0) (pa_cons (pe_op op_add (pv 2) pe_int) pa_nil))))) pa_nil))), ?_⟩
  refine ⟨_, rfl, _, rfl, by omega, by omega, fun D hD => lc_range (lo := 0) (n := n) (fun i H' => ∃ m : List Int, H D = none ∧ D ≠ d ∧ SameD d H H' ∧ Dr H' d ∧ Li H' D m ∧ m.length = i ∧ ∀ j, j < i → 0 ≤ gt m j ∧ gt m j ≤ k) ?_ (fun i H' hi h => ?_) fun H' h => ?_⟩
  · have nd : D ≠ d := fun e => by
      obtain ⟨ds, h⟩ := hd
      rw [e, h] at hD
      cases hD
    obtain ⟨ds, h⟩ := id hd
    exact ⟨[], hD, nd, same_but (same_new hD _), ⟨ds, (same_new hD _) _ _ h⟩, upd_same, rfl, fun j hj => absurd hj (Nat.not_lt_zero _)⟩
  · obtain ⟨m, nD, ne, sd, dr, hm, hl, hp⟩ := h
    refine ⟨rfl, ?_⟩
    refine ⟨_, rfl, _, rfl, _, _, rfl, rfl, d, _, rfl, dr, by omega, fun v H2 v0 v1 s2 dr2 => ?_⟩
    refine ⟨_, s2 D _ hm ne, by rw [len_int]; exact small1000 (by omega), m ++ [v], nD, ne, (sd.trans s2).mut nD, ?_, ?_, by simp [hl], fun j hj => ?_⟩
    · obtain ⟨ds, h⟩ := dr2
      exact ⟨ds, by show upd _ _ _ _ = _; rw [upd_ne ne.symm]; exact h⟩
    · show upd _ _ _ _ = _
      rw [upd_same, List.map_append]
      rfl
    · by_cases c : j < m.length
      · have e : gt (m ++ [v]) j = gt m j := by simp [gt, List.getD_eq_getElem?_getD, List.getElem?_append_left c]
        rw [e]
        exact hp j (by omega)
      · have e : gt (m ++ [v]) j = v := by simp [gt, List.getD_eq_getElem?_getD, List.getElem?_append_right (Nat.le_of_not_lt c), show j - m.length = 0 by omega]
        rw [e]
        omega
  · obtain ⟨m, nD, ne, sd, dr, hm, hl, hp⟩ := h
    refine ⟨D, _, rfl, .inl ⟨SqL.of hm, fun a ha => ?_⟩⟩
    have sn := same_new ha (.tup (m.map V.int))
    obtain ⟨ds, h⟩ := dr
    exact q a m _ (sd.trans (same_but sn)) ⟨ds, sn _ _ h⟩ upd_same hl hp
theorem sc_Lmarkings : FnScope ["_law_draws_here", "_law_size", "_law_count_here", "_law_most", "_law_k"] ["_law_draws_here", "_law_size", "_law_count_here", "_law_most"] (defScope sLmarkings) := ⟨rfl, rfl, rfl, by decide +kernel, rfl, by decide +kernel, by decide +kernel⟩
theorem ok_Lmarkings (F : Stands K mg "_law_markings" sLmarkings ["_law_draws_here", "_law_size", "_law_count_here", "_law_most"] f fd) (T : Blt mg) (CLmarking : Has P w K mg base "_law_marking" ["_law_draws_here", "_law_size", "_law_most"] 2 sp_Lmarking) : Has P w K mg base "_law_markings" ["_law_draws_here", "_law_size", "_law_count_here", "_law_most"] 3 sp_Lmarkings := by
  obtain ⟨_, _, GLmarking, mLmarking, kLmarking, bLmarking⟩ := CLmarking
  refine ⟨f, fd, F.1.ok sc_Lmarkings (fun vs H Q E h => ?_) (fun cdv A outer s H vs Q E hr h => ?_), F.2.1, F.1.kp, F.2.2⟩
  · obtain ⟨d, n, c, k, rfl, _⟩ := h
    rfl
  obtain ⟨d, n, c, k, rfl, hd, hn, hc, hk, q⟩ := h
  refine ⟨_, pss_one (ps_ret (pe_lc (own := [("_law_k", 4)]) (g := gName 4) (tt := tYes) rfl sc_Lmarkings.nd (pi_range1 rfl T.range (pa_cons (pv 2) pa_nil)) (blkOk_by (own := [("_law_k", 4)]) (N := ["_law_draws_here", "_law_size", "_law_count_here", "_law_most", "_law_k"]) (sc := defScope sLmarkings) (by decide +kernel)) (fun _ _ _ _ _ => pg_name (i := 4) sc_Lmarkings.nd rfl (Or.inl rfl)) (fun _ _ _ _ _ => pts_nil) (fun _ _ _ _ _ => (pe_call GLmarking hr rfl mLmarking kLmarking bLmarking .nil pass0 (pa_cons (pv 0) (pa_cons (pv 1) (pa_cons (pv 3) pa_nil))))))), ?_⟩
  refine ⟨_, rfl, _, rfl, by omega, by omega, fun D hD => lc_range (lo := 0) (n := c) (fun i H' => ∃ ks : List (Addr × List Int), H D = none ∧ D ≠ d ∧ SameD d H H' ∧ Dr H' d ∧ H' D = some (.lst (refs ks)) ∧ Tus H' ks ∧ ks.length = i ∧ ∀ p ∈ ks, p.2.length = n ∧ ∀ j, j < n → 0 ≤ gt p.2 j ∧ gt p.2 j ≤ k) ?_ (fun i H' hi h => ?_) fun H' h => ?_⟩
  · have nd : D ≠ d := fun e => by
      obtain ⟨ds, h⟩ := hd
      rw [e, h] at hD
      cases hD
    obtain ⟨ds, h⟩ := id hd
    exact ⟨[], hD, nd, same_but (same_new hD _), ⟨ds, (same_new hD _) _ _ h⟩, upd_same, fun p hp => absurd hp (by simp), rfl, fun p hp => absurd hp (by simp)⟩
  · obtain ⟨ks, nD, ne, sd, dr, hm, ht, hl, hp0⟩ := h
    refine ⟨rfl, ?_⟩
    refine ⟨_, rfl, _, rfl, _, rfl, d, n, k, rfl, dr, hn, hk, fun a m H2 s2 dr2 ta lm pm => ?_⟩
    have tne : ∀ {b : Addr} {x : List Int}, Tu H2 b x → b ≠ D := fun {b x} h e => by
      have h' : H2 D = some (.lst (refs ks)) := s2 D _ hm ne
      rw [Tu, e, h'] at h
      cases h
    have tks : Tus H2 ks := fun p hp => s2 _ _ (ht p hp) (fun e => by
      obtain ⟨ds, h⟩ := dr
      have := ht p hp
      rw [Tu, e, h] at this
      cases this)
    refine ⟨_, s2 D _ hm ne, by rw [len_ref]; exact small1000 (by omega), ks ++ [(a, m)], nD, ne, (sd.trans s2).mut nD, ?_, ?_, fun p hp => ?_, by simp [hl], fun p hp => ?_⟩
    · obtain ⟨ds, h⟩ := dr2
      exact ⟨ds, by show upd _ _ _ _ = _; rw [upd_ne ne.symm]; exact h⟩
    · rw [upd_same, refs, refs, List.map_append]
      rfl
    · rcases List.mem_append.mp hp with z | z
      · show upd _ _ _ _ = _
        rw [upd_ne (tne (tks p z))]
        exact tks p z
      · rw [List.mem_singleton.mp z]
        show upd _ _ _ _ = _
        rw [upd_ne (tne ta)]
        exact ta
    · rcases List.mem_append.mp hp with z | z
      · exact hp0 p z
      · rw [List.mem_singleton.mp z]
        exact ⟨lm, pm⟩
  · obtain ⟨ks, nD, ne, sd, dr, hm, ht, hl, hp⟩ := h
    exact q D ks H' sd dr nD ne hm ht hl hp
end
end K16
namespace K16
open PySem L2
/-- a list of new lists that grows at F; H is what stood ahead -/
structure Grow (F : Addr) (H H' : Hp) (ks : List (Addr × List Int)) : Prop where
  same : Same H H'
  lst : H' F = some (.lst (refs ks))
  its : Lis H' ks
  new : ∀ p ∈ ks, H p.1 = none ∧ p.1 ≠ F
theorem Grow.start {F : Addr} {H : Hp} (hF : H F = none) : Grow F H (upd H F (.lst [])) [] := ⟨same_new hF _, upd_same, fun p h => absurd h (by simp), fun p h => absurd h (by simp)⟩
theorem Grow.up {F : Addr} {H H' H2 : Hp} {ks : List (Addr × List Int)} (g : Grow F H H' ks) (s : Same H' H2) : Grow F H H2 ks := ⟨g.same.trans s, s _ _ g.lst, g.its.up s, g.new⟩
theorem Grow.push {F : Addr} {H H' : Hp} {ks : List (Addr × List Int)} (hF : H F = none) (g : Grow F H H' ks) {t : Addr} {m : List Int} (ht : Li H' t m) (nt : H t = none) (ne : t ≠ F) : Grow F H (upd H' F (.lst (refs ks ++ [.ref t]))) (ks ++ [(t, m)]) := by
  refine ⟨same_mut g.same hF, by rw [upd_same, refs, refs, List.map_append]; rfl, fun p hp => ?_, fun p hp => ?_⟩
  · show upd _ _ _ _ = _
    rcases List.mem_append.mp hp with z | z
    · rw [upd_ne (g.new p z).2]
      exact g.its p z
    · rw [List.mem_singleton.mp z, upd_ne ne]
      exact ht
  · rcases List.mem_append.mp hp with z | z
    · exact g.new p z
    · rw [List.mem_singleton.mp z]
      exact ⟨nt, ne⟩
/-- a new list of new lists, these rows; d calls are allowed -/
def sp_sharings (K : PySem.W.Frag) (d : Nat) : Sp := fun vs H Q _ => ∃ (num : Int) (b : Addr) (xs : List V), vs = [.int num, .ref b] ∧ SqL K H b xs ∧ xs.length < d ∧ xs.length ≤ 4 ∧ 0 ≤ num ∧ num ≤ 12 ∧
  ∀ (r : Addr) (ks : List (Addr × List Int)) (H' : Hp), H r = none → Grow r H H' ks → ks.map (·.2) = shar xs.length num → Q (.ref r) H'
def sp_sources : Sp := fun vs H Q _ => ∃ (a : Addr) (mv : List Int) (q : Int), vs = [.ref a, .int q] ∧ Tu H a mv ∧ mv.length ≤ 1000 ∧
  ∀ (r : Addr) (H' : Hp), Same H H' → H r = none → Li H' r ((srcs mv q).map Int.ofNat) → Q (.ref r) H'
theorem flat_snoc {α β : Type} {g : α → List β} {l : List α} {x : α} : (l ++ [x]).flatMap g = l.flatMap g ++ g x := by simp
section
variable {P : Program} {w : World} {K : PySem.W.Frag} {mg : Str → Option Value} {base : Heap} {f : Addr} {fd : FuncData}
theorem none_shar : FnOk P w K mg base CX0 0 f fd ["number", "places"] (sp_sharings K 0) := by
  have no : ∀ vs H Q E, ¬ sp_sharings K 0 vs H Q E := fun vs H Q E h => by
    obtain ⟨_, _, xs, _, _, h1, _⟩ := h
    omega
  exact ⟨fun vs H Q E h => absurd h (no vs H Q E), fun A outer s H args us vs Q E _ _ _ _ h => absurd h (no vs H Q E)⟩
theorem sc_sharings : FnScope ["number", "places", "found", "first", "rest"] ["number", "places"] (defScope ssharings) := ⟨rfl, rfl, rfl, by decide +kernel, rfl, by decide +kernel, by decide +kernel⟩
theorem ok_shar {d : Nat} (F : Stands K mg "sharings" ssharings ["number", "places"] f fd) (T : Blt mg) (Gs : FnOk P w K mg base CX0 d f fd ["number", "places"] (sp_sharings K d)) : FnOk P w K mg base CX0 (d + 1) f fd ["number", "places"] (sp_sharings K (d + 1)) := by
  refine F.1.ok sc_sharings (fun vs H Q E h => ?_) (fun cdv A outer s H vs Q E hr h => ?_)
  · obtain ⟨num, b, xs, rfl, _⟩ := h
    rfl
  obtain ⟨num, b, xs, rfl, hb, hd, h4, h0, h12, q⟩ := h
  have ms := F.2.1
  have ks := F.1.kp
  have bs := F.2.2
  refine ⟨_, pss_cons (ps_if (pt_cmpR op_eq (pe_callB call_len_seq rfl T.len PySem.boot_len (pa_cons (pv 1) pa_nil)) pe_int (nomark _))
      (pss_cons (ps_if (pt_cmpR op_gt (pv 0) pe_int (nomark _))
        (pss_one (ps_ret (pe_lst pa_nil))) pss_nil)
      (pss_one (ps_ret (pe_lst (pa_cons (pe_lst pa_nil) pa_nil))))) pss_nil)
    (pss_cons (ps_if (pt_cmpR op_eq (pe_callB call_len_seq rfl T.len PySem.boot_len (pa_cons (pv 1) pa_nil)) pe_int (nomark _))
      (pss_one (ps_ret (pe_lst (pa_cons (pe_lst (pa_cons (pv 0) pa_nil)) pa_nil)))) pss_nil)
    (pss_cons (ps_set (i := 2) sc_sharings.nd rfl (.inl rfl) (pe_lst pa_nil))
    (pss_cons (ps_for PassesOwn.never rfl (pi_range1 rfl T.range (pa_cons (pe_op op_add (pv 0) pe_int) pa_nil)) (pg_name (i := 3) sc_sharings.nd rfl (.inl rfl))
      (pss_one (ps_for PassesOwn.never rfl (pi_list (pe_call Gs hr rfl ms ks bs .nil pass0 (pa_cons (pe_op op_sub (pv 0) (pv 3)) (pa_cons (pe_slice sl_list (pv 1) (po_some pe_int) po_none) pa_nil)))) (pg_name (i := 4) sc_sharings.nd rfl (.inl rfl))
        (pss_one (ps_expr (pe_bm PySem.F.plainAttrs_list PySem.F.slot_list_append PySem.F.type_list_append mt_append (pv 2) (pa_cons (pe_op op_cat (pe_lst (pa_cons (pv 3) pa_nil)) (pv 4)) pa_nil)))))))
    (pss_one (ps_ret (pv 2)))))), ?_⟩
  refine ⟨_, rfl, b, xs, rfl, .inl hb, rfl, _, rfl, ?_⟩
  have z0 : 0 ≤ sizeLine := Nat.zero_le _
  have z1 : 1 ≤ sizeLine := by rw [line_eq]; omega
  refine ite2 (fun c => ?_) (fun c => ?_)
  · have e0 : xs.length = 0 := by simpa using c
    refine ⟨_, rfl, _, _, rfl, rfl, _, rfl, ?_⟩
    refine ite2 (fun c1 => ?_) (fun c1 => ?_)
    · have c1' : 0 < num := of_decide_eq_true c1
      refine ⟨z0, fun r hr' => q r [] _ hr' (Grow.start hr') ?_⟩
      rw [e0]; simp [shar, c1']
    · have c1' : ¬ 0 < num := fun z => c1 (decide_eq_true z)
      refine ⟨z0, fun p hp => ⟨z1, fun r hr' => ?_⟩⟩
      have s1 := same_new hp (.lst [])
      have npr : p ≠ r := ne_of_none upd_same hr'
      refine q r [(p, [])] _ (s1.free hr') ⟨s1.trans (same_new hr' _), upd_same, fun x hx => ?_, fun x hx => ?_⟩ (by rw [e0]; simp [shar, c1'])
      · rw [List.mem_singleton.mp hx]
        exact (same_new hr' _) p _ upd_same
      · rw [List.mem_singleton.mp hx]
        exact ⟨hp, npr⟩
  · have e0 : xs.length ≠ 0 := fun e => c (by rw [e]; rfl)
    refine ⟨_, rfl, b, xs, rfl, .inl hb, rfl, _, rfl, ?_⟩
    refine ite2 (fun c1 => ?_) (fun c1 => ?_)
    · have e1 : xs.length = 1 := by
        have := of_decide_eq_true c1
        injection this with this
        omega
      refine ⟨_, rfl, z1, fun p hp => ⟨z1, fun r hr' => ?_⟩⟩
      have s1 := same_new hp (.lst [.int num])
      have npr : p ≠ r := ne_of_none upd_same hr'
      refine q r [(p, [num])] _ (s1.free hr') ⟨s1.trans (same_new hr' _), upd_same, fun x hx => ?_, fun x hx => ?_⟩ (by rw [e1]; simp [shar])
      · rw [List.mem_singleton.mp hx]
        exact (same_new hr' _) p _ upd_same
      · rw [List.mem_singleton.mp hx]
        exact ⟨hp, npr⟩
    · have e1 : xs.length ≠ 1 := fun e => c1 (by rw [e]; rfl)
      obtain ⟨k, ek⟩ : ∃ k, xs.length = k + 2 := ⟨xs.length - 2, by omega⟩
      have hk : 13 ^ (k + 1) ≤ 2197 := Nat.le_trans (Nat.pow_le_pow_right (by decide) (by omega : k + 1 ≤ 3)) (by decide)
      refine ⟨z0, fun L hL => ?_⟩
      refine ⟨_, rfl, _, _, rfl, rfl, _, rfl, by omega, by omega, ?_⟩
      refine for_range (lo := 0) (n := (num + 1).toNat) (fun i σ H2 => ∃ v3 v4 ks, σ = [some (.int num), some (.ref b), some (.ref L), v3, v4] ∧ Grow L H H2 ks ∧ ks.map (·.2) = (List.range i).flatMap fun f : Nat => (shar (k + 1) (num - (f : Int))).map fun r => (f : Int) :: r)
        ⟨none, none, [], rfl, Grow.start hL, rfl⟩ ?_ ?_
      · rintro i σ H2 hi ⟨v3, v4, ks0, rfl, g, e⟩
        rw [Int.zero_add]
        refine ⟨_, rfl, _, rfl, _, _, rfl, rfl, _, rfl, _, rfl, b, xs, rfl, g.same.seq hb, fun p hp => ?_⟩
        have s3 := same_new hp (.lst (cutV xs (some 1) none))
        have g3 := g.up s3
        have ed : (cutV xs (some 1) none).length = k + 1 := by rw [cutV_from1, List.length_drop]; omega
        refine ⟨num - i, p, cutV xs (some 1) none, rfl, SqL.of upd_same, by omega, by omega, by omega, by omega, fun r rs Hc hr2 gr er => ?_⟩
        rw [ed] at er
        have g4 := g3.up gr.same
        have nr : H r = none := g3.same.free hr2
        have nrL : r ≠ L := (ne_of_none g3.lst hr2).symm
        have hrs : ∀ x ∈ rs, x.2.length = k + 1 := fun x hx => ((shar_mem (k + 1) (num - i) x.2 (by omega)).mp (by rw [← er]; exact List.mem_map.mpr ⟨x, hx, rfl⟩)).1
        have hrl : rs.length ≤ 2197 := by
          have := shar_len (k + 1) (num - i) (by omega)
          rw [← er, List.length_map] at this
          omega
        have hkl : ks0.length ≤ i * 2197 := by
          have a := flat_len (f := fun f : Nat => (shar (k + 1) (num - (f : Int))).map fun r => (f : Int) :: r) (b := 2197) (l := List.range i) fun f hf => by
            rw [List.length_map]
            exact Nat.le_trans (shar_len _ _ (by omega)) hk
          rw [← e, List.length_map, List.length_range] at a
          exact a
        refine ⟨r, rfl, ⟨_, SqL.of gr.lst⟩, for_list (K := K) (a := r) (xs := refs rs) (fun j σ H5 => ∃ v5 ks5, σ = [some (.int num), some (.ref b), some (.ref L), some (.int (i : Int)), v5] ∧ SameD L Hc H5 ∧ Grow L H H5 ks5 ∧ ks5.map (·.2) = ks0.map (·.2) ++ (rs.take j).map fun x => (i : Int) :: x.2)
          ⟨v4, ks0, rfl, SameD.refl L Hc, g4, by simp⟩ (fun j σ H5 _ h => ?_) (fun j x σ H5 hx h => ?_) fun σ H5 h => ?_⟩
        · obtain ⟨v5, ks5, _, sd, g5, e5⟩ := h
          exact SqL.of (sd r _ gr.lst nrL)
        · obtain ⟨v5, ks5, rfl, sd, g5, e5⟩ := h
          obtain ⟨x, ex, rfl⟩ := ref_at hx
          have hxm := List.mem_of_getElem? ex
          have hj : j < rs.length := (List.getElem?_eq_some_iff.mp ex).1
          have nxL : x.1 ≠ L := (ne_of_none g3.lst (gr.new x hxm).1).symm
          have hxl : Li H5 x.1 x.2 := sd _ _ (gr.its x hxm) nxL
          have l5 : ks5.length ≤ i * 2197 + j := by
            have := congrArg List.length e5
            rw [List.length_append, List.length_map, List.length_map, List.length_map, List.length_take] at this
            omega
          refine ⟨_, rfl, .inl ⟨rfl, _, SqL.of g5.lst⟩, _, rfl, z1, fun u hu => ?_⟩
          have s6 := same_new hu (.lst [.int (i : Int)])
          refine ⟨_, rfl, u, x.1, _, _, rfl, rfl, upd_same, s6 _ _ hxl, ?_, fun t ht => ?_⟩
          · rw [len_int, hrs x hxm, line_eq]
            show 1 + (k + 1) ≤ _
            omega
          · have s7 := s6.trans (same_new ht (.lst ([V.int (i : Int)] ++ x.2.map V.int)))
            have g7 := g5.up s7
            have nt5 : H5 t = none := s6.free ht
            refine ⟨L, _, _, rfl, rfl, g7.lst, by rw [len_ref, line_eq]; omega, ?_⟩
            refine ⟨_, ks5 ++ [(t, (i : Int) :: x.2)], rfl, (sd.trans (same_but s7)).trans (SameD.put _), Grow.push hL g7 upd_same (g5.same.free nt5) (ne_of_none g5.lst nt5).symm, ?_⟩
            rw [List.map_append, e5, take_succ' ex, List.map_append, List.append_assoc]
            rfl
        · obtain ⟨v5, ks5, rfl, sd, g5, e5⟩ := h
          refine ⟨_, _, ks5, rfl, g5, ?_⟩
          rw [len_ref, List.take_length] at e5
          rw [e5, e, List.range_succ, flat_snoc, ← er, List.map_map]
          rfl
      · rintro σ H2 ⟨v3, v4, ks0, rfl, g, e⟩
        refine ⟨_, rfl, q L ks0 H2 hL g ?_⟩
        rw [e, ek]
        rfl
theorem ok_sharings (F : Stands K mg "sharings" ssharings ["number", "places"] f fd) (T : Blt mg) : Has P w K mg base "sharings" ["number", "places"] 5 (sp_sharings K 5) := by
  have go : ∀ d, FnOk P w K mg base CX0 d f fd ["number", "places"] (sp_sharings K d) := fun d => by
    induction d with
    | zero => exact none_shar
    | succ d ih => exact ok_shar F T ih
  exact ⟨f, fd, go 5, F.2.1, F.1.kp, F.2.2⟩
theorem sc_sources : FnScope ["moves", "place", "k"] ["moves", "place"] (defScope ssources) := ⟨rfl, rfl, rfl, by decide +kernel, rfl, by decide +kernel, by decide +kernel⟩
theorem ok_sources (F : Stands K mg "sources" ssources ["moves", "place"] f fd) (T : Blt mg) : Has P w K mg base "sources" ["moves", "place"] 1 sp_sources := by
  refine ⟨f, fd, F.1.ok sc_sources (fun vs H Q E h => ?_) (fun cdv A outer s H vs Q E hr h => ?_), F.2.1, F.1.kp, F.2.2⟩
  · obtain ⟨a, mv, r, rfl, _⟩ := h
    rfl
  obtain ⟨a, mv, r, rfl, ha, hz, q⟩ := h
  refine ⟨_, pss_one (ps_ret (pe_lc (own := [("k", 2)]) (g := gName 2) rfl sc_sources.nd (pi_range1 rfl T.range (pa_cons (pe_callB call_len_seq rfl T.len PySem.boot_len (pa_cons (pv 0) pa_nil)) pa_nil)) (blkOk_by (own := [("k", 2)]) (N := ["moves", "place", "k"]) (sc := defScope ssources) (by decide +kernel)) (fun _ _ _ _ _ => pg_name (i := 2) sc_sources.nd rfl (Or.inl rfl)) (fun _ _ _ _ _ => pts_one (pt_cmpR op_eq (pe_ix (ix_tupK (K := K) rfl) (pv 0) (pv 2) (fun _ _ => rfl)) (pv 1) (nomark _))) (fun _ _ _ _ _ => (pv 2)))), ?_⟩
  refine ⟨_, rfl, a, _, rfl, .inr (SqT.of ha), _, rfl, by omega, by rw [len_int]; omega, fun D hD => ?_⟩
  rw [len_int]
  refine lc_range (lo := 0) (n := mv.length) (fun i H' => Same H H' ∧ Li H' D ((((List.range i).filter fun k => decide (gt mv k = r)).map Int.ofNat))) ⟨same_new hD _, upd_same⟩ (fun i H' hi h => ?_) fun H' h => ?_
  · obtain ⟨s1, hl⟩ := h
    have len : ((((List.range i).filter fun k => decide (gt mv k = r)).map Int.ofNat)).length ≤ i := by
      rw [List.length_map]
      have := List.length_filter_le (fun k => decide (gt mv k = r)) (List.range i)
      rw [List.length_range] at this
      exact this
    refine ⟨rfl, ?_⟩
    refine ⟨_, rfl, _, rfl, a, _, _, _, rfl, rfl, SqT.of (ha.up s1), by rw [Int.zero_add]; exact at_int hi, _, rfl, rfl, _, rfl, ?_⟩
    refine ite2 (fun c => ?_) (fun c => ?_)
    · have c' : gt mv i = r := by
        have := of_decide_eq_true c
        injection this
      refine ⟨_, rfl, _, hl, by rw [len_int]; exact small1000 (by omega), same_mut s1 hD, ?_⟩
      show upd _ _ _ _ = _
      rw [upd_same, List.range_succ, List.filter_append, List.map_append, List.map_append]
      simp only [List.filter_cons, List.filter_nil, decide_eq_true c', if_true, List.map_cons, List.map_nil]
      rw [Int.zero_add]
      rfl
    · have c' : ¬ gt mv i = r := fun z => c (by rw [decide_eq_true_eq]; exact congrArg V.int z)
      refine ⟨s1, ?_⟩
      rw [List.range_succ, List.filter_append, List.map_append]
      simp only [List.filter_cons, List.filter_nil, decide_eq_false c', Bool.false_eq_true, if_false, List.map_nil, List.append_nil]
      exact hl
  · obtain ⟨s1, hl⟩ := h
    exact q D H' s1 hD hl
end
end K16
namespace K16
open PySem L2
/-- a transition as the net's tuple holds it -/
def TrAt (H : Hp) (a : Addr) (t : Tr) : Prop := ∃ a1 a2 a3 : Addr, H a = some (.tup [.ref a1, .ref a2, .ref a3]) ∧ Tu H a1 t.tk ∧ Tu H a2 t.gv ∧ Tu H a3 t.mv
theorem TrAt.up {H H' : Hp} {a : Addr} {t : Tr} (h : TrAt H a t) (s : Same H H') : TrAt H' a t := by
  obtain ⟨a1, a2, a3, h0, h1, h2, h3⟩ := h
  exact ⟨a1, a2, a3, s _ _ h0, h1.up s, h2.up s, h3.up s⟩
/-- a new list of tuples that grows at F -/
structure GrowT (F : Addr) (H H' : Hp) (ks : List (Addr × List Int)) : Prop where
  same : Same H H'
  lst : H' F = some (.lst (refs ks))
  its : Tus H' ks
theorem GrowT.start {F : Addr} {H : Hp} (hF : H F = none) : GrowT F H (upd H F (.lst [])) [] := ⟨same_new hF _, upd_same, fun p h => absurd h (by simp)⟩
theorem GrowT.up {F : Addr} {H H' H2 : Hp} {ks : List (Addr × List Int)} (g : GrowT F H H' ks) (s : Same H' H2) : GrowT F H H2 ks := ⟨g.same.trans s, s _ _ g.lst, g.its.up s⟩
theorem tu_ne {H : Hp} {F t : Addr} {xs : List V} {m : List Int} (hF : H F = some (.lst xs)) (ht : Tu H t m) : t ≠ F := ne_of ht hF (by intro z; cases z)
theorem GrowT.push {F : Addr} {H H' : Hp} {ks : List (Addr × List Int)} (hF : H F = none) (g : GrowT F H H' ks) {t : Addr} {m : List Int} (ht : Tu H' t m) : GrowT F H (upd H' F (.lst (refs ks ++ [.ref t]))) (ks ++ [(t, m)]) := by
  refine ⟨same_mut g.same hF, by rw [upd_same, refs, refs, List.map_append]; rfl, fun p hp => ?_⟩
  show upd _ _ _ _ = _
  rcases List.mem_append.mp hp with z | z
  · rw [upd_ne (tu_ne g.lst (g.its p z))]
    exact g.its p z
  · rw [List.mem_singleton.mp z, upd_ne (tu_ne g.lst ht)]
    exact ht
/-- a new list of tuples: the markings from which firing leads to what covers the member -/
def sp_predecessors : Sp := fun vs H Q _ => ∃ (a b : Addr) (t : Tr) (m : List Int) (n : Nat), vs = [.ref a, .ref b] ∧ TrAt H a t ∧ Tu H b m ∧ TrOk n t ∧ n ≤ 4 ∧ m.length = n ∧ (∀ i, i < n → gt m i ≤ 12) ∧
  ∀ (r : Addr) (ks : List (Addr × List Int)) (H' : Hp), H r = none → GrowT r H H' ks → ks.map (·.2) = preds t m → Q (.ref r) H'
theorem gt_out {m : List Int} {i : Nat} (h : m.length ≤ i) : gt m i = 0 := by
  rw [gt, List.getD_eq_getElem?_getD, List.getElem?_eq_none h]
  rfl
theorem miss_12 {n : Nat} {t : Tr} (ok : TrOk n t) {m : List Int} (hm : m.length = n) (h : ∀ i, i < n → gt m i ≤ 12) (q : Nat) : miss t m q ≤ 12 := by
  unfold miss
  by_cases c : q < n
  · have a := h q c
    have b := (ok.pgv q c).1
    omega
  · have lg := ok.lgv
    rw [gt_out (m := m) (by omega), gt_out (m := t.gv) (by omega)]
    omega
theorem miss_eq (t : Tr) (m : List Int) (q : Nat) : (if gt m q - gt t.gv q > 0 then gt m q - gt t.gv q else 0) = miss t m q := by
  unfold miss
  split <;> omega
theorem at_nat {l : List Nat} {k : Nat} (h : k < l.length) : atI ((l.map Int.ofNat).map V.int) (k : Int) = some (.int ((l.getD k 0 : Nat) : Int)) :=
  atI_nat (by rw [List.map_map, List.getElem?_map, List.getElem?_eq_getElem h, getD_ix h]; rfl)
theorem ixN_nat {n j : Nat} (h : j < n) : ixN n (j : Int) = some j := by
  unfold ixN
  rw [if_pos (Int.natCast_nonneg j), if_pos (Int.ofNat_lt.mpr h), Int.toNat_natCast]
theorem set_int {m : List Int} {j : Nat} {v : Int} : (m.map V.int).set j (.int v) = (m.set j v).map V.int := List.map_set.symm
theorem preds_len {n : Nat} {t : Tr} (ok : TrOk n t) {m : List Int} {q : Nat} (hq : q ≤ n) : ∀ p ∈ predL t m q, p.length = n := fun p hp => ((predL_mem ok q hq p).mp hp).len
theorem flat_part {α β : Type} {g : α → List β} {l : List α} {x : Nat} {y : α} (h : l[x]? = some y) : ((l.take x).flatMap g).length + (g y).length ≤ (l.flatMap g).length := by
  have e : l.flatMap g = (l.take (x + 1)).flatMap g ++ (l.drop (x + 1)).flatMap g := by rw [← List.flatMap_append, List.take_append_drop]
  rw [e, take_succ' h, flat_snoc, List.length_append, List.length_append]
  omega
section
variable {P : Program} {w : World} {K : PySem.W.Frag} {mg : Str → Option Value} {base : Heap} {f : Addr} {fd : FuncData}
theorem sc_predecessors : FnScope ["transition", "member", "takes", "gives", "moves", "found", "place", "missing", "froms", "longer", "marking", "sharing", "after", "k"] ["transition", "member"] (defScope spredecessors) := ⟨rfl, rfl, rfl, by decide +kernel, rfl, by decide +kernel, by decide +kernel⟩
theorem ok_predecessors (F : Stands K mg "predecessors" spredecessors ["transition", "member"] f fd) (T : Blt mg) (Csources : Has P w K mg base "sources" ["moves", "place"] 1 sp_sources) (Csharings : Has P w K mg base "sharings" ["number", "places"] 5 (sp_sharings K 5)) : Has P w K mg base "predecessors" ["transition", "member"] 6 sp_predecessors := by
  obtain ⟨_, _, Gsources, msources, ksources, bsources⟩ := Csources
  obtain ⟨_, _, Gsharings, msharings, ksharings, bsharings⟩ := Csharings
  refine ⟨f, fd, F.1.ok sc_predecessors (fun vs H Q E h => ?_) (fun cdv A outer s H vs Q E hr h => ?_), F.2.1, F.1.kp, F.2.2⟩
  · obtain ⟨a, b, t, m, n, rfl, _⟩ := h
    rfl
  obtain ⟨a, b, t, m, n, rfl, ha, hb, ok, h4, hm, h12, q⟩ := h
  obtain ⟨a1, a2, a3, h0, h1, h2, h3⟩ := ha
  refine ⟨_, pss_cons (ps_asg (pv 0) (pg_tup rfl (pgs_cons (pg_name (i := 2) sc_predecessors.nd rfl (.inl rfl)) (pgs_cons (pg_name (i := 3) sc_predecessors.nd rfl (.inl rfl)) (pgs_cons (pg_name (i := 4) sc_predecessors.nd rfl (.inl rfl)) pgs_nil)))))
    (pss_cons (ps_set (i := 5) sc_predecessors.nd rfl (.inl rfl) (pe_lst (pa_cons (pe_callTy call_list_of rfl T.list (by decide +kernel) (pa_cons (pv 2) pa_nil)) pa_nil)))
    (pss_cons (ps_for PassesOwn.never rfl (pi_range1 rfl T.range (pa_cons (pe_callB call_len_seq rfl T.len PySem.boot_len (pa_cons (pv 1) pa_nil)) pa_nil)) (pg_name (i := 6) sc_predecessors.nd rfl (.inl rfl))
      (pss_cons (ps_set (i := 7) sc_predecessors.nd rfl (.inl rfl) (pe_callB (call_max2 rfl) rfl T.max (by decide +kernel) (pa_cons pe_int (pa_cons (pe_op op_sub (pe_ix ix_tup (pv 1) (pv 6) (fun _ _ => rfl)) (pe_ix ix_tup (pv 3) (pv 6) (fun _ _ => rfl))) pa_nil))))
      (pss_one (ps_if (pt_cmpR op_gt (pv 7) pe_int (nomark _))
        (pss_cons (ps_set (i := 8) sc_predecessors.nd rfl (.inl rfl) (pe_call Gsources (hr.mono (by decide)) rfl msources ksources bsources .nil pass0 (pa_cons (pv 4) (pa_cons (pv 6) pa_nil))))
        (pss_cons (ps_set (i := 9) sc_predecessors.nd rfl (.inl rfl) (pe_lst pa_nil))
        (pss_cons (ps_for PassesOwn.never rfl (pi_list (pv 5)) (pg_name (i := 10) sc_predecessors.nd rfl (.inl rfl))
          (pss_one (ps_for PassesOwn.never rfl (pi_list (pe_call Gsharings hr rfl msharings ksharings bsharings .nil pass0 (pa_cons (pv 7) (pa_cons (pv 8) pa_nil)))) (pg_name (i := 11) sc_predecessors.nd rfl (.inl rfl))
            (pss_cons (ps_set (i := 12) sc_predecessors.nd rfl (.inl rfl) (pe_callTy call_list_of rfl T.list (by decide +kernel) (pa_cons (pv 10) pa_nil)))
            (pss_cons (ps_for PassesOwn.never rfl (pi_range1 rfl T.range (pa_cons (pe_callB call_len_seq rfl T.len PySem.boot_len (pa_cons (pv 8) pa_nil)) pa_nil)) (pg_name (i := 13) sc_predecessors.nd rfl (.inl rfl))
              (pss_one (ps_augS (pv 12) (pe_ix ix_list (pv 8) (pv 13) (fun _ _ => rfl)) get_list (pe_ix ix_list (pv 11) (pv 13) (fun _ _ => rfl)) ip_add set_list)))
            (pss_one (ps_expr (pe_bm PySem.F.plainAttrs_list PySem.F.slot_list_append PySem.F.type_list_append mt_append (pv 9) (pa_cons (pv 12) pa_nil)))))))))
        (pss_one (ps_set (i := 5) sc_predecessors.nd rfl (.inl rfl) (pv 9)))))) pss_nil))))
    (pss_one (ps_ret (pe_lc (own := [("marking", 10)]) (g := gName 10) (tt := tYes) rfl sc_predecessors.nd (pi_list (pv 5)) (blkOk_by (own := [("marking", 10)]) (N := ["transition", "member", "takes", "gives", "moves", "found", "place", "missing", "froms", "longer", "marking", "sharing", "after", "k"]) (sc := defScope spredecessors) (by decide +kernel)) (fun _ _ _ _ _ => pg_name (i := 10) sc_predecessors.nd rfl (Or.inl rfl)) (fun _ _ _ _ _ => pts_nil) (fun _ _ _ _ _ => (pe_callTy (call_tupleK (K := K) rfl) rfl T.tuple (by decide +kernel) (pa_cons (pv 10) pa_nil)))))))), ?_⟩
  have z1 : 1 ≤ sizeLine := by rw [line_eq]; omega
  have m12 := miss_12 ok hm h12
  have l3 := ok.lmv
  refine ⟨_, rfl, a, _, rfl, SqT.of h0, rfl, _, _, rfl, _, _, rfl, _, _, rfl, rfl, ?_⟩
  refine ⟨_, rfl, a1, _, rfl, .inr (SqT.of h1), fun p hp => ⟨z1, fun L hL => ?_⟩⟩
  have sp := same_new hp (.lst (t.tk.map V.int))
  have sL := same_new hL (.lst [V.ref p])
  refine ⟨_, rfl, b, _, rfl, .inr (SqT.of (hb.up (sp.trans sL))), _, rfl, by omega, by rw [len_int]; omega, ?_⟩
  rw [len_int]
  refine for_range (lo := 0) (n := m.length) (fun i σ H' => ∃ (L : Addr) (ks : List (Addr × List Int)) (v6 v7 v8 v9 v10 v11 v12 v13 : Option V), σ = [some (.ref a), some (.ref b), some (.ref a1), some (.ref a2), some (.ref a3), some (.ref L), v6, v7, v8, v9, v10, v11, v12, v13] ∧ Same H H' ∧ H L = none ∧ H' L = some (.lst (refs ks)) ∧ Lis H' ks ∧ ks.map (·.2) = predL t m i) ?_ ?_ ?_
  · refine ⟨L, [(p, t.tk)], none, none, none, none, none, none, none, none, rfl, sp.trans sL, sp.free hL, upd_same, fun x hx => ?_, rfl⟩
    rw [List.mem_singleton.mp hx]
    exact sL p _ upd_same
  · rintro i σ H' hi ⟨L, ks, v6, v7, v8, v9, v10, v11, v12, v13, rfl, sH, nL, hL', hks, ek⟩
    rw [Int.zero_add]
    have hin : i < n := hm ▸ hi
    refine ⟨_, rfl, _, rfl, b, _, _, _, rfl, rfl, SqT.of (hb.up sH), at_int hi, _, rfl, _, rfl, a2, _, _, _, rfl, rfl, SqT.of (h2.up sH), at_int (by rw [ok.lgv]; exact hin), _, _, rfl, rfl, _, _, rfl, ?_⟩
    rw [show (if m.getD i 0 - t.gv.getD i 0 > 0 then m.getD i 0 - t.gv.getD i 0 else 0) = miss t m i from miss_eq t m i]
    refine ⟨_, rfl, _, _, rfl, rfl, _, rfl, ?_⟩
    refine ite2 (fun c => ?_) (fun c => ?_)
    · have c' : 0 < miss t m i := of_decide_eq_true c
      have klen : ks.length ≤ 28561 := by
        have := predL_big h4 ok m12 i
        rw [← ek, List.length_map] at this
        exact this
      have kl : ∀ x ∈ ks, x.2.length = n := fun x hx => preds_len ok (q := i) (by omega) x.2 (by rw [← ek]; exact List.mem_map.mpr ⟨x, hx, rfl⟩)
      refine ⟨_, rfl, _, rfl, a3, t.mv, (i : Int), rfl, h3.up sH, by omega, fun fa Hf sf nfa hfa => ?_⟩
      refine ⟨Nat.zero_le _, fun L2 hL2 => ?_⟩
      have sl : (srcs t.mv (i : Int)).length ≤ 4 := by
        have := srcs_len t.mv (i : Int)
        omega
      have srl : ∀ k, k < (srcs t.mv (i : Int)).length → (srcs t.mv (i : Int)).getD k 0 < n := fun k hk => by
        have := (srcs_mem.mp (getD_mem hk)).1
        omega
      have hLf : Hf L = some (.lst (refs ks)) := sf _ _ hL'
      have hksf : Lis Hf ks := hks.up sf
      have all : (ks.flatMap fun y : Addr × List Int => (shar (srcs t.mv (i : Int)).length (miss t m i)).map fun d => bump y.2 (srcs t.mv (i : Int)) d) = predL t m (i + 1) := by
        conv => rhs; unfold predL
        rw [if_pos c', ← ek, List.flatMap_map]
      have big := predL_big h4 ok m12 (i + 1)
      refine ⟨_, rfl, L, rfl, ⟨_, SqL.of ((same_new hL2 _) _ _ hLf)⟩, for_list (K := K) (a := L) (xs := refs ks) (fun x σ H2 => ∃ (k2 : List (Addr × List Int)) (v10 v11 v12 v13 : Option V), σ = [some (.ref a), some (.ref b), some (.ref a1), some (.ref a2), some (.ref a3), some (.ref L), some (.int (i : Int)), some (.int (miss t m i)), some (.ref fa), some (.ref L2), v10, v11, v12, v13] ∧ Grow L2 Hf H2 k2 ∧ k2.map (·.2) = (ks.take x).flatMap fun y : Addr × List Int => (shar (srcs t.mv (i : Int)).length (miss t m i)).map fun d => bump y.2 (srcs t.mv (i : Int)) d)
        ⟨[], v10, v11, v12, v13, rfl, Grow.start hL2, rfl⟩ (fun x σ H2 _ h => ?_) (fun x v σ H2 hx h => ?_) fun σ H2 h => ?_⟩
      · obtain ⟨k2, v10, v11, v12, v13, _, g, _⟩ := h
        exact SqL.of (g.same _ _ hLf)
      · obtain ⟨k2, v10, v11, v12, v13, rfl, g, e2⟩ := h
        obtain ⟨y, ey, rfl⟩ := ref_at hx
        have hy := List.mem_of_getElem? ey
        have hyl := kl y hy
        have part := flat_part (g := fun y : Addr × List Int => (shar (srcs t.mv (i : Int)).length (miss t m i)).map fun d => bump y.2 (srcs t.mv (i : Int)) d) ey
        rw [all, ← e2, List.length_map, List.length_map] at part
        refine ⟨_, rfl, _, rfl, miss t m i, fa, _, rfl, SqL.of (g.same _ _ hfa), ?_, ?_, miss_nonneg t m i, m12 i, fun r rs Hc hr2 gr er => ?_⟩
        · rw [List.length_map, List.length_map]; omega
        · rw [List.length_map, List.length_map]; omega
        rw [List.length_map, List.length_map] at er
        rw [← er, List.length_map] at part
        have nr : r ≠ L2 := (ne_of_none g.lst hr2).symm
        have nfa : fa ≠ L2 := ne_of_none hfa hL2
        refine ⟨r, rfl, ⟨_, SqL.of gr.lst⟩, for_list (K := K) (a := r) (xs := refs rs) (fun j σ H5 => ∃ (k5 : List (Addr × List Int)) (v11 v12 v13 : Option V), σ = [some (.ref a), some (.ref b), some (.ref a1), some (.ref a2), some (.ref a3), some (.ref L), some (.int (i : Int)), some (.int (miss t m i)), some (.ref fa), some (.ref L2), some (.ref y.1), v11, v12, v13] ∧ SameD L2 Hc H5 ∧ Grow L2 Hf H5 k5 ∧ k5.map (·.2) = k2.map (·.2) ++ (rs.take j).map fun x => bump y.2 (srcs t.mv (i : Int)) x.2)
          ⟨k2, v11, v12, v13, rfl, SameD.refl L2 Hc, g.up gr.same, by simp⟩ (fun j σ H5 _ h => ?_) (fun j v σ H5 hx2 h => ?_) fun σ H5 h => ?_⟩
        · obtain ⟨k5, v11, v12, v13, _, sd, _⟩ := h
          exact SqL.of (sd r _ gr.lst nr)
        · obtain ⟨k5, v11, v12, v13, rfl, sd, g5, e5⟩ := h
          obtain ⟨z, ez, rfl⟩ := ref_at hx2
          have hz := List.mem_of_getElem? ez
          have hj : j < rs.length := (List.getElem?_eq_some_iff.mp ez).1
          have nz : z.1 ≠ L2 := (ne_of_none g.lst (gr.new z hz).1).symm
          have hzl : Li H5 z.1 z.2 := sd _ _ (gr.its z hz) nz
          have hzn : z.2.length = (srcs t.mv (i : Int)).length := ((shar_mem _ _ z.2 (miss_nonneg t m i)).mp (by rw [← er]; exact List.mem_map.mpr ⟨z, hz, rfl⟩)).1
          have l5 : k5.length < 28561 := by
            have := congrArg List.length e5
            rw [List.length_append, List.length_map, List.length_map, List.length_map, List.length_take] at this
            omega
          refine ⟨_, rfl, y.1, _, rfl, .inl (SqL.of (g5.same _ _ (hksf y hy))), fun u hu => ?_⟩
          have su := same_new hu (.lst (y.2.map V.int))
          have nu : u ≠ L2 := (ne_of_none g5.lst hu).symm
          have nuf : u ≠ fa := (ne_of_none (g5.same _ _ hfa) hu).symm
          have nuz : u ≠ z.1 := (ne_of_none hzl hu).symm
          refine ⟨_, rfl, fa, _, rfl, .inl (SqL.of (su _ _ (g5.same _ _ hfa))), _, rfl, by omega, by rw [List.length_map, List.length_map]; omega, ?_⟩
          rw [List.length_map, List.length_map]
          refine for_range (lo := 0) (n := (srcs t.mv (i : Int)).length) (fun k σ H7 => ∃ v13, σ = [some (.ref a), some (.ref b), some (.ref a1), some (.ref a2), some (.ref a3), some (.ref L), some (.int (i : Int)), some (.int (miss t m i)), some (.ref fa), some (.ref L2), some (.ref y.1), some (.ref z.1), some (.ref u), v13] ∧ SameD u (upd H5 u (.lst (y.2.map V.int))) H7 ∧ Li H7 u (bumpK y.2 (srcs t.mv (i : Int)) z.2 k)) ⟨v13, rfl, SameD.refl _ _, upd_same⟩ ?_ ?_
          · rintro k σ H7 hk ⟨v13, rfl, s7, h7⟩
            rw [Int.zero_add]
            have kb : (srcs t.mv (i : Int)).getD k 0 < (bumpK y.2 (srcs t.mv (i : Int)) z.2 k).length := by
              rw [bumpK_len, hyl]
              exact srl k hk
            refine ⟨_, rfl, _, rfl, _, rfl, fa, _, _, _, rfl, rfl, SqL.of (s7 _ _ (su _ _ (g5.same _ _ hfa)) nuf.symm), at_nat hk, ?_⟩
            refine ⟨u, _, _, _, rfl, rfl, SqL.of h7, by rw [List.getElem?_map, List.getElem?_eq_getElem kb, ← gt_lt]; rfl, ?_⟩
            refine ⟨_, rfl, _, rfl, z.1, _, _, _, rfl, rfl, SqL.of (s7 _ _ (su _ _ hzl) nuz.symm), at_int (by omega), _, _, rfl, rfl, ?_⟩
            refine ⟨u, _, _, _, rfl, rfl, h7, by rw [len_int]; exact ixN_nat kb, ?_⟩
            refine ⟨_, rfl, s7.trans (SameD.put _), ?_⟩
            show upd _ _ _ _ = _
            rw [upd_same, set_int]
            rfl
          · rintro σ H7 ⟨v13, rfl, s7, h7⟩
            have s57 : Same H5 H7 := SameD.undo su s7 hu
            have g7 := g5.up s57
            refine ⟨_, rfl, .inl ⟨rfl, _, SqL.of g7.lst⟩, _, rfl, L2, _, _, rfl, rfl, g7.lst, by rw [len_ref, line_eq]; omega, ?_⟩
            refine ⟨k5 ++ [(u, bump y.2 (srcs t.mv (i : Int)) z.2)], _, _, _, rfl, (sd.trans (same_but s57)).trans (SameD.put _), Grow.push hL2 g7 h7 (g5.same.free hu) nu, ?_⟩
            rw [List.map_append, e5, take_succ' ez, List.map_append, List.append_assoc]
            rfl
        · obtain ⟨k5, v11, v12, v13, rfl, sd, g5, e5⟩ := h
          refine ⟨k5, _, _, _, _, rfl, g5, ?_⟩
          rw [len_ref, List.take_length] at e5
          rw [e5, e2, take_succ' ey, flat_snoc, ← er, List.map_map]
          rfl
      · obtain ⟨k2, v10, v11, v12, v13, rfl, g, e2⟩ := h
        rw [len_ref, List.take_length, all] at e2
        exact ⟨_, rfl, L2, k2, _, _, _, _, _, _, _, _, rfl, (sH.trans sf).trans g.same, (sH.trans sf).free hL2, g.lst, g.its, e2⟩
    · have c' : ¬ 0 < miss t m i := fun z => c (decide_eq_true z)
      refine ⟨L, ks, _, _, v8, v9, v10, v11, v12, v13, rfl, sH, nL, hL', hks, ?_⟩
      rw [ek]
      conv => rhs; unfold predL
      rw [if_neg c']
  · rintro σ H' ⟨L, ks, v6, v7, v8, v9, v10, v11, v12, v13, rfl, sH, nL, hL', hks, ek⟩
    have klen : ks.length ≤ 28561 := by
      have := predL_big h4 ok m12 m.length
      rw [← ek, List.length_map] at this
      exact this
    refine ⟨_, rfl, L, rfl, ⟨_, SqL.of hL'⟩, fun D hD => lc_list (K := K) (a := L) (xs := refs ks) (fun i H2 => ∃ ts, GrowT D H' H2 ts ∧ ts.length = i ∧ ts.map (·.2) = (ks.take i).map (·.2)) ⟨[], GrowT.start hD, rfl, rfl⟩ (fun i H2 _ h => ?_) (fun i x H2 hx h => ?_) fun H2 h => ?_⟩
    · obtain ⟨ts, g, _⟩ := h
      exact SqL.of (g.same _ _ hL')
    · obtain ⟨ts, g, el, e⟩ := h
      obtain ⟨x, ex, rfl⟩ := ref_at hx
      have hi : i < ks.length := (List.getElem?_eq_some_iff.mp ex).1
      refine ⟨rfl, ?_⟩
      refine ⟨_, rfl, x.1, _, rfl, .inl ⟨SqL.of (g.same _ _ (hks x (List.mem_of_getElem? ex))), fun u hu => ?_⟩⟩
      have su := same_new hu (.tup (x.2.map V.int))
      have g' := g.up su
      refine ⟨_, g'.lst, by rw [len_ref, line_eq]; omega, ts ++ [(u, x.2)], GrowT.push hD g' upd_same, by simp [el], ?_⟩
      rw [List.map_append, e, take_succ' ex, List.map_append]
      rfl
    · obtain ⟨ts, g, el, e⟩ := h
      rw [len_ref] at e
      rw [List.take_length] at e
      exact q D ts H2 (sH.free hD) ⟨sH.trans g.same, g.lst, g.its⟩ (by rw [e, ek]; rfl)
end
end K16
namespace K16
open PySem L2
/-- the module's numbers -/
structure Cst (mg : Str → Option Value) : Prop where
  MOST_PLACES : ∃ t, mg "MOST_PLACES" = some (.int 12 t)
  MOST_TRANSITIONS : ∃ t, mg "MOST_TRANSITIONS" = some (.int 24 t)
  MOST_WEIGHT : ∃ t, mg "MOST_WEIGHT" = some (.int 9 t)
  LOST : ∃ t, mg "LOST" = some (.int (-1) t)
def sp_all_from : Sp := fun vs H Q _ => ∃ (a : Addr) (m : List Int) (lo hi : Int), vs = [.ref a, .int lo, .int hi] ∧ Tu H a m ∧ (∀ i, i < m.length → lo ≤ gt m i ∧ gt m i ≤ hi) ∧ Q (.bl true) H
def sp_fits : Sp := fun vs H Q _ => ∃ (a : Addr) (t : Tr) (n : Nat), vs = [.ref a, .int (n : Int)] ∧ TrAt H a t ∧ TrOk n t ∧ Q (.bl true) H
/-- transitions, each with its address -/
def Trs (H : Hp) (ks : List (Addr × Tr)) : Prop := ∀ p ∈ ks, TrAt H p.1 p.2
theorem Trs.up {H H' : Hp} {ks : List (Addr × Tr)} (h : Trs H ks) (s : Same H H') : Trs H' ks := fun p hp => (h p hp).up s
def netF (n : Int) (tt : Addr) : List (Str × V) := putF "transitions" (.ref tt) (putF "places" (.int n) [])
structure NetC (K : PySem.W.Frag) (C : Addr) : Prop where
  cl : Cls K C
  nP : NoAttr K C "places"
  nT : NoAttr K C "transitions"
theorem kPT : ¬ (("places" : Str) = "transitions") := by decide +kernel
theorem netF_places (n : Int) (tt : Addr) : (netF n tt).lookup ("places" : Str) = some (.int n) := by
  unfold netF
  rw [lookup_putF, if_neg kPT, lookup_putF, if_pos rfl]
theorem netF_transitions (n : Int) (tt : Addr) : (netF n tt).lookup ("transitions" : Str) = some (.ref tt) := by
  unfold netF
  rw [lookup_putF, if_pos rfl]
/-- the net as an object: its transitions in a tuple -/
def NetAt (C : Addr) (H : Hp) (p : Addr) (n : Nat) (ts : List Tr) : Prop := ∃ (dx tt : Addr) (ks : List (Addr × Tr)), H p = some (.ins C dx (netF n tt)) ∧ H tt = some (.tup (refs ks)) ∧ Trs H ks ∧ ks.map (·.2) = ts
def sp_Net_init (C : Addr) : Sp := fun vs H Q _ => ∃ (p dx l : Addr) (n : Nat) (ks : List (Addr × Tr)), vs = [.ref p, .int (n : Int), .ref l] ∧ H p = some (.ins C dx []) ∧ H l = some (.lst (refs ks)) ∧ Trs H ks ∧ (∀ x ∈ ks, TrOk n x.2) ∧ 1 ≤ n ∧ n ≤ 12 ∧ ks.length ≤ 24 ∧
  ∀ H' : Hp, (∀ b o, H b = some o → b ≠ p → H' b = some o) → NetAt C H' p n (ks.map (·.2)) → Q .non H'
theorem iteD {p A B : Prop} [Decidable p] (hp : p) (h : A) : if decide p = true then A else B := by
  rw [if_pos (decide_eq_true hp)]
  exact h
section
variable {P : Program} {w : World} {K : PySem.W.Frag} {mg : Str → Option Value} {base : Heap} {f : Addr} {fd : FuncData}
theorem sc_all_from : FnScope ["numbers", "low", "high", "number"] ["numbers", "low", "high"] (defScope sall_from) := ⟨rfl, rfl, rfl, by decide +kernel, rfl, by decide +kernel, by decide +kernel⟩
theorem ok_all_from (F : Stands K mg "all_from" sall_from ["numbers", "low", "high"] f fd) (T : Blt mg) : Has P w K mg base "all_from" ["numbers", "low", "high"] 1 sp_all_from := by
  refine ⟨f, fd, F.1.ok sc_all_from (fun vs H Q E h => ?_) (fun cdv A outer s H vs Q E hr h => ?_), F.2.1, F.1.kp, F.2.2⟩
  · obtain ⟨a, m, lo, hi, rfl, _⟩ := h
    rfl
  obtain ⟨a, m, lo, hi, rfl, ha, hp, q⟩ := h
  refine ⟨_, pss_cons (ps_for PassesOwn.never rfl (pi_tup (pv 0)) (pg_name (i := 3) sc_all_from.nd rfl (.inl rfl))
      (pss_one (ps_if (PW.pt (pw_or (pt_cmpR op_lt (pv 3) (pv 1) (nomark _)) (pw_or1 (pt_cmpR op_gt (pv 3) (pv 2) (nomark _)))))
        (pss_one (ps_ret pe_bl)) pss_nil)))
    (pss_one (ps_ret pe_bl)), ?_⟩
  refine ⟨_, rfl, a, rfl, ⟨_, SqT.of ha⟩, for_tup (K := K) (a := a) (xs := m.map V.int) (fun i σ H' => ∃ v, σ = [some (.ref a), some (.int lo), some (.int hi), v] ∧ H' = H) ⟨none, rfl, rfl⟩ (fun i σ H' _ h => ?_) (fun i x σ H' hx h => ?_) fun σ H' h => ?_⟩
  · obtain ⟨v, _, rfl⟩ := h
    exact SqT.of ha
  · obtain ⟨v, rfl, rfl⟩ := h
    obtain ⟨hi', rfl⟩ := int_at hx
    have := hp i hi'
    refine ⟨_, rfl, _, rfl, _, _, rfl, rfl, _, rfl, ?_⟩
    rw [decide_eq_false (by omega)]
    refine iteF ⟨_, rfl, _, rfl, _, _, rfl, rfl, _, rfl, ?_⟩
    rw [decide_eq_false (by omega)]
    exact iteF ⟨_, rfl, rfl⟩
  · obtain ⟨v, rfl, rfl⟩ := h
    exact q
theorem all_of {n : Nat} {m : List Int} (hl : m.length = n) {lo hi : Int} (h : ∀ i, i < n → lo ≤ gt m i ∧ gt m i ≤ hi) : ∀ i, i < m.length → lo ≤ gt m i ∧ gt m i ≤ hi := fun i hi => h i (hl ▸ hi)
theorem sc_fits : FnScope ["transition", "places", "takes", "gives", "moves", "part"] ["transition", "places"] (defScope sfits) := ⟨rfl, rfl, rfl, by decide +kernel, rfl, by decide +kernel, by decide +kernel⟩
theorem ok_fits (F : Stands K mg "fits" sfits ["transition", "places"] f fd) (T : Blt mg) (Call_from : Has P w K mg base "all_from" ["numbers", "low", "high"] 1 sp_all_from) (D : Cst mg) : Has P w K mg base "fits" ["transition", "places"] 2 sp_fits := by
  obtain ⟨_, _, Gall_from, mall_from, kall_from, ball_from⟩ := Call_from
  refine ⟨f, fd, F.1.ok sc_fits (fun vs H Q E h => ?_) (fun cdv A outer s H vs Q E hr h => ?_), F.2.1, F.1.kp, F.2.2⟩
  · obtain ⟨a, t, n, rfl, _⟩ := h
    rfl
  obtain ⟨a, t, n, rfl, ha, ok, q⟩ := h
  obtain ⟨a1, a2, a3, h0, h1, h2, h3⟩ := ha
  obtain ⟨w1, gw⟩ := D.MOST_WEIGHT
  obtain ⟨w2, gl⟩ := D.LOST
  refine ⟨_, pss_cons (ps_asg (pv 0) (pg_tup rfl (pgs_cons (pg_name (i := 2) sc_fits.nd rfl (.inl rfl)) (pgs_cons (pg_name (i := 3) sc_fits.nd rfl (.inl rfl)) (pgs_cons (pg_name (i := 4) sc_fits.nd rfl (.inl rfl)) pgs_nil)))))
    (pss_cons (ps_for PassesOwn.never rfl (pi_tup (pv 0)) (pg_name (i := 5) sc_fits.nd rfl (.inl rfl))
      (pss_one (ps_if (pt_cmpR op_ne (pe_callB call_len_seq rfl T.len PySem.boot_len (pa_cons (pv 5) pa_nil)) (pv 1) (nomark _))
        (pss_one (ps_ret pe_bl)) pss_nil)))
    (pss_cons (ps_if (PW.pt (pw_or (pt_not (pt_val (pe_call Gall_from hr rfl mall_from kall_from ball_from .nil pass0 (pa_cons (pv 2) (pa_cons pe_int (pa_cons (pe_glob (v := .int 9) rfl gw ⟨_, rfl⟩) pa_nil)))))) (pw_or1 (pt_not (pt_val (pe_call Gall_from hr rfl mall_from kall_from ball_from .nil pass0 (pa_cons (pv 3) (pa_cons pe_int (pa_cons (pe_glob (v := .int 9) rfl gw ⟨_, rfl⟩) pa_nil)))))))))
      (pss_one (ps_ret pe_bl)) pss_nil)
    (pss_one (ps_ret (pe_call Gall_from hr rfl mall_from kall_from ball_from .nil pass0 (pa_cons (pv 4) (pa_cons (pe_glob (v := .int (-1)) rfl gl ⟨_, rfl⟩) (pa_cons (pe_op op_sub (pv 1) pe_int) pa_nil)))))))), ?_⟩
  refine ⟨_, rfl, a, _, rfl, SqT.of h0, rfl, _, _, rfl, _, _, rfl, _, _, rfl, rfl, ?_⟩
  refine ⟨_, rfl, a, rfl, ⟨_, SqT.of h0⟩, for_tup (K := K) (a := a) (xs := [.ref a1, .ref a2, .ref a3]) (fun i σ H' => ∃ v, σ = [some (.ref a), some (.int (n : Int)), some (.ref a1), some (.ref a2), some (.ref a3), v] ∧ H' = H) ⟨none, rfl, rfl⟩ (fun i σ H' _ h => ?_) (fun i x σ H' hx h => ?_) fun σ H' h => ?_⟩
  · obtain ⟨v, _, rfl⟩ := h
    exact SqT.of h0
  · obtain ⟨v, rfl, rfl⟩ := h
    have hx' : ∃ b m, x = .ref b ∧ Tu H' b m ∧ m.length = n := by
      match i, hx with
      | 0, hx => exact ⟨a1, t.tk, (Option.some.inj hx).symm, h1, ok.ltk⟩
      | 1, hx => exact ⟨a2, t.gv, (Option.some.inj hx).symm, h2, ok.lgv⟩
      | 2, hx => exact ⟨a3, t.mv, (Option.some.inj hx).symm, h3, ok.lmv⟩
      | k + 3, hx => simp at hx
    obtain ⟨b, m, rfl, hb, hm⟩ := hx'
    refine ⟨_, rfl, b, _, rfl, .inr (SqT.of hb), _, rfl, rfl, _, rfl, iteNS (by rw [len_int, hm]) ⟨_, rfl, rfl⟩⟩
  · obtain ⟨v, rfl, rfl⟩ := h
    refine ⟨_, rfl, a1, _, _, _, rfl, h1, all_of ok.ltk ok.ptk, _, rfl, iteF ?_⟩
    refine ⟨_, rfl, a2, _, _, _, rfl, h2, all_of ok.lgv ok.pgv, _, rfl, iteF ?_⟩
    refine ⟨_, rfl, _, rfl, _, _, rfl, rfl, a3, _, _, _, rfl, h3, all_of ok.lmv fun i hi => ?_, q⟩
    have := ok.pmv i hi
    omega
theorem sc_Net_init : FnScope ["self", "places", "transitions", "valid", "transition", "takes", "gives", "moves"] ["self", "places", "transitions"] (defScope sNet_init) := ⟨rfl, rfl, rfl, by decide +kernel, rfl, by decide +kernel, by decide +kernel⟩
theorem ok_Net_init {C : Addr} (F : Fun K "__init__" "Net.__init__" sNet_init f fd) (T : Blt mg) (D : Cst mg) (NC : NetC K C) (Cfits : Has P w K mg base "fits" ["transition", "places"] 2 sp_fits) : FnOk P w K mg base CX0 3 f fd ["self", "places", "transitions"] (sp_Net_init C) := by
  obtain ⟨_, _, Gfits, mfits, kfits, bfits⟩ := Cfits
  refine F.ok sc_Net_init (fun vs H Q E h => ?_) (fun cdv A outer s H vs Q E hr h => ?_)
  · obtain ⟨p, dx, l, n, ks, rfl, _⟩ := h
    rfl
  obtain ⟨p, dx, l, n, ks, rfl, hp, hl, hk, ok, n1, n12, k24, q⟩ := h
  obtain ⟨w1, gp⟩ := D.MOST_PLACES
  obtain ⟨w2, gt'⟩ := D.MOST_TRANSITIONS
  refine ⟨_, pss_cons (ps_set (i := 3) sc_Net_init.nd rfl (.inl rfl) (pe_and (pe_chain op_le op_le pe_int (pv 1) (pe_glob (v := .int 12) rfl gp ⟨_, rfl⟩)) (pe_one (pe_cmpR op_le (pe_callB call_len_seq rfl T.len PySem.boot_len (pa_cons (pv 2) pa_nil)) (pe_glob (v := .int 24) rfl gt' ⟨_, rfl⟩) (nomark _)))))
    (pss_cons (ps_for PassesOwn.never rfl (pi_list (pv 2)) (pg_name (i := 4) sc_Net_init.nd rfl (.inl rfl))
      (pss_one (ps_set (i := 3) sc_Net_init.nd rfl (.inl rfl) (pe_and (pv 3) (pe_one (pe_call Gfits hr rfl mfits kfits bfits .nil pass0 (pa_cons (pv 4) (pa_cons (pv 1) pa_nil))))))))
    (pss_cons (ps_if (pt_not (pt_val (pv 3)))
      (pss_one ps_never) pss_nil)
    (pss_cons (ps_fld (pv 0) (pv 1) rfl)
    (pss_one (ps_fld (pv 0) (pe_callTy call_tuple_of rfl T.tuple (by decide +kernel) (pa_cons (pe_lc (own := [("takes", 5), ("gives", 6), ("moves", 7)]) (g := gTup K 3 (gCons (gName 5) (gCons (gName 6) (gCons (gName 7) gNil)))) (tt := tYes) rfl sc_Net_init.nd (pi_list (pv 2)) (blkOk_by (own := [("takes", 5), ("gives", 6), ("moves", 7)]) (N := ["self", "places", "transitions", "valid", "transition", "takes", "gives", "moves"]) (sc := defScope sNet_init) (by decide +kernel)) (fun _ _ _ _ _ => (pg_tup rfl (pgs_cons (pg_name (i := 5) sc_Net_init.nd rfl (.inl rfl)) (pgs_cons (pg_name (i := 6) sc_Net_init.nd rfl (.inl rfl)) (pgs_cons (pg_name (i := 7) sc_Net_init.nd rfl (.inl rfl)) pgs_nil))))) (fun _ _ _ _ _ => pts_nil) (fun _ _ _ _ _ => (pe_tup (pa_cons (pe_callTy (call_tupleK (K := K) rfl) rfl T.tuple (by decide +kernel) (pa_cons (pv 5) pa_nil)) (pa_cons (pe_callTy (call_tupleK (K := K) rfl) rfl T.tuple (by decide +kernel) (pa_cons (pv 6) pa_nil)) (pa_cons (pe_callTy (call_tupleK (K := K) rfl) rfl T.tuple (by decide +kernel) (pa_cons (pv 7) pa_nil)) pa_nil)))))) pa_nil)) rfl))))), ?_⟩
  have e1 : (1 : Int) ≤ (n : Int) := by omega
  have e2 : (n : Int) ≤ 12 := by omega
  refine ⟨_, rfl, _, _, rfl, rfl, _, rfl, iteD e1 ⟨_, _, rfl, rfl, _, rfl, iteD e2 ⟨_, rfl, l, _, rfl, .inl (SqL.of hl), _, _, rfl, rfl, ?_⟩⟩⟩
  dsimp only
  rw [decide_eq_true (show ((refs ks).length : Int) ≤ 24 by rw [len_ref]; omega)]
  refine ⟨_, rfl, l, rfl, ⟨_, SqL.of hl⟩, for_list (K := K) (a := l) (xs := refs ks) (fun i σ H' => ∃ v, σ = [some (.ref p), some (.int (n : Int)), some (.ref l), some (.bl true), v, none, none, none] ∧ H' = H) ⟨none, rfl, rfl⟩ (fun i σ H' _ h => ?_) (fun i x σ H' hx h => ?_) fun σ H' h => ?_⟩
  · obtain ⟨v, _, rfl⟩ := h
    exact SqL.of hl
  · obtain ⟨v, rfl, rfl⟩ := h
    obtain ⟨x, e, rfl⟩ := ref_at hx
    have hm := List.mem_of_getElem? e
    exact ⟨_, rfl, true, rfl, _, rfl, _, rfl, x.1, x.2, n, rfl, hk x hm, ok x hm, _, rfl, rfl⟩
  · obtain ⟨v, rfl, rfl⟩ := h
    refine ⟨_, rfl, true, rfl, iteF ?_⟩
    refine ⟨_, rfl, _, rfl, p, C, dx, _, rfl, hp, NC.cl, NC.nP, (by show 0 < 1000; decide), ?_⟩
    have npl : l ≠ p := ne_of hl hp (by intro z; cases z)
    have s0 : SameD p H' (upd H' p (.ins C dx (putF "places" (.int (n : Int)) []))) := SameD.put _
    have tb : ∀ {a : Addr} {xs : List V}, H' a = some (.tup xs) → a ≠ p := fun h => ne_of h hp (by intro z; cases z)
    have hk1 : Trs (upd H' p (.ins C dx (putF "places" (.int (n : Int)) []))) ks := fun x hx => by
      obtain ⟨a1, a2, a3, h0, h1, h2, h3⟩ := hk x hx
      exact ⟨a1, a2, a3, s0 _ _ h0 (tb h0), s0 _ _ h1 (tb h1), s0 _ _ h2 (tb h2), s0 _ _ h3 (tb h3)⟩
    have hl1 := s0 _ _ hl npl
    have hp1 : (upd H' p (.ins C dx (putF "places" (.int (n : Int)) []))) p = some (.ins C dx (putF "places" (.int (n : Int)) [])) := upd_same
    generalize upd H' p (.ins C dx (putF "places" (.int (n : Int)) [])) = H1 at s0 hk1 hl1 hp1
    refine ⟨_, rfl, l, rfl, ⟨_, SqL.of hl1⟩, fun E0 hE => lc_list (K := K) (a := l) (xs := refs ks) (fun i H2 => ∃ ts : List (Addr × Tr), Same H1 H2 ∧ H2 E0 = some (.lst (refs ts)) ∧ Trs H2 ts ∧ ts.length = i ∧ ts.map (·.2) = (ks.take i).map (·.2)) ⟨[], same_new hE _, upd_same, fun x hx => absurd hx (by simp), rfl, rfl⟩ (fun i H2 _ h => ?_) (fun i x H2 hx h => ?_) fun H2 h => ?_⟩
    · obtain ⟨ts, s1, _⟩ := h
      exact SqL.of (s1 _ _ hl1)
    · obtain ⟨ts, s1, hD, ht, el, e⟩ := h
      obtain ⟨x, ex, rfl⟩ := ref_at hx
      have hm := List.mem_of_getElem? ex
      have hi : i < ks.length := (List.getElem?_eq_some_iff.mp ex).1
      obtain ⟨a1, a2, a3, h0, h1, h2, h3⟩ := (hk1 x hm).up s1
      refine ⟨x.1, _, rfl, SqT.of h0, rfl, _, _, rfl, _, _, rfl, _, _, rfl, rfl, rfl, ?_⟩
      refine ⟨_, rfl, a1, _, rfl, .inr ⟨SqT.of h1, _, rfl, a2, _, rfl, .inr ⟨SqT.of h2, _, rfl, a3, _, rfl, .inr ⟨SqT.of h3, ?_⟩⟩⟩⟩
      refine ⟨(by show 3 ≤ sizeLine; rw [line_eq]; omega), fun u hu => ?_⟩
      have su := same_new hu (.tup [.ref a1, .ref a2, .ref a3])
      have nu : u ≠ E0 := (ne_of_none hD hu).symm
      have hu1 : TrAt (upd H2 u (.tup [.ref a1, .ref a2, .ref a3])) u x.2 := ⟨a1, a2, a3, upd_same, h1.up su, h2.up su, h3.up su⟩
      have hD1 := su _ _ hD
      have ht1 := ht.up su
      have s12 := s1.trans su
      generalize upd H2 u (.tup [.ref a1, .ref a2, .ref a3]) = H3 at su hu1 hD1 ht1 s12
      have tbD : ∀ {a : Addr} {t : Tr}, TrAt H3 a t → TrAt (upd H3 E0 (.lst (refs ts ++ [.ref u]))) a t := fun {a t} h => by
        obtain ⟨b1, b2, b3, g0, g1, g2, g3⟩ := h
        have ne : ∀ {c : Addr} {xs : List V}, H3 c = some (.tup xs) → c ≠ E0 := fun h => ne_of h hD1 (by intro z; cases z)
        exact ⟨b1, b2, b3, by rw [upd_ne (ne g0)]; exact g0, by show upd _ _ _ _ = _; rw [upd_ne (ne g1)]; exact g1, by show upd _ _ _ _ = _; rw [upd_ne (ne g2)]; exact g2, by show upd _ _ _ _ = _; rw [upd_ne (ne g3)]; exact g3⟩
      refine ⟨_, hD1, by rw [len_ref, line_eq]; omega, ts ++ [(u, x.2)], same_mut s12 hE, by rw [upd_same, refs, refs, List.map_append]; rfl, fun y hy => ?_, by simp [el], ?_⟩
      · rcases List.mem_append.mp hy with z | z
        · exact tbD (ht1 y z)
        · rw [List.mem_singleton.mp z]
          exact tbD hu1
      · rw [List.map_append, e, take_succ' ex, List.map_append]
        rfl
    · obtain ⟨ts, s1, hD, ht, el, e⟩ := h
      rw [len_ref] at e el
      rw [List.take_length] at e
      refine ⟨E0, _, rfl, .inl ⟨SqL.of hD, fun tt htt => ?_⟩⟩
      have st := same_new htt (.tup (refs ts))
      have hp3 := st _ _ (s1 _ _ hp1)
      refine ⟨_, rfl, p, C, dx, _, rfl, hp3, NC.cl, NC.nT, (by show 1 < 1000; decide), ?_⟩
      have np : ∀ {a : Addr} {xs : List V}, upd H2 tt (.tup (refs ts)) a = some (.tup xs) → a ≠ p := fun h => ne_of h hp3 (by intro z; cases z)
      have htt' : upd H2 tt (.tup (refs ts)) tt = some (.tup (refs ts)) := upd_same
      refine q _ (fun b o hb ne => ?_) ⟨dx, tt, ts, upd_same, by rw [upd_ne (np htt')]; exact htt', fun x hx => ?_, e⟩
      · rw [upd_ne ne]
        exact st _ _ (s1 _ _ (s0 _ _ hb ne))
      · obtain ⟨a1, a2, a3, g0, g1, g2, g3⟩ := (ht x hx).up st
        exact ⟨a1, a2, a3, by rw [upd_ne (np g0)]; exact g0, by show upd _ _ _ _ = _; rw [upd_ne (np g1)]; exact g1, by show upd _ _ _ _ = _; rw [upd_ne (np g2)]; exact g2, by show upd _ _ _ _ = _; rw [upd_ne (np g3)]; exact g3⟩
end
end K16
namespace K16
open PySem L2
structure DecC (K : PySem.W.Frag) (C : Addr) : Prop where
  cl : Cls K C
  nR : NoAttr K C "reachable"
  nC : NoAttr K C "count"
  nU : NoAttr K C "run"
  nB : NoAttr K C "barrier"
theorem dRC : ¬ (("reachable" : Str) = "count") := by decide +kernel
theorem dRU : ¬ (("reachable" : Str) = "run") := by decide +kernel
theorem dRB : ¬ (("reachable" : Str) = "barrier") := by decide +kernel
theorem dCU : ¬ (("count" : Str) = "run") := by decide +kernel
theorem dCB : ¬ (("count" : Str) = "barrier") := by decide +kernel
theorem dUB : ¬ (("run" : Str) = "barrier") := by decide +kernel
/-- what stands at run: None, or a tuple of these -/
def RunIs (H : Hp) (run : Option (List V)) (v : V) : Prop := match run with
  | none => v = .non
  | some xs => ∃ t : Addr, v = .ref t ∧ H t = some (.tup xs)
/-- .. a list of these, as it is handed in -/
def RunIn (H : Hp) (run : Option (List V)) (v : V) : Prop := match run with
  | none => v = .non
  | some xs => ∃ t : Addr, v = .ref t ∧ H t = some (.lst xs)
structure DecAt (C : Addr) (H : Hp) (p : Addr) (r c : V) (run : Option (List V)) (bs : List V) : Prop where
  ex : ∃ (dx : Addr) (fs : List (Str × V)) (bt : Addr) (u : V), H p = some (.ins C dx fs) ∧ fs.lookup ("reachable" : Str) = some r ∧ fs.lookup ("count" : Str) = some c ∧ fs.lookup ("run" : Str) = some u ∧ RunIs H run u ∧ fs.lookup ("barrier" : Str) = some (.ref bt) ∧ H bt = some (.tup bs)
def sp_Decision_init (C : Addr) : Sp := fun vs H Q _ => ∃ (p dx l : Addr) (r c u : V) (run : Option (List V)) (bs : List V), vs = [.ref p, r, c, u, .ref l] ∧ H p = some (.ins C dx []) ∧ H l = some (.lst bs) ∧ RunIn H run u ∧
  ∀ H' : Hp, (∀ b o, H b = some o → b ≠ p → H' b = some o) → DecAt C H' p r c run bs → Q .non H'
def sp_start_marking : Sp := fun vs H Q _ => ∃ (s b : Addr) (bm : List Int) (fr k : Int), vs = [.ref s, .int k] ∧ H s = some (.tup [.ref b, .int fr]) ∧ Tu H b bm ∧ fr < bm.length ∧
  ∀ (a : Addr) (H' : Hp), Same H H' → Tu H' a (startM bm fr k) → Q (.ref a) H'
def encO : Option Int → V
  | none => .non
  | some c => .int c
def sp_count_for : Sp := fun vs H Q _ => ∃ (s b mb : Addr) (bm m : List Int) (fr : Int), vs = [.ref s, .ref mb] ∧ H s = some (.tup [.ref b, .int fr]) ∧ Tu H b bm ∧ Tu H mb m ∧ m.length = bm.length ∧ bm.length ≤ 1000 ∧ fr < bm.length ∧
  Q (if okC bm fr m = true then .int (dueC bm fr m) else .non) H
def sp_least_count (K : PySem.W.Frag) : Sp := fun vs H Q _ => ∃ (s b l : Addr) (bm : List Int) (fr : Int) (ks : List (Addr × List Int)), vs = [.ref s, .ref l] ∧ H s = some (.tup [.ref b, .int fr]) ∧ Tu H b bm ∧ SqL K H l (refs ks) ∧ Tus H ks ∧ (∀ p ∈ ks, p.2.length = bm.length) ∧ bm.length ≤ 1000 ∧ fr < bm.length ∧
  Q (encO (lc bm fr (ks.map (·.2)))) H
section
variable {P : Program} {w : World} {K : PySem.W.Frag} {mg : Str → Option Value} {base : Heap} {f : Addr} {fd : FuncData}
theorem sc_Decision_init : FnScope ["self", "reachable", "count", "run", "barrier"] ["self", "reachable", "count", "run", "barrier"] (defScope sDecision_init) := ⟨rfl, rfl, rfl, by decide +kernel, rfl, by decide +kernel, by decide +kernel⟩
theorem ok_Decision_init {C : Addr} (F : Fun K "__init__" "Decision.__init__" sDecision_init f fd) (T : Blt mg) (DC : DecC K C) : FnOk P w K mg base CX0 1 f fd ["self", "reachable", "count", "run", "barrier"] (sp_Decision_init C) := by
  refine F.ok sc_Decision_init (fun vs H Q E h => ?_) (fun cdv A outer s H vs Q E hr h => ?_)
  · obtain ⟨p, dx, l, r, c, u, run, bs, rfl, _⟩ := h
    rfl
  obtain ⟨p, dx, l, r, c, u, run, bs, rfl, hp, hl, hu, q⟩ := h
  refine ⟨_, pss_cons (ps_fld (pv 0) (pv 1) rfl)
    (pss_cons (ps_fld (pv 0) (pv 2) rfl)
    (pss_cons (ps_fld (pv 0) (pv 3) rfl)
    (pss_cons (ps_if (pt_cmpR op_notN (pv 3) pe_non (nomark _))
      (pss_one (ps_fld (pv 0) (pe_callTy call_tuple_of rfl T.tuple (by decide +kernel) (pa_cons (pv 3) pa_nil)) rfl)) pss_nil)
    (pss_one (ps_fld (pv 0) (pe_callTy call_tuple_of rfl T.tuple (by decide +kernel) (pa_cons (pv 4) pa_nil)) rfl))))), ?_⟩
  have few : ∀ {n : Nat}, n ≤ 10 → n < 1000 := fun h => by omega
  refine ⟨_, rfl, _, rfl, p, C, dx, _, rfl, hp, DC.cl, DC.nR, (by show 0 < 1000; decide), ?_⟩
  refine ⟨_, rfl, _, rfl, p, C, dx, _, rfl, upd_same, DC.cl, DC.nC, (by show 1 < 1000; decide), ?_⟩
  refine ⟨_, rfl, _, rfl, p, C, dx, _, rfl, upd_same, DC.cl, DC.nU, (by show 2 < 1000; decide), ?_⟩
  rw [upd_upd, upd_upd]
  have s0 : SameD p H (upd H p (.ins C dx (putF "run" u (putF "count" c (putF "reachable" r []))))) := SameD.put _
  have hp1 : (upd H p (.ins C dx (putF "run" u (putF "count" c (putF "reachable" r []))))) p = some (.ins C dx (putF "run" u (putF "count" c (putF "reachable" r [])))) := upd_same
  have npl : l ≠ p := ne_of hl hp (by intro z; cases z)
  generalize upd H p (.ins C dx (putF "run" u (putF "count" c (putF "reachable" r [])))) = H1 at s0 hp1
  have hl1 := s0 _ _ hl npl
  have fin : ∀ (H2 : Hp) (v : V) (fs : List (Str × V)), SameD p H H2 → H2 p = some (.ins C dx fs) → H2 l = some (.lst bs) → fs.length < 1000 → fs.lookup ("reachable" : Str) = some r → fs.lookup ("count" : Str) = some c → fs.lookup ("run" : Str) = some v → RunIs H2 run v → ∀ bt, H2 bt = none → Q .non (upd (upd H2 bt (.tup bs)) p (.ins C dx (putF "barrier" (.ref bt) fs))) := fun H2 v fs s2 h2 hl2 hf l1 l2 l3 hv bt hbt => by
    have nb := ne_of_none h2 hbt
    refine q _ (fun b o hb ne => ?_) ⟨dx, putF "barrier" (.ref bt) fs, bt, v, upd_same, ?_, ?_, ?_, ?_, ?_, ?_⟩
    · rw [upd_ne ne, upd_ne (ne_of_none (s2 b o hb ne) hbt)]
      exact s2 b o hb ne
    · rw [lookup_putF, if_neg dRB]; exact l1
    · rw [lookup_putF, if_neg dCB]; exact l2
    · rw [lookup_putF, if_neg dUB]; exact l3
    · cases run with
      | none => exact hv
      | some xs =>
        obtain ⟨t, e, ht⟩ := hv
        exact ⟨t, e, by rw [upd_ne (ne_of ht h2 (by intro z; cases z)), upd_ne (ne_of_none ht hbt)]; exact ht⟩
    · rw [lookup_putF, if_pos rfl]
    · rw [upd_ne nb.symm, upd_same]
  have k1 : (putF "run" u (putF "count" c (putF "reachable" r []))).lookup ("reachable" : Str) = some r := by rw [lookup_putF, if_neg dRU, lookup_putF, if_neg dRC, lookup_putF, if_pos rfl]
  have k2 : (putF "run" u (putF "count" c (putF "reachable" r []))).lookup ("count" : Str) = some c := by rw [lookup_putF, if_neg dCU, lookup_putF, if_pos rfl]
  have k3 : (putF "run" u (putF "count" c (putF "reachable" r []))).lookup ("run" : Str) = some u := by rw [lookup_putF, if_pos rfl]
  have klen : (putF "run" u (putF "count" c (putF "reachable" r []))).length ≤ 3 := by
    have a1 := length_putF ("run" : Str) u (putF "count" c (putF "reachable" r []))
    have a2 := length_putF ("count" : Str) c (putF "reachable" r [])
    have a3 := length_putF ("reachable" : Str) r []
    rw [List.length_nil] at a3
    omega
  generalize putF "run" u (putF "count" c (putF "reachable" r [])) = fs at hp1 k1 k2 k3 klen
  refine ⟨_, rfl, rfl, _, rfl, ?_⟩
  cases run with
  | none =>
    have e : u = .non := hu
    subst e
    refine iteF ?_
    refine ⟨_, rfl, l, _, rfl, .inl ⟨SqL.of hl1, fun bt hbt => ?_⟩⟩
    have st := same_new hbt (.tup bs)
    exact ⟨_, rfl, p, C, dx, _, rfl, st _ _ hp1, DC.cl, DC.nB, by omega, fin H1 .non fs s0 hp1 hl1 (by omega) k1 k2 k3 rfl bt hbt⟩
  | some xs =>
    obtain ⟨t, e, ht⟩ := hu
    subst e
    refine iteT ?_
    have npt : t ≠ p := ne_of ht hp (by intro z; cases z)
    refine ⟨_, rfl, t, _, rfl, .inl ⟨SqL.of (s0 _ _ ht npt), fun rt hrt => ?_⟩⟩
    have st := same_new hrt (.tup xs)
    refine ⟨_, rfl, p, C, dx, _, rfl, st _ _ hp1, DC.cl, DC.nU, by omega, ?_⟩
    have hp2 : (upd (upd H1 rt (.tup xs)) p (.ins C dx (putF "run" (.ref rt) fs))) p = some (.ins C dx (putF "run" (.ref rt) fs)) := upd_same
    have s2 : SameD p H (upd (upd H1 rt (.tup xs)) p (.ins C dx (putF "run" (.ref rt) fs))) := (s0.trans (same_but st)).trans (SameD.put _)
    have hrt2 : (upd (upd H1 rt (.tup xs)) p (.ins C dx (putF "run" (.ref rt) fs))) rt = some (.tup xs) := by rw [upd_ne (ne_of_none hp1 hrt).symm, upd_same]
    generalize upd (upd H1 rt (.tup xs)) p (.ins C dx (putF "run" (.ref rt) fs)) = H2 at hp2 s2 hrt2
    refine ⟨_, rfl, l, _, rfl, .inl ⟨SqL.of (s2 _ _ hl npl), fun bt hbt => ?_⟩⟩
    have st2 := same_new hbt (.tup bs)
    have len2 := length_putF ("run" : Str) (.ref rt) fs
    exact ⟨_, rfl, p, C, dx, _, rfl, st2 _ _ hp2, DC.cl, DC.nB, by omega, fin H2 (.ref rt) _ s2 hp2 (s2 _ _ hl npl) (by omega) (by rw [lookup_putF, if_neg dRU]; exact k1) (by rw [lookup_putF, if_neg dCU]; exact k2) (by rw [lookup_putF, if_pos rfl]) ⟨rt, rfl, hrt2⟩ bt hbt⟩
theorem sc_start_marking : FnScope ["start", "count", "base", "free", "found"] ["start", "count"] (defScope sstart_marking) := ⟨rfl, rfl, rfl, by decide +kernel, rfl, by decide +kernel, by decide +kernel⟩
theorem ok_start_marking (F : Stands K mg "start_marking" sstart_marking ["start", "count"] f fd) (T : Blt mg) : Has P w K mg base "start_marking" ["start", "count"] 1 sp_start_marking := by
  refine ⟨f, fd, F.1.ok sc_start_marking (fun vs H Q E h => ?_) (fun cdv A outer s H vs Q E hr h => ?_), F.2.1, F.1.kp, F.2.2⟩
  · obtain ⟨s0, b, bm, fr, k, rfl, _⟩ := h
    rfl
  obtain ⟨s0, b, bm, fr, k, rfl, hs, hb, hf, q⟩ := h
  refine ⟨_, pss_cons (ps_asg (pv 0) (pg_tup rfl (pgs_cons (pg_name (i := 2) sc_start_marking.nd rfl (.inl rfl)) (pgs_cons (pg_name (i := 3) sc_start_marking.nd rfl (.inl rfl)) pgs_nil))))
    (pss_cons (ps_set (i := 4) sc_start_marking.nd rfl (.inl rfl) (pe_callTy call_list_of rfl T.list (by decide +kernel) (pa_cons (pv 2) pa_nil)))
    (pss_cons (ps_if (pt_cmpR op_ge (pv 3) pe_int (nomark _))
      (pss_one (ps_augS (pv 4) (pv 3) get_list (pv 1) ip_add set_list)) pss_nil)
    (pss_one (ps_ret (pe_callTy call_tuple_of rfl T.tuple (by decide +kernel) (pa_cons (pv 4) pa_nil)))))), ?_⟩
  refine ⟨_, rfl, s0, _, rfl, SqT.of hs, rfl, _, _, rfl, _, _, rfl, rfl, ?_⟩
  refine ⟨_, rfl, b, _, rfl, .inr (SqT.of hb), fun u hu => ?_⟩
  have su := same_new hu (.lst (bm.map V.int))
  refine ⟨_, rfl, _, _, rfl, rfl, _, rfl, ?_⟩
  refine ite2 (fun c => ?_) (fun c => ?_)
  · have c' : 0 ≤ fr := of_decide_eq_true c
    obtain ⟨j, rfl⟩ := Int.eq_ofNat_of_zero_le c'
    have hj : j < bm.length := by omega
    refine ⟨_, rfl, _, rfl, u, _, j, _, rfl, rfl, SqL.of upd_same, by rw [List.getElem?_map, List.getElem?_eq_getElem hj, ← gt_lt]; rfl, ?_⟩
    refine ⟨_, rfl, _, _, rfl, rfl, u, _, _, _, rfl, rfl, upd_same, by rw [len_int]; exact ixN_nat hj, ?_⟩
    rw [upd_upd, set_int]
    refine ⟨_, rfl, u, _, rfl, .inl ⟨SqL.of upd_same, fun a ha => ?_⟩⟩
    refine q a _ ((same_new hu _).trans (same_new ha _)) ?_
    show upd _ _ _ _ = _
    rw [upd_same, startM, if_pos c', Int.toNat_natCast]
  · have c' : ¬ 0 ≤ fr := fun z => c (decide_eq_true z)
    refine ⟨_, rfl, u, _, rfl, .inl ⟨SqL.of upd_same, fun a ha => ?_⟩⟩
    refine q a _ (su.trans (same_new ha _)) ?_
    show upd _ _ _ _ = _
    rw [upd_same, startM, if_neg c']
theorem sc_count_for : FnScope ["start", "member", "base", "free", "count", "place", "missing"] ["start", "member"] (defScope scount_for) := ⟨rfl, rfl, rfl, by decide +kernel, rfl, by decide +kernel, by decide +kernel⟩
theorem ok_count_for (F : Stands K mg "count_for" scount_for ["start", "member"] f fd) (T : Blt mg) : Has P w K mg base "count_for" ["start", "member"] 1 sp_count_for := by
  refine ⟨f, fd, F.1.ok sc_count_for (fun vs H Q E h => ?_) (fun cdv A outer s H vs Q E hr h => ?_), F.2.1, F.1.kp, F.2.2⟩
  · obtain ⟨s0, b, mb, bm, m, fr, rfl, _⟩ := h
    rfl
  obtain ⟨s0, b, mb, bm, m, fr, rfl, hs, hb, hm, hl, hz, hf, q⟩ := h
  refine ⟨_, pss_cons (ps_asg (pv 0) (pg_tup rfl (pgs_cons (pg_name (i := 2) sc_count_for.nd rfl (.inl rfl)) (pgs_cons (pg_name (i := 3) sc_count_for.nd rfl (.inl rfl)) pgs_nil))))
    (pss_cons (ps_set (i := 4) sc_count_for.nd rfl (.inl rfl) pe_int)
    (pss_cons (ps_for PassesOwn.never rfl (pi_range1 rfl T.range (pa_cons (pe_callB call_len_seq rfl T.len PySem.boot_len (pa_cons (pv 2) pa_nil)) pa_nil)) (pg_name (i := 5) sc_count_for.nd rfl (.inl rfl))
      (pss_cons (ps_set (i := 6) sc_count_for.nd rfl (.inl rfl) (pe_op op_sub (pe_ix ix_tup (pv 1) (pv 5) (fun _ _ => rfl)) (pe_ix ix_tup (pv 2) (pv 5) (fun _ _ => rfl))))
      (pss_one (ps_if (pt_cmpR op_gt (pv 6) pe_int (nomark _))
        (pss_cons (ps_if (pt_cmpR op_ne (pv 5) (pv 3) (nomark _))
          (pss_one (ps_ret pe_non)) pss_nil)
        (pss_one (ps_set (i := 4) sc_count_for.nd rfl (.inl rfl) (pv 6)))) pss_nil))))
    (pss_one (ps_ret (pv 4))))), ?_⟩
  refine ⟨_, rfl, s0, _, rfl, SqT.of hs, rfl, _, _, rfl, _, _, rfl, rfl, ?_⟩
  refine ⟨_, rfl, b, _, rfl, .inr (SqT.of hb), _, rfl, by omega, by rw [len_int]; omega, ?_⟩
  rw [len_int]
  refine for_range (lo := 0) (n := bm.length) (fun i σ H' => ∃ (c : Int) (v5 v6 : Option V), σ = [some (.ref s0), some (.ref mb), some (.ref b), some (.int fr), some (.int c), v5, v6] ∧ H' = H ∧ (∀ j, j < i → (j : Int) = fr ∨ gt m j ≤ gt bm j) ∧ c = if 0 ≤ fr ∧ fr < (i : Int) then max 0 (gt m fr.toNat - gt bm fr.toNat) else 0) ⟨0, none, none, rfl, rfl, fun j hj => absurd hj (Nat.not_lt_zero _), by rw [if_neg (by omega)]⟩ ?_ ?_
  · rintro i σ H' hi ⟨c, v5, v6, rfl, rfl, hp, hc⟩
    rw [Int.zero_add]
    refine ⟨_, rfl, _, rfl, mb, _, _, _, rfl, rfl, SqT.of hm, at_int (by omega), _, rfl, _, rfl, b, _, _, _, rfl, rfl, SqT.of hb, at_int hi, _, _, rfl, rfl, ?_⟩
    refine ⟨_, rfl, _, _, rfl, rfl, _, rfl, ?_⟩
    refine ite2 (fun c1 => ?_) (fun c1 => ?_)
    · have c1' : 0 < gt m i - gt bm i := of_decide_eq_true c1
      refine ⟨_, rfl, _, rfl, rfl, _, rfl, ?_⟩
      by_cases c2 : (i : Int) = fr
      · rw [decide_eq_true (congrArg V.int c2)]
        refine iteF ?_
        refine ⟨_, rfl, _, _, _, rfl, rfl, fun j hj => ?_, ?_⟩
        · rcases Nat.lt_succ_iff_lt_or_eq.mp hj with z | z
          · exact hp j z
          · subst z; exact .inl c2
        · have e : fr.toNat = i := by omega
          rw [if_pos (by omega), e]
          show gt m i - gt bm i = _
          omega
      · rw [decide_eq_false (fun z => c2 (by injection z))]
        refine iteT ?_
        have no : ¬ okC bm fr m = true := fun o => by
          rcases okC_iff.mp o i hi with z | z
          · exact c2 z
          · omega
        rw [if_neg no] at q
        exact q
    · have c1' : ¬ 0 < gt m i - gt bm i := fun z => c1 (decide_eq_true z)
      refine ⟨c, _, _, rfl, rfl, fun j hj => ?_, ?_⟩
      · rcases Nat.lt_succ_iff_lt_or_eq.mp hj with z | z
        · exact hp j z
        · subst z; exact .inr (by omega)
      · rw [hc]
        by_cases c2 : (i : Int) = fr
        · have e : fr.toNat = i := by omega
          rw [if_neg (by omega), if_pos (by omega), e]
          omega
        · by_cases c3 : 0 ≤ fr ∧ fr < (i : Int)
          · rw [if_pos c3, if_pos (by omega)]
          · rw [if_neg c3, if_neg (by omega)]
  · rintro σ H' ⟨c, v5, v6, rfl, rfl, hp, hc⟩
    have o : okC bm fr m = true := okC_iff.mpr hp
    have e : c = dueC bm fr m := by
      rw [hc, dueC]
      by_cases z : 0 ≤ fr
      · rw [if_pos ⟨z, hf⟩, if_pos z]
      · rw [if_neg (by omega), if_neg z]
    rw [if_pos o, ← e] at q
    exact ⟨_, rfl, q⟩
end
end K16
namespace K16
open PySem L2
theorem lc_snoc {bm : List Int} {fr : Int} {ms : List (List Int)} {m : List Int} : lc bm fr (ms ++ [m]) = lcS bm fr (lc bm fr ms) m := by
  unfold lc
  rw [List.foldl_append]
  rfl
theorem lcS_none {bm : List Int} {fr : Int} {m : List Int} (o : okC bm fr m = true) : lcS bm fr none m = some (dueC bm fr m) := if_pos o
theorem lcS_lt {bm : List Int} {fr c : Int} {m : List Int} (o : okC bm fr m = true) (h : dueC bm fr m < c) : lcS bm fr (some c) m = some (dueC bm fr m) := (if_pos o).trans (if_pos h)
theorem lcS_ge {bm : List Int} {fr c : Int} {m : List Int} (o : okC bm fr m = true) (h : ¬ dueC bm fr m < c) : lcS bm fr (some c) m = some c := (if_pos o).trans (if_neg h)
theorem lcS_no {bm : List Int} {fr : Int} {acc : Option Int} {m : List Int} (o : ¬ okC bm fr m = true) : lcS bm fr acc m = acc := if_neg o
section
variable {P : Program} {w : World} {K : PySem.W.Frag} {mg : Str → Option Value} {base : Heap} {f : Addr} {fd : FuncData}
theorem sc_least_count : FnScope ["start", "members", "found", "member", "count"] ["start", "members"] (defScope sleast_count) := ⟨rfl, rfl, rfl, by decide +kernel, rfl, by decide +kernel, by decide +kernel⟩
theorem ok_least_count (F : Stands K mg "least_count" sleast_count ["start", "members"] f fd) (T : Blt mg) (Ccount_for : Has P w K mg base "count_for" ["start", "member"] 1 sp_count_for) : Has P w K mg base "least_count" ["start", "members"] 2 (sp_least_count K) := by
  obtain ⟨_, _, Gcount_for, mcount_for, kcount_for, bcount_for⟩ := Ccount_for
  refine ⟨f, fd, F.1.ok sc_least_count (fun vs H Q E h => ?_) (fun cdv A outer s H vs Q E hr h => ?_), F.2.1, F.1.kp, F.2.2⟩
  · obtain ⟨s0, b, l, bm, fr, ks, rfl, _⟩ := h
    rfl
  obtain ⟨s0, b, l, bm, fr, ks, rfl, hs, hb, hl, hk, hn, hz, hf, q⟩ := h
  refine ⟨_, pss_cons (ps_set (i := 2) sc_least_count.nd rfl (.inl rfl) pe_non)
    (pss_cons (ps_for PassesOwn.never rfl (pi_list (pv 1)) (pg_name (i := 3) sc_least_count.nd rfl (.inl rfl))
      (pss_cons (ps_set (i := 4) sc_least_count.nd rfl (.inl rfl) (pe_call Gcount_for hr rfl mcount_for kcount_for bcount_for .nil pass0 (pa_cons (pv 0) (pa_cons (pv 3) pa_nil))))
      (pss_one (ps_if (PW.pt (pw_and (pt_cmpR op_notN (pv 4) pe_non (nomark _)) (pw_and1 (PW.pt (pw_or (pt_cmpR op_isN (pv 2) pe_non (nomark _)) (pw_or1 (pt_cmpR op_lt (pv 4) (pv 2) (nomark _))))))))
        (pss_one (ps_set (i := 2) sc_least_count.nd rfl (.inl rfl) (pv 4))) pss_nil))))
    (pss_one (ps_ret (pv 2)))), ?_⟩
  refine ⟨_, rfl, l, rfl, ⟨_, hl⟩, for_list (K := K) (a := l) (xs := refs ks) (fun i σ H' => ∃ (v3 v4 : Option V), σ = [some (.ref s0), some (.ref l), some (encO (lc bm fr ((ks.take i).map (·.2)))), v3, v4] ∧ H' = H) ⟨none, none, rfl, rfl⟩ (fun i σ H' _ h => ?_) (fun i x σ H' hx h => ?_) fun σ H' h => ?_⟩
  · obtain ⟨_, _, _, rfl⟩ := h
    exact hl
  · obtain ⟨v3, v4, rfl, rfl⟩ := h
    obtain ⟨x, e, rfl⟩ := ref_at hx
    have hm := List.mem_of_getElem? e
    refine ⟨_, rfl, _, rfl, s0, b, x.1, bm, x.2, fr, rfl, hs, hb, hk x hm, hn x hm, hz, hf, ?_⟩
    rw [take_succ' e, List.map_append]
    have step : lc bm fr ((ks.take i).map (·.2) ++ [x.2]) = lcS bm fr (lc bm fr ((ks.take i).map (·.2))) x.2 := lc_snoc
    rw [show [x].map (·.2) = [x.2] from rfl, step]
    by_cases o : okC bm fr x.2 = true
    · rw [if_pos o]
      refine ⟨_, rfl, rfl, _, rfl, iteT ?_⟩
      cases ea : lc bm fr ((ks.take i).map (·.2)) with
      | none =>
        rw [lcS_none o]
        exact ⟨_, rfl, rfl, _, rfl, iteT (iteT ⟨_, rfl, _, _, rfl, rfl⟩)⟩
      | some c0 =>
        refine ⟨_, rfl, rfl, _, rfl, iteF ?_⟩
        refine ⟨_, rfl, _, rfl, _, _, rfl, rfl, _, rfl, ?_⟩
        refine ite2 (fun c => ?_) (fun c => ?_)
        · have c' : dueC bm fr x.2 < c0 := of_decide_eq_true c
          rw [lcS_lt o c']
          exact ⟨_, rfl, _, _, rfl, rfl⟩
        · have c' : ¬ dueC bm fr x.2 < c0 := fun z => c (decide_eq_true z)
          rw [lcS_ge o c']
          exact ⟨_, _, rfl, rfl⟩
    · rw [if_neg o]
      rw [lcS_no o]
      exact ⟨_, rfl, rfl, _, rfl, iteF (iteF ⟨_, _, rfl, rfl⟩)⟩
  · obtain ⟨v3, v4, rfl, rfl⟩ := h
    rw [len_ref, List.take_length]
    exact ⟨_, rfl, q⟩
end
end K16
namespace K16
open PySem L2
def sp_Lstart : Sp := fun vs H Q _ => ∃ (b : Addr) (bm : List Int) (fr k : Int), vs = [.ref b, .int fr, .int k] ∧ Tu H b bm ∧ fr < bm.length ∧ bm.length ≤ 1000 ∧
  ∀ (a : Addr) (H' : Hp), Same H H' → Tu H' a (startM bm fr k) → Q (.ref a) H'
def encL : Option Int → Int
  | none => -1
  | some c => c
def sp_Lcount (K : PySem.W.Frag) : Sp := fun vs H Q _ => ∃ (b l : Addr) (bm : List Int) (fr : Int) (ks : List (Addr × List Int)), vs = [.ref b, .int fr, .ref l] ∧ Tu H b bm ∧ SqT K H l (refs ks) ∧ Tus H ks ∧ (∀ p ∈ ks, p.2.length = bm.length) ∧ bm.length ≤ 1000 ∧ fr < bm.length ∧
  Q (.int (encL (lc bm fr (ks.map (·.2))))) H
def sp_Lis_run : Sp := fun vs H Q _ => ∃ (a : Addr) (m : List Int) (n : Int), vs = [.ref a, .int n] ∧ Tu H a m ∧ (∀ i, i < m.length → 0 ≤ gt m i ∧ gt m i < n) ∧ Q (.bl true) H
def FireIs (H : Hp) (o : Option (List Int)) (v : V) : Prop := match o with
  | none => v = .non
  | some m => ∃ a : Addr, v = .ref a ∧ Tu H a m
theorem FireIs.up {H H' : Hp} {o : Option (List Int)} {v : V} (h : FireIs H o v) (s : Same H H') : FireIs H' o v := by
  cases o with
  | none => exact h
  | some m =>
    obtain ⟨a, e, t⟩ := h
    exact ⟨a, e, t.up s⟩
def sp_Lfire : Sp := fun vs H Q _ => ∃ (a b : Addr) (t : Tr) (m : List Int) (n : Nat), vs = [.ref a, .ref b] ∧ TrAt H a t ∧ Tu H b m ∧ TrOk n t ∧ m.length = n ∧ n ≤ 1000 ∧
  ∀ (v : V) (H' : Hp), Same H H' → FireIs H' (fireM t m) v → Q v H'
def sp_Lrun (K : PySem.W.Frag) : Sp := fun vs H Q _ => ∃ (l b r : Addr) (ks : List (Addr × Tr)) (m : List Int) (run : List Nat) (n : Nat), vs = [.ref l, .ref b, .ref r] ∧ SqL K H l (refs ks) ∧ Trs H ks ∧ TrsOk n (ks.map (·.2)) ∧ Tu H b m ∧ m.length = n ∧ n ≤ 1000 ∧ Tu H r (run.map Int.ofNat) ∧ (∀ k ∈ run, k < ks.length) ∧
  ∀ (v : V) (H' : Hp), Same H H' → FireIs H' (runM (ks.map (·.2)) m run) v → Q v H'
theorem cut_lo {m : List Int} {j : Nat} (h : j ≤ m.length) : cutV (m.map V.int) none (some (j : Int)) = (m.take j).map V.int := by
  unfold cutV
  rw [HT.sIx_none, HT.sIx_nat, len_int, List.drop_zero, Nat.sub_zero, Nat.min_eq_left h, List.map_take]
theorem cut_hi {m : List Int} {j : Nat} : cutV (m.map V.int) (some (j : Int)) none = (m.drop j).map V.int := by
  unfold cutV
  rw [HT.sIx_none, HT.sIx_nat, len_int, List.map_drop]
  by_cases c : j ≤ m.length
  · rw [Nat.min_eq_left c, List.take_of_length_le (by rw [List.length_drop, len_int]; omega)]
  · rw [Nat.min_eq_right (by omega), List.drop_eq_nil_of_le (by rw [len_int]; omega), List.drop_eq_nil_of_le (by rw [len_int]; omega), List.take_nil]
theorem set_cut {m : List Int} {j : Nat} {v : Int} (h : j < m.length) : m.set j v = m.take j ++ ([v] ++ m.drop (j + 1)) := by
  rw [List.set_eq_take_append_cons_drop, if_pos h]
  rfl
section
variable {P : Program} {w : World} {K : PySem.W.Frag} {mg : Str → Option Value} {base : Heap} {f : Addr} {fd : FuncData}
theorem sc_Lstart : FnScope ["_law_base", "_law_free", "_law_count_here"] ["_law_base", "_law_free", "_law_count_here"] (defScope sLstart) := ⟨rfl, rfl, rfl, by decide +kernel, rfl, by decide +kernel, by decide +kernel⟩
theorem ok_Lstart (F : Stands K mg "_law_start" sLstart ["_law_base", "_law_free", "_law_count_here"] f fd) (T : Blt mg) : Has P w K mg base "_law_start" ["_law_base", "_law_free", "_law_count_here"] 1 sp_Lstart := by
  refine ⟨f, fd, F.1.ok sc_Lstart (fun vs H Q E h => ?_) (fun cdv A outer s H vs Q E hr h => ?_), F.2.1, F.1.kp, F.2.2⟩
  · obtain ⟨b, bm, fr, k, rfl, _⟩ := h
    rfl
  obtain ⟨b, bm, fr, k, rfl, hb, hf, hz, q⟩ := h
  refine ⟨_, pss_cons (ps_if (pt_cmpR op_lt (pv 1) pe_int (nomark _))
      (pss_one (ps_ret (pv 0))) pss_nil)
    (pss_one (ps_ret (pe_op op_catA (pe_op op_catA (pe_slice sl_tupA (pv 0) po_none (po_some (pv 1))) (pe_tup (pa_cons (pe_op op_add (pe_ix ix_tup (pv 0) (pv 1) (fun _ _ => rfl)) (pv 2)) pa_nil))) (pe_slice sl_tupA (pv 0) (po_some (pe_op op_add (pv 1) pe_int)) po_none)))), ?_⟩
  refine ⟨_, rfl, _, _, rfl, rfl, _, rfl, ?_⟩
  refine ite2 (fun c => ?_) (fun c => ?_)
  · have c' : fr < 0 := of_decide_eq_true c
    refine ⟨_, rfl, q b H (Same.refl H) ?_⟩
    rw [startM, if_neg (by omega)]
    exact hb
  · have c' : ¬ fr < 0 := fun z => c (decide_eq_true z)
    obtain ⟨j, rfl⟩ := Int.eq_ofNat_of_zero_le (Int.not_lt.mp c')
    have hj : j < bm.length := by omega
    have eS : startM bm (j : Int) k = bm.take j ++ ([gt bm j + k] ++ bm.drop (j + 1)) := by
      rw [startM, if_pos (by omega), Int.toNat_natCast, set_cut hj]
    have z1 : 1 ≤ sizeLine := by rw [line_eq]; omega
    -- a slice: some tuple with these items
    have cut : ∀ (H1 : Hp) (lo hi : Option Int) (m : List Int) (R : VK), Tu H1 b bm → cutV (bm.map V.int) lo hi = m.map V.int → (HT.sIx bm.length 0 lo = 0 ∧ HT.sIx bm.length bm.length hi = bm.length → m = bm) →
        (∀ (a : Addr) (H2 : Hp), Same H1 H2 → Tu H2 a m → R (.ref a) H2) → rSlA K (.ref b) lo hi H1 R := fun H1 lo hi m R hb1 e1 e2 r => by
      refine ⟨b, _, rfl, SqT.of hb1, fun h => ?_, fun h p hp => ?_⟩
      · rw [len_int] at h
        refine r b H1 (Same.refl H1) ?_
        rw [e2 h]
        exact hb1
      · refine r p _ (same_new hp _) ?_
        show upd _ _ _ _ = _
        rw [upd_same, e1]
    have join : ∀ (H1 : Hp) (a c : Addr) (x y : List Int) (R : VK), Tu H1 a x → Tu H1 c y → x.length + y.length ≤ 5000 → (∀ (u : Addr) (H2 : Hp), Same H1 H2 → Tu H2 u (x ++ y) → R (.ref u) H2) → rCatA K (.ref a) (.ref c) H1 R := fun H1 a c x y R ha hc hs r => by
      refine ⟨a, c, _, _, rfl, rfl, SqT.of ha, SqT.of hc, by rw [len_int, len_int, line_eq]; omega, fun e => ?_, fun _ e => ?_, fun _ _ p hp => ?_⟩
      · have e' : x = [] := List.map_eq_nil_iff.mp e
        subst e'
        exact r c H1 (Same.refl H1) hc
      · have e' : y = [] := List.map_eq_nil_iff.mp e
        subst e'
        refine r a H1 (Same.refl H1) ?_
        rw [List.append_nil]
        exact ha
      · refine r p _ (same_new hp _) ?_
        show upd _ _ _ _ = _
        rw [upd_same, List.map_append]
    refine ⟨_, rfl, _, rfl, _, rfl, cut H none (some (j : Int)) (bm.take j) _ hb (cut_lo (by omega)) (fun h => ?_) fun a1 H1 s1 h1 => ?_⟩
    · rw [HT.sIx_nat] at h
      exact List.take_of_length_le (by omega)
    refine ⟨_, rfl, _, rfl, b, _, _, _, rfl, rfl, SqT.of (hb.up s1), at_int hj, _, rfl, _, _, rfl, rfl, z1, fun p hp => ?_⟩
    have s2 := same_new hp (.tup [V.int (bm.getD j 0 + k)])
    have hp2 : Tu (upd H1 p (.tup [V.int (bm.getD j 0 + k)])) p [gt bm j + k] := upd_same
    refine join _ a1 p (bm.take j) [gt bm j + k] _ (h1.up s2) hp2 (by rw [List.length_take, List.length_singleton]; omega) fun u1 H3 s3 h3 => ?_
    refine ⟨_, rfl, _, rfl, _, _, rfl, rfl, _, rfl, ?_⟩
    dsimp only [tNoPart]
    refine cut H3 (some ((j : Int) + 1)) none (bm.drop (j + 1)) _ (hb.up (s1.trans (s2.trans s3))) (cut_hi (j := j + 1)) (fun h => ?_) fun a4 H4 s4 h4 => ?_
    · have h0 : HT.sIx bm.length 0 (some ((j + 1 : Nat) : Int)) = 0 := h.1
      rw [HT.sIx_nat] at h0
      omega
    refine join _ u1 a4 _ _ _ (h3.up s4) h4 (by simp; omega) fun u5 H5 s5 h5 => ?_
    refine q u5 H5 (s1.trans (s2.trans (s3.trans (s4.trans s5)))) ?_
    rw [eS, ← List.append_assoc]
    exact h5
end
end K16
namespace K16
open PySem L2
theorem encL_lt {base : List Int} {fr : Int} {ms : List (List Int)} : encL (lc base fr ms) < 0 ↔ lc base fr ms = none := by
  cases h : lc base fr ms with
  | none => simp [encL]
  | some c =>
    rcases lc_some ms none c h with z | ⟨m, _, _, e⟩
    · cases z
    · have := dueC_nonneg base fr m
      simp only [encL]
      constructor
      · intro z; omega
      · intro z; cases z
theorem runM_step (ts : List Tr) (k : Nat) : ∀ (r : List Nat) (x : List Int), runM ts x (r ++ [k]) = match runM ts x r with
      | some y => match ts[k]? with
        | some t => fireM t y
        | none => none
      | none => none
  | [], x => by
    show runM ts x [k] = _
    simp only [runM]
    cases ts[k]? with
    | none => rfl
    | some t =>
      dsimp only
      cases fireM t x <;> rfl
  | a :: r, x => by
    rw [List.cons_append]
    unfold runM
    cases ts[a]? with
    | none => rfl
    | some u =>
      dsimp only
      cases fireM u x with
      | none => rfl
      | some v => exact runM_step ts k r v
section
variable {P : Program} {w : World} {K : PySem.W.Frag} {mg : Str → Option Value} {base : Heap} {f : Addr} {fd : FuncData}
theorem sc_Lcount : FnScope ["_law_base", "_law_free", "_law_members", "_law_best", "_law_member", "_law_due", "_law_good", "_law_place", "_law_missing"] ["_law_base", "_law_free", "_law_members"] (defScope sLcount) := ⟨rfl, rfl, rfl, by decide +kernel, rfl, by decide +kernel, by decide +kernel⟩
theorem ok_Lcount (F : Stands K mg "_law_count" sLcount ["_law_base", "_law_free", "_law_members"] f fd) (T : Blt mg) : Has P w K mg base "_law_count" ["_law_base", "_law_free", "_law_members"] 1 (sp_Lcount K) := by
  refine ⟨f, fd, F.1.ok sc_Lcount (fun vs H Q E h => ?_) (fun cdv A outer s H vs Q E hr h => ?_), F.2.1, F.1.kp, F.2.2⟩
  · obtain ⟨b, l, bm, fr, ks, rfl, _⟩ := h
    rfl
  obtain ⟨b, l, bm, fr, ks, rfl, hb, hl, hk, hn, hz, hf, q⟩ := h
  refine ⟨_, pss_cons (ps_set (i := 3) sc_Lcount.nd rfl (.inl rfl) (pe_un un_neg pe_int))
    (pss_cons (ps_for PassesOwn.never rfl (pi_tup (pv 2)) (pg_name (i := 4) sc_Lcount.nd rfl (.inl rfl))
      (pss_cons (ps_set (i := 5) sc_Lcount.nd rfl (.inl rfl) pe_int)
      (pss_cons (ps_set (i := 6) sc_Lcount.nd rfl (.inl rfl) pe_bl)
      (pss_cons (ps_for PassesOwn.never rfl (pi_range1 rfl T.range (pa_cons (pe_callB call_len_seq rfl T.len PySem.boot_len (pa_cons (pv 0) pa_nil)) pa_nil)) (pg_name (i := 7) sc_Lcount.nd rfl (.inl rfl))
        (pss_cons (ps_set (i := 8) sc_Lcount.nd rfl (.inl rfl) (pe_callB (call_max2 rfl) rfl T.max (by decide +kernel) (pa_cons pe_int (pa_cons (pe_op op_sub (pe_ix ix_tup (pv 4) (pv 7) (fun _ _ => rfl)) (pe_ix ix_tup (pv 0) (pv 7) (fun _ _ => rfl))) pa_nil))))
        (pss_one (ps_if (pt_cmpR op_eq (pv 7) (pv 1) (nomark _))
          (pss_one (ps_set (i := 5) sc_Lcount.nd rfl (.inl rfl) (pv 8))) (pss_one (ps_if (pt_cmpR op_gt (pv 8) pe_int (nomark _))
            (pss_one (ps_set (i := 6) sc_Lcount.nd rfl (.inl rfl) pe_bl)) pss_nil))))))
      (pss_one (ps_if (PW.pt (pw_and (pt_val (pv 6)) (pw_and1 (PW.pt (pw_or (pt_cmpR op_lt (pv 3) pe_int (nomark _)) (pw_or1 (pt_cmpR op_lt (pv 5) (pv 3) (nomark _))))))))
        (pss_one (ps_set (i := 3) sc_Lcount.nd rfl (.inl rfl) (pv 5))) pss_nil))))))
    (pss_one (ps_ret (pv 3)))), ?_⟩
  refine ⟨_, rfl, ?_⟩
  refine ⟨_, rfl, l, rfl, ⟨_, hl⟩, for_tup (K := K) (a := l) (xs := refs ks) (fun i σ H' => ∃ (v4 v5 v6 v7 v8 : Option V), σ = [some (.ref b), some (.int fr), some (.ref l), some (.int (encL (lc bm fr ((ks.take i).map (·.2))))), v4, v5, v6, v7, v8] ∧ H' = H) ⟨none, none, none, none, none, rfl, rfl⟩ (fun i σ H' _ h => ?_) (fun i x σ H' hx h => ?_) fun σ H' h => ?_⟩
  · obtain ⟨_, _, _, _, _, _, rfl⟩ := h
    exact hl
  · obtain ⟨v4, v5, v6, v7, v8, rfl, rfl⟩ := h
    obtain ⟨x, e, rfl⟩ := ref_at hx
    have hm := List.mem_of_getElem? e
    have hx' := hk x hm
    have hxn := hn x hm
    have step : lc bm fr ((ks.take i).map (·.2) ++ [x.2]) = lcS bm fr (lc bm fr ((ks.take i).map (·.2))) x.2 := lc_snoc
    refine ⟨_, rfl, b, _, rfl, .inr (SqT.of hb), _, rfl, by omega, by rw [len_int]; omega, ?_⟩
    rw [len_int]
    refine for_range (lo := 0) (n := bm.length) (fun j σ H2 => ∃ (d : Int) (g : Bool) (v7 v8 : Option V), σ = [some (.ref b), some (.int fr), some (.ref l), some (.int (encL (lc bm fr ((ks.take i).map (·.2))))), some (.ref x.1), some (.int d), some (.bl g), v7, v8] ∧ H2 = H' ∧ (g = true ↔ ∀ k, k < j → (k : Int) = fr ∨ gt x.2 k ≤ gt bm k) ∧ d = if 0 ≤ fr ∧ fr < (j : Int) then max 0 (gt x.2 fr.toNat - gt bm fr.toNat) else 0)
      ⟨0, true, v7, v8, rfl, rfl, ⟨fun _ k hk => absurd hk (Nat.not_lt_zero _), fun _ => rfl⟩, by rw [if_neg (by omega)]⟩ ?_ ?_
    · rintro j σ H2 hj ⟨d, g, v7, v8, rfl, rfl, hg, hd⟩
      rw [Int.zero_add]
      refine ⟨_, rfl, _, rfl, x.1, _, _, _, rfl, rfl, SqT.of hx', at_int (by omega), _, rfl, _, rfl, b, _, _, _, rfl, rfl, SqT.of hb, at_int hj, _, _, rfl, rfl, _, _, rfl, ?_⟩
      have em : (if x.2.getD j 0 - bm.getD j 0 > 0 then x.2.getD j 0 - bm.getD j 0 else 0) = max 0 (gt x.2 j - gt bm j) := by
        show (if gt x.2 j - gt bm j > 0 then gt x.2 j - gt bm j else 0) = _
        split <;> omega
      rw [em]
      refine ⟨_, rfl, _, rfl, rfl, _, rfl, ?_⟩
      by_cases c2 : (j : Int) = fr
      · rw [decide_eq_true (congrArg V.int c2)]
        refine iteT ⟨_, rfl, _, g, _, _, rfl, rfl, ⟨fun z k hk => ?_, fun z => hg.mpr fun k hk => z k (by omega)⟩, ?_⟩
        · rcases Nat.lt_succ_iff_lt_or_eq.mp hk with y | y
          · exact hg.mp z k y
          · subst y; exact .inl c2
        · have e2 : fr.toNat = j := by omega
          rw [if_pos (by omega), e2]
      · rw [decide_eq_false (fun z => c2 (by injection z))]
        refine iteF ⟨_, rfl, _, _, rfl, rfl, _, rfl, ?_⟩
        have hd' : d = if 0 ≤ fr ∧ fr < ((j + 1 : Nat) : Int) then max 0 (gt x.2 fr.toNat - gt bm fr.toNat) else 0 := by
          rw [hd]
          by_cases c3 : 0 ≤ fr ∧ fr < (j : Int)
          · rw [if_pos c3, if_pos (by omega)]
          · rw [if_neg c3, if_neg (by omega)]
        refine ite2 (fun c1 => ?_) (fun c1 => ?_)
        · have c1' : 0 < max 0 (gt x.2 j - gt bm j) := of_decide_eq_true c1
          refine ⟨d, false, _, _, rfl, rfl, ⟨fun z => Bool.noConfusion z, fun z => ?_⟩, hd'⟩
          rcases z j (by omega) with y | y
          · exact absurd y c2
          · omega
        · have c1' : ¬ 0 < max 0 (gt x.2 j - gt bm j) := fun z => c1 (decide_eq_true z)
          refine ⟨d, g, _, _, rfl, rfl, ⟨fun z k hk => ?_, fun z => hg.mpr fun k hk => z k (by omega)⟩, hd'⟩
          rcases Nat.lt_succ_iff_lt_or_eq.mp hk with y | y
          · exact hg.mp z k y
          · subst y; exact .inr (by omega)
    · rintro σ H2 ⟨d, g, v7, v8, rfl, rfl, hg, hd⟩
      have og : g = okC bm fr x.2 := by
        cases g with
        | true => exact (okC_iff.mpr (hg.mp rfl)).symm
        | false =>
          cases o : okC bm fr x.2 with
          | false => rfl
          | true => exact hg.mpr (okC_iff.mp o)
      have ed : d = dueC bm fr x.2 := by
        rw [hd, dueC]
        by_cases z : 0 ≤ fr
        · rw [if_pos ⟨z, hf⟩, if_pos z]
        · rw [if_neg (by omega), if_neg z]
      rw [take_succ' e, List.map_append]
      rw [show [x].map (·.2) = [x.2] from rfl, step]
      refine ⟨_, rfl, g, rfl, ?_⟩
      by_cases o : okC bm fr x.2 = true
      · rw [og, o]
        refine iteT ⟨_, rfl, _, _, rfl, rfl, _, rfl, ?_⟩
        cases ea : lc bm fr ((ks.take i).map (·.2)) with
        | none =>
          rw [lcS_none o, ← ed]
          exact iteT (iteT ⟨_, rfl, _, _, _, _, _, rfl, rfl⟩)
        | some c0 =>
          have c0p : 0 ≤ c0 := by
            rcases lc_some _ none c0 ea with z | ⟨m, _, _, e⟩
            · cases z
            · have := dueC_nonneg bm fr m
              omega
          rw [decide_eq_false (show ¬ encL (some c0) < 0 from by show ¬ c0 < 0; omega)]
          refine iteF ⟨_, rfl, _, rfl, _, _, rfl, rfl, _, rfl, ?_⟩
          refine ite2 (fun c => ?_) (fun c => ?_)
          · have c' : d < c0 := of_decide_eq_true c
            rw [lcS_lt o (ed ▸ c'), ← ed]
            exact ⟨_, rfl, _, _, _, _, _, rfl, rfl⟩
          · have c' : ¬ d < c0 := fun z => c (decide_eq_true z)
            rw [lcS_ge o (ed ▸ c')]
            exact ⟨_, _, _, _, _, rfl, rfl⟩
      · have o' : okC bm fr x.2 = false := Bool.eq_false_iff.mpr o
        rw [og, o', lcS_no o]
        exact iteF (iteF ⟨_, _, _, _, _, rfl, rfl⟩)
  · obtain ⟨v4, v5, v6, v7, v8, rfl, rfl⟩ := h
    rw [len_ref, List.take_length]
    exact ⟨_, rfl, q⟩
theorem sc_Lis_run : FnScope ["_law_actual", "_law_count_here", "_law_index"] ["_law_actual", "_law_count_here"] (defScope sLis_run) := ⟨rfl, rfl, rfl, by decide +kernel, rfl, by decide +kernel, by decide +kernel⟩
theorem ok_Lis_run (F : Stands K mg "_law_is_run" sLis_run ["_law_actual", "_law_count_here"] f fd) (T : Blt mg) (CLis_integer : Has P w K mg base "_law_is_integer" ["_law_actual"] 1 sp_Lis_integer) : Has P w K mg base "_law_is_run" ["_law_actual", "_law_count_here"] 2 sp_Lis_run := by
  obtain ⟨_, _, GLis_integer, mLis_integer, kLis_integer, bLis_integer⟩ := CLis_integer
  refine ⟨f, fd, F.1.ok sc_Lis_run (fun vs H Q E h => ?_) (fun cdv A outer s H vs Q E hr h => ?_), F.2.1, F.1.kp, F.2.2⟩
  · obtain ⟨a, m, n, rfl, _⟩ := h
    rfl
  obtain ⟨a, m, n, rfl, ha, hp, q⟩ := h
  refine ⟨_, pss_cons (ps_if (PW.pt (pw_and (pt_not (pt_val (pe_callB call_isi rfl T.isinstance (by decide +kernel) (pa_cons (pv 0) (pa_cons (pe_bltn (v := .ty "list") rfl T.list (by decide +kernel) rfl) pa_nil))))) (pw_and1 (pt_not (pt_val (pe_callB call_isi rfl T.isinstance (by decide +kernel) (pa_cons (pv 0) (pa_cons (pe_bltn (v := .ty "tuple") rfl T.tuple (by decide +kernel) rfl) pa_nil))))))))
      (pss_one (ps_ret pe_bl)) pss_nil)
    (pss_cons (ps_for PassesOwn.never rfl (pi_tup (pv 0)) (pg_name (i := 2) sc_Lis_run.nd rfl (.inl rfl))
      (pss_one (ps_if (PW.pt (pw_or (pt_not (pt_val (pe_call GLis_integer hr rfl mLis_integer kLis_integer bLis_integer .nil pass0 (pa_cons (pv 2) pa_nil)))) (pw_or (pt_cmpR op_lt (pv 2) pe_int (nomark _)) (pw_or1 (pt_cmpR op_ge (pv 2) (pv 1) (nomark _))))))
        (pss_one (ps_ret pe_bl)) pss_nil)))
    (pss_one (ps_ret pe_bl))), ?_⟩
  refine ⟨_, rfl, _, _, .type "tuple", _, false, rfl, .ty "list", .base (.tup ha), kit_ty (by decide +kernel), _, rfl, iteT ?_⟩
  refine ⟨_, rfl, _, _, .type "tuple", _, true, rfl, .ty "tuple", .base (.tup ha), kit_ty (by decide +kernel), _, rfl, iteF ?_⟩
  refine ⟨_, rfl, a, rfl, ⟨_, SqT.of ha⟩, for_tup (K := K) (a := a) (xs := m.map V.int) (fun i σ H' => ∃ v, σ = [some (.ref a), some (.int n), v] ∧ H' = H) ⟨none, rfl, rfl⟩ (fun i σ H' _ h => ?_) (fun i x σ H' hx h => ?_) fun σ H' h => ?_⟩
  · obtain ⟨v, _, rfl⟩ := h
    exact SqT.of ha
  · obtain ⟨v, rfl, rfl⟩ := h
    obtain ⟨hi, rfl⟩ := int_at hx
    have := hp i hi
    refine ⟨_, rfl, _, rfl, _, rfl, iteF ?_⟩
    refine ⟨_, rfl, _, _, rfl, rfl, _, rfl, ?_⟩
    rw [decide_eq_false (by omega)]
    refine iteF ⟨_, rfl, _, rfl, _, _, rfl, rfl, _, rfl, ?_⟩
    rw [decide_eq_false (by omega)]
    exact iteF ⟨_, rfl, rfl⟩
  · obtain ⟨v, rfl, rfl⟩ := h
    exact q
theorem sc_Lfire : FnScope ["_law_transition_here", "_law_marking_here", "_law_takes", "_law_gives", "_law_moves", "_law_found", "_law_k", "_law_target"] ["_law_transition_here", "_law_marking_here"] (defScope sLfire) := ⟨rfl, rfl, rfl, by decide +kernel, rfl, by decide +kernel, by decide +kernel⟩
theorem ok_Lfire (F : Stands K mg "_law_fire" sLfire ["_law_transition_here", "_law_marking_here"] f fd) (T : Blt mg) (CLcovers : Has P w K mg base "_law_covers" ["_law_first", "_law_second"] 1 spCovers) : Has P w K mg base "_law_fire" ["_law_transition_here", "_law_marking_here"] 2 sp_Lfire := by
  obtain ⟨_, _, GLcovers, mLcovers, kLcovers, bLcovers⟩ := CLcovers
  refine ⟨f, fd, F.1.ok sc_Lfire (fun vs H Q E h => ?_) (fun cdv A outer s H vs Q E hr h => ?_), F.2.1, F.1.kp, F.2.2⟩
  · obtain ⟨a, b, t, m, n, rfl, _⟩ := h
    rfl
  obtain ⟨a, b, t, m, n, rfl, ha, hb, ok, hm, hn, q⟩ := h
  obtain ⟨a1, a2, a3, h0, h1, h2, h3⟩ := ha
  refine ⟨_, pss_cons (ps_asg (pv 0) (pg_tup rfl (pgs_cons (pg_name (i := 2) sc_Lfire.nd rfl (.inl rfl)) (pgs_cons (pg_name (i := 3) sc_Lfire.nd rfl (.inl rfl)) (pgs_cons (pg_name (i := 4) sc_Lfire.nd rfl (.inl rfl)) pgs_nil)))))
    (pss_cons (ps_if (pt_not (pt_val (pe_call GLcovers hr rfl mLcovers kLcovers bLcovers .nil pass0 (pa_cons (pv 1) (pa_cons (pv 2) pa_nil)))))
      (pss_one (ps_ret pe_non)) pss_nil)
    (pss_cons (ps_set (i := 5) sc_Lfire.nd rfl (.inl rfl) (pe_callTy call_list_of rfl T.list (by decide +kernel) (pa_cons (pv 3) pa_nil)))
    (pss_cons (ps_for PassesOwn.never rfl (pi_range1 rfl T.range (pa_cons (pe_callB call_len_seq rfl T.len PySem.boot_len (pa_cons (pv 1) pa_nil)) pa_nil)) (pg_name (i := 6) sc_Lfire.nd rfl (.inl rfl))
      (pss_one (ps_if (pt_cmpR op_ge (pe_ix ix_tup (pv 4) (pv 6) (fun _ _ => rfl)) pe_int (nomark _))
        (pss_cons (ps_set (i := 7) sc_Lfire.nd rfl (.inl rfl) (pe_ix ix_tup (pv 4) (pv 6) (fun _ _ => rfl)))
        (pss_one (ps_asg (pe_op op_sub (pe_op op_add (pe_ix ix_list (pv 5) (pv 7) (fun _ _ => rfl)) (pe_ix ix_tup (pv 1) (pv 6) (fun _ _ => rfl))) (pe_ix ix_tup (pv 2) (pv 6) (fun _ _ => rfl))) (pg_sub (pv 5) (pv 7) set_list)))) pss_nil)))
    (pss_one (ps_ret (pe_callTy call_tuple_of rfl T.tuple (by decide +kernel) (pa_cons (pv 5) pa_nil))))))), ?_⟩
  refine ⟨_, rfl, a, _, rfl, SqT.of h0, rfl, _, _, rfl, _, _, rfl, _, _, rfl, rfl, ?_⟩
  have l1 := ok.ltk
  have l2 := ok.lgv
  have l3 := ok.lmv
  refine ⟨_, rfl, _, rfl, b, a1, m, t.tk, rfl, hb, h1, by omega, by omega, _, rfl, ?_⟩
  cases c : cov m t.tk with
  | false => exact iteT (q .non H (Same.refl H) (by rw [fireM, if_neg (by rw [c]; decide)]; rfl))
  | true =>
    refine iteF ?_
    refine ⟨_, rfl, a2, _, rfl, .inr (SqT.of h2), fun u hu => ?_⟩
    have su := same_new hu (.lst (t.gv.map V.int))
    have ne : ∀ {x : Addr} {y : List Int}, Tu H x y → x ≠ u := fun h => ne_of_none h hu
    refine ⟨_, rfl, b, _, rfl, .inr (SqT.of (hb.up su)), _, rfl, by omega, by rw [len_int]; omega, ?_⟩
    rw [len_int]
    refine for_range (lo := 0) (n := m.length) (fun k σ H' => ∃ (v6 v7 : Option V), σ = [some (.ref a), some (.ref b), some (.ref a1), some (.ref a2), some (.ref a3), some (.ref u), v6, v7] ∧ Same H H' ∧ Li H' u (fireL t m k)) ⟨none, none, rfl, su, upd_same⟩ ?_ ?_
    · rintro k σ H' hk ⟨v6, v7, rfl, s1, hl⟩
      rw [Int.zero_add]
      have hkn : k < n := hm ▸ hk
      have hv := ok.pmv k hkn
      refine ⟨_, rfl, _, rfl, a3, _, _, _, rfl, rfl, SqT.of (h3.up s1), at_int (by omega), _, _, rfl, rfl, _, rfl, ?_⟩
      refine ite2 (fun c1 => ?_) (fun c1 => ?_)
      · have c1' : 0 ≤ gt t.mv k := of_decide_eq_true c1
        refine ⟨_, rfl, _, rfl, a3, _, _, _, rfl, rfl, SqT.of (h3.up s1), at_int (by omega), ?_⟩
        obtain ⟨j, ej⟩ := Int.eq_ofNat_of_zero_le c1'
        have ej' : t.mv.getD k 0 = (j : Int) := ej
        have hj : j < (fireL t m k).length := by
          rw [fireL_len, l2]
          have e : gt t.mv k = (j : Int) := ej
          omega
        rw [ej']
        refine ⟨_, rfl, _, rfl, u, _, _, _, rfl, rfl, SqL.of hl, at_int hj, _, rfl, _, rfl, b, _, _, _, rfl, rfl, SqT.of (hb.up s1), at_int hk, _, _, rfl, rfl, ?_⟩
        refine ⟨_, rfl, _, rfl, a1, _, _, _, rfl, rfl, SqT.of (h1.up s1), at_int (by omega), _, _, rfl, rfl, ?_⟩
        refine ⟨_, rfl, _, rfl, u, _, _, _, rfl, rfl, hl, by rw [len_int]; exact ixN_nat hj, ?_⟩
        refine ⟨_, _, rfl, same_mut s1 hu, ?_⟩
        show upd _ _ _ _ = _
        rw [upd_same, set_int, fireL, if_pos c1']
        have e : (gt t.mv k).toNat = j := by
          have e : gt t.mv k = (j : Int) := ej
          omega
        rw [e]
      · have c1' : ¬ 0 ≤ gt t.mv k := fun z => c1 (decide_eq_true z)
        refine ⟨_, _, rfl, s1, ?_⟩
        rw [fireL, if_neg c1']
        exact hl
    · rintro σ H' ⟨v6, v7, rfl, s1, hl⟩
      refine ⟨_, rfl, u, _, rfl, .inl ⟨SqL.of hl, fun r hr' => ?_⟩⟩
      refine q (.ref r) _ (s1.trans (same_new hr' _)) ?_
      rw [fireM, if_pos c]
      exact ⟨r, rfl, upd_same⟩
theorem sc_Lrun : FnScope ["_law_transitions", "_law_marking_here", "_law_run_here", "_law_index"] ["_law_transitions", "_law_marking_here", "_law_run_here"] (defScope sLrun) := ⟨rfl, rfl, rfl, by decide +kernel, rfl, by decide +kernel, by decide +kernel⟩
theorem ok_Lrun (F : Stands K mg "_law_run" sLrun ["_law_transitions", "_law_marking_here", "_law_run_here"] f fd) (T : Blt mg) (CLfire : Has P w K mg base "_law_fire" ["_law_transition_here", "_law_marking_here"] 2 sp_Lfire) : Has P w K mg base "_law_run" ["_law_transitions", "_law_marking_here", "_law_run_here"] 3 (sp_Lrun K) := by
  obtain ⟨_, _, GLfire, mLfire, kLfire, bLfire⟩ := CLfire
  refine ⟨f, fd, F.1.ok sc_Lrun (fun vs H Q E h => ?_) (fun cdv A outer s H vs Q E hr h => ?_), F.2.1, F.1.kp, F.2.2⟩
  · obtain ⟨l, b, r, ks, m, run, n, rfl, _⟩ := h
    rfl
  obtain ⟨l, b, r, ks, m, run, n, rfl, hl, hk, ok, hb, hm, hn, hr0, hrn, q⟩ := h
  refine ⟨_, pss_cons (ps_for PassesOwn.never rfl (pi_tup (pv 2)) (pg_name (i := 3) sc_Lrun.nd rfl (.inl rfl))
      (pss_cons (ps_set (i := 1) sc_Lrun.nd rfl (.inl rfl) (pe_call GLfire hr rfl mLfire kLfire bLfire .nil pass0 (pa_cons (pe_ix ix_list (pv 0) (pv 3) (fun _ _ => rfl)) (pa_cons (pv 1) pa_nil))))
      (pss_one (ps_if (pt_cmpR op_isN (pv 1) pe_non (nomark _))
        (pss_one (ps_ret pe_non)) pss_nil))))
    (pss_one (ps_ret (pv 1))), ?_⟩
  have key : ∀ (i : Nat) (k : Nat), run[i]? = some k → runM (ks.map (·.2)) m (run.take (i + 1)) = match runM (ks.map (·.2)) m (run.take i) with
      | some y => match (ks.map (·.2))[k]? with
        | some t => fireM t y
        | none => none
      | none => none := fun i k hk => by
    rw [take_succ' hk]
    exact runM_step _ _ _ _
  refine ⟨_, rfl, r, rfl, ⟨_, SqT.of hr0⟩, for_tup (K := K) (a := r) (xs := (run.map Int.ofNat).map V.int) (fun i σ H' => ∃ (c : Addr) (y : List Int) (v3 : Option V), σ = [some (.ref l), some (.ref c), some (.ref r), v3] ∧ Same H H' ∧ Tu H' c y ∧ y.length = n ∧ runM (ks.map (·.2)) m (run.take i) = some y) ⟨b, m, none, rfl, Same.refl H, hb, hm, rfl⟩ (fun i σ H' _ h => ?_) (fun i x σ H' hx h => ?_) fun σ H' h => ?_⟩
  · obtain ⟨_, _, _, _, s1, _⟩ := h
    exact SqT.of (hr0.up s1)
  · obtain ⟨c, y, v3, rfl, s1, hc, hy, e⟩ := h
    have hx2 : ∃ k, run[i]? = some k ∧ x = .int (k : Int) := by
      rw [List.map_map, List.getElem?_map] at hx
      cases ek : run[i]? with
      | none => rw [ek] at hx; cases hx
      | some k => rw [ek] at hx; exact ⟨k, rfl, (Option.some.inj hx).symm⟩
    obtain ⟨k, ek, rfl⟩ := hx2
    have hkl := hrn k (List.mem_of_getElem? ek)
    have hkk : ks[k]? = some ks[k] := get_some hkl
    have hkm := List.getElem_mem hkl
    have et : (ks.map (·.2))[k]? = some (ks[k]).2 := snd_get hkk
    have okt := ok.at et
    have ke := key i k ek
    rw [e, et] at ke
    refine ⟨_, rfl, _, rfl, l, _, _, _, rfl, rfl, s1.seq hl, at_ref hkk, _, rfl, (ks[k]).1, c, (ks[k]).2, y, n, rfl, (hk _ hkm).up s1, hc, okt, hy, hn, fun v H2 s2 hv => ?_⟩
    cases ef : fireM (ks[k]).2 y with
    | none =>
      rw [ef] at hv
      have ev : v = .non := hv
      subst ev
      refine ⟨_, rfl, rfl, _, rfl, iteT ?_⟩
      refine q .non H2 (s1.trans s2) ?_
      have none_all : ∀ j, i + 1 ≤ j → j ≤ run.length → runM (ks.map (·.2)) m (run.take j) = none := fun j => by
        induction j with
        | zero => intro h; omega
        | succ j ih =>
          intro h1 h2
          have hj : run[j]? = some run[j] := get_some (by omega)
          rcases Nat.eq_or_lt_of_le h1 with z | z
          · have z' : i = j := by omega
            subst z'
            rw [ke]
            exact ef
          · rw [key j run[j] hj, ih (by omega) (by omega)]
      have hi : i < run.length := (List.getElem?_eq_some_iff.mp ek).1
      have := none_all run.length (by omega) (Nat.le_refl _)
      rw [List.take_length] at this
      rw [this]
      rfl
    | some z =>
      rw [ef] at hv
      obtain ⟨d, ev, hd⟩ := hv
      subst ev
      refine ⟨_, rfl, rfl, _, rfl, iteF ?_⟩
      refine ⟨d, z, _, rfl, s1.trans s2, hd, ?_, ?_⟩
      · have : z = fireL (ks[k]).2 y y.length := by
          unfold fireM at ef
          split at ef
          · exact (Option.some.inj ef).symm
          · cases ef
        rw [this]
        exact fire_len okt y
      · rw [ke]
        exact ef
  · obtain ⟨c, y, v3, rfl, s1, hc, hy, e⟩ := h
    rw [List.length_map, List.length_map, List.take_length] at e
    refine ⟨_, rfl, q (.ref c) H' s1 ?_⟩
    rw [e]
    exact ⟨c, rfl, hc⟩
end
end K16
namespace K16
open PySem PySem.Spec PyProof.Rows L2
/-! ### sum and max of a tuple of ints -/
theorem val_of {ns : List Int} {its : List Value} (rv : Vals (ns.map V.int) its) {i : Nat} {v : Value} (h : its.toArray[i]? = some v) : ∃ t, v = .int (gt ns i) t := by
  have h' : its[i]? = some v := by simpa using h
  have hl := rv.length
  rw [len_int] at hl
  have hi : i < ns.length := by
    rw [hl]
    exact (List.getElem?_eq_some_iff.mp h').1
  obtain ⟨u, hu, ru⟩ := rv.get (i := i) (x := .int (gt ns i)) (by rw [List.getElem?_map, List.getElem?_eq_getElem hi, ← gt_lt]; rfl)
  rw [h'] at hu
  cases hu
  exact ru
theorem tup_push {h : Heap} {a : Addr} {items : Array Value} {o : Obj} (x : IsTup h a items) : (h.push o).IsTuple a items := by
  obtain ⟨ob, ho, hc, n, hd⟩ := x
  exact ⟨ob, Heap.get?_push_of_some _ ho, hc, n, hd⟩
section
variable {X : Cx}
def rSumT (K : PySem.W.Frag) : List V → Hp → VK → Prop := fun vs H Q => ∃ (a : Addr) (ns : List Int), vs = [V.ref a] ∧ SqT K H a (ns.map V.int) ∧ Q (.int ns.sum) H
def rMaxT (K : PySem.W.Frag) : List V → Hp → VK → Prop := fun vs H Q => ∃ (a : Addr) (ns : List Int), vs = [V.ref a] ∧ SqT K H a (ns.map V.int) ∧ 0 < ns.length ∧ ∀ m, m ∈ ns → (∀ y, y ∈ ns → y ≤ m) → Q (.int m) H
theorem cr_sumT (hc : X.calm = true) : CallR X (.builtin "sum") (rSumT X.K) := by
  intro pins s σ H vs us Q I r h
  obtain ⟨a, ns, rfl, hs, q⟩ := h
  obtain ⟨its, rv, ht, _⟩ := I.tuple hs
  have hlt : a < s.heap.objs.size := ht.lt
  have hl := rv.length
  rw [len_int] at hl
  rw [Vals.ref1 r]
  refine call_sum_walkG (wpAny_pyIter_tuple (show s.heap.IsTuple a its.toArray from ht) ?_)
  refine ⟨s.heap.objs.size, _, _, _, _, _, gt ns, rfl, Walks.tuple (A := X.A.in1) (I.ok.hd hc) _ a (Nat.ne_of_lt hlt) its.toArray, ⟨⟨_, Heap.get?_push_size _ rfl, rfl, rfl⟩, tup_push ht⟩, fun b hb => ?_, fun i v hv => val_of rv hv, fun h' tk t' hk => ?_⟩
  · rw [Heap.size_push]
    rcases List.mem_cons.mp hb with e | hb
    · rw [e]; exact Nat.lt_succ_self _
    · rw [List.mem_singleton.mp hb]; exact Nat.lt_succ_of_lt hlt
  · refine ⟨.int ns.sum, H, I.kept (t' := tk) fun b u e => hk b u (fun hm => ?_) (Heap.get?_push_of_some _ e), ⟨t', ?_⟩, q⟩
    · have e1 := List.mem_singleton.mp hm
      have e2 := Heap.lt_size e
      rw [e1] at e2
      exact absurd e2 (Nat.lt_irrefl _)
    · have e : PySem.preSum (gt ns) its.toArray.size = ns.sum := by
        rw [show (gt ns) = fun i => ns.getD i 0 from rfl, PyProof.Rows.preSum_getD, List.size_toArray, ← hl, List.take_length]
      rw [e]
theorem cr_maxT (hc : X.calm = true) : CallR X (.builtin "max") (rMaxT X.K) := by
  intro pins s σ H vs us Q I r h
  obtain ⟨a, ns, rfl, hs, hne, q⟩ := h
  obtain ⟨its, rv, ht, _⟩ := I.tuple hs
  have hlt : a < s.heap.objs.size := ht.lt
  have hl := rv.length
  rw [len_int] at hl
  rw [Vals.ref1 r]
  refine call_max_walk (wpAny_pyIter_tuple (show s.heap.IsTuple a its.toArray from ht) ?_)
  refine ⟨s.heap.objs.size, _, _, _, _, _, _, rfl, Walks.tuple (A := X.A.in1) (I.ok.hd hc) _ a (Nat.ne_of_lt hlt) its.toArray, ⟨⟨_, Heap.get?_push_size _ rfl, rfl, rfl⟩, tup_push ht⟩, fun b hb => ?_, by rw [List.size_toArray]; omega, CmpOf.ints_gt (gt ns) (fun i v hv => val_of rv hv), fun v h' tk hP hk => ?_⟩
  · rw [Heap.size_push]
    rcases List.mem_cons.mp hb with e | hb
    · rw [e]; exact Nat.lt_succ_self _
    · rw [List.mem_singleton.mp hb]; exact Nat.lt_succ_of_lt hlt
  · obtain ⟨t, rfl⟩ := val_of rv hP
    obtain ⟨b1, b2⟩ := argBest_gt (gt ns) (its.toArray.size - 1)
    rw [List.size_toArray] at b1 b2
    refine ⟨.int _, H, I.kept (t' := tk) fun b u e => hk b u (fun hm => ?_) (Heap.get?_push_of_some _ e), ⟨t, rfl⟩, q _ (gt_mem (by rw [List.size_toArray]; omega)) fun y hy => ?_⟩
    · have e1 := List.mem_singleton.mp hm
      have e2 := Heap.lt_size e
      rw [e1] at e2
      exact absurd e2 (Nat.lt_irrefl _)
    · obtain ⟨j, hj, e⟩ := List.getElem_of_mem hy
      rw [List.size_toArray, ← e, ← gt_lt hj]
      exact b2 j (by omega)
end
end K16
namespace K16
open PySem L2
/-- all but the objects at d and e as it was -/
def Two (d e : Addr) (H H' : Hp) : Prop := ∀ b o, H b = some o → b ≠ d → b ≠ e → H' b = some o
theorem Two.refl (d e : Addr) (H : Hp) : Two d e H H := fun _ _ h _ _ => h
theorem Two.one {d e : Addr} {H H1 H2 : Hp} (a : Two d e H H1) (b : SameD d H1 H2) : Two d e H H2 := fun c o h n m => b c o (a c o h n m) n
theorem Two.new {d e : Addr} {H H1 H2 : Hp} (a : Two d e H H1) (b : Same H1 H2) : Two d e H H2 := fun c o h n m => b c o (a c o h n m)
theorem Two.put {d e : Addr} {H H1 : Hp} {o : HO} (a : Two d e H H1) : Two d e H (upd H1 e o) := fun c u h n m => by
  rw [upd_ne m]
  exact a c u h n m
theorem Two.same {d e : Addr} {H H1 H2 : Hp} (s : SameD d H H1) (a : Two d e H1 H2) (n : H e = none) : SameD d H H2 := fun c o h m => a c o (s c o h m) m (ne_of_none h n)
theorem Dr.up {H H' : Hp} {d : Addr} (h : Dr H d) (s : Same H H') : Dr H' d := by
  obtain ⟨ds, h⟩ := h
  exact ⟨ds, s _ _ h⟩
theorem Dr.put {H : Hp} {d e : Addr} {o : HO} (h : Dr H d) (n : d ≠ e) : Dr (upd H e o) d := by
  obtain ⟨ds, h⟩ := h
  refine ⟨ds, ?_⟩
  show upd _ _ _ _ = _
  rw [upd_ne n]
  exact h
theorem Dr.ne {H : Hp} {d e : Addr} (h : Dr H d) (n : H e = none) : d ≠ e := by
  obtain ⟨ds, h⟩ := h
  exact ne_of_none h n
theorem rep_zero : ∀ k : Nat, (List.replicate k [V.int 0]).flatten = (List.replicate k (0 : Int)).map V.int
  | 0 => rfl
  | k + 1 => by
    rw [List.replicate_succ, List.replicate_succ, List.flatten_cons, List.map_cons, rep_zero k]
    rfl
theorem gt_rep {k i : Nat} : gt (List.replicate k (0 : Int)) i = 0 := by
  rw [gt, List.getD_eq_getElem?_getD, List.getElem?_replicate]
  split <;> rfl
def upTo (n : Nat) : List Int := (List.range n).map fun i : Nat => (i : Int)
theorem rg_upTo (n : Nat) : rgV 0 (n : Int) = (upTo n).map V.int := by
  unfold rgV upTo
  rw [Int.sub_zero, Int.toNat_natCast, List.map_map]
  refine List.map_congr_left fun i _ => ?_
  rw [Int.zero_add]
  rfl
theorem gt_upTo {n i : Nat} (h : i < n) : gt (upTo n) i = (i : Int) := gt_map_range h
theorem upTo_len (n : Nat) : (upTo n).length = n := by simp [upTo]
def sp_Ltransition : Sp := fun vs H Q _ => ∃ (d : Addr) (n : Nat), vs = [.ref d, .int (n : Int), .bl false] ∧ Dr H d ∧ 1 ≤ n ∧ n ≤ 4 ∧
  ∀ (a : Addr) (t : Tr) (H' : Hp), SameD d H H' → Dr H' d → TrAt H' a t → TrOk n t → Q (.ref a) H'
def sp_Lnet : Sp := fun vs H Q _ => ∃ (d : Addr) (n : Nat), vs = [.ref d, .int (n : Int), .int 4, .bl false] ∧ Dr H d ∧ 1 ≤ n ∧ n ≤ 4 ∧
  ∀ (l : Addr) (ks : List (Addr × Tr)) (H' : Hp), SameD d H H' → Dr H' d → l ≠ d → H l = none → H' l = some (.lst (refs ks)) → Trs H' ks → (∀ x ∈ ks, TrOk n x.2) → 1 ≤ ks.length → ks.length ≤ 4 → Q (.ref l) H'
section
variable {P : Program} {w : World} {K : PySem.W.Frag} {mg : Str → Option Value} {base : Heap} {f : Addr} {fd : FuncData}
theorem sc_Ltransition : FnScope ["_law_draws_here", "_law_places", "_law_plain", "_law_takes", "_law_gives", "_law_k", "_law_moves"] ["_law_draws_here", "_law_places", "_law_plain"] (defScope sLtransition) := ⟨rfl, rfl, rfl, by decide +kernel, rfl, by decide +kernel, by decide +kernel⟩
theorem ok_Ltransition (F : Stands K mg "_law_transition" sLtransition ["_law_draws_here", "_law_places", "_law_plain"] f fd) (T : Blt mg) (CLtake : Has P w K mg base "_law_take" ["_law_draws_here", "_law_limit"] 1 sp_Ltake) : Has P w K mg base "_law_transition" ["_law_draws_here", "_law_places", "_law_plain"] 2 sp_Ltransition := by
  obtain ⟨_, _, GLtake, mLtake, kLtake, bLtake⟩ := CLtake
  refine ⟨f, fd, F.1.ok sc_Ltransition (fun vs H Q E h => ?_) (fun cdv A outer s H vs Q E hr h => ?_), F.2.1, F.1.kp, F.2.2⟩
  · obtain ⟨d, n, rfl, _⟩ := h
    rfl
  obtain ⟨d, n, rfl, hd, n1, n4, q⟩ := h
  refine ⟨_, pss_cons (ps_set (i := 3) sc_Ltransition.nd rfl (.inl rfl) (pe_op op_rep (pe_lst (pa_cons pe_int pa_nil)) (pv 1)))
    (pss_cons (ps_set (i := 4) sc_Ltransition.nd rfl (.inl rfl) (pe_op op_rep (pe_lst (pa_cons pe_int pa_nil)) (pv 1)))
    (pss_cons (ps_for PassesOwn.never rfl (pi_range1 rfl T.range (pa_cons (pe_ix ix_list (pe_lst (pa_cons pe_int (pa_cons pe_int (pa_cons pe_int (pa_cons pe_int pa_nil))))) (pe_call GLtake hr rfl mLtake kLtake bLtake .nil pass0 (pa_cons (pv 0) (pa_cons pe_int pa_nil))) (fun _ _ => rfl)) pa_nil)) (pg_name (i := 5) sc_Ltransition.nd rfl (.inl rfl))
      (pss_one (ps_augS (pv 3) (pe_call GLtake hr rfl mLtake kLtake bLtake .nil pass0 (pa_cons (pv 0) (pa_cons (pv 1) pa_nil))) get_list pe_int ip_add set_list)))
    (pss_cons (ps_for PassesOwn.never rfl (pi_range1 rfl T.range (pa_cons (pe_ix ix_list (pe_lst (pa_cons pe_int (pa_cons pe_int (pa_cons pe_int (pa_cons pe_int (pa_cons pe_int pa_nil)))))) (pe_call GLtake hr rfl mLtake kLtake bLtake .nil pass0 (pa_cons (pv 0) (pa_cons pe_int pa_nil))) (fun _ _ => rfl)) pa_nil)) (pg_name (i := 5) sc_Ltransition.nd rfl (.inl rfl))
      (pss_one (ps_augS (pv 4) (pe_call GLtake hr rfl mLtake kLtake bLtake .nil pass0 (pa_cons (pv 0) (pa_cons (pv 1) pa_nil))) get_list pe_int ip_add set_list)))
    (pss_cons (ps_set (i := 6) sc_Ltransition.nd rfl (.inl rfl) (pe_listRg rfl rfl T.list (prg_1 rfl T.range (pv 1))))
    (Evl.pss_cut (ps_if (PW.pt (pw_and (pt_not (pt_val (pv 2))) (pw_and1 (pt_cmpR op_eq (pe_call GLtake hr rfl mLtake kLtake bLtake .nil pass0 (pa_cons (pv 0) (pa_cons pe_int pa_nil))) pe_int (nomark _)))))
      (pss_one (ps_for PassesOwn.never rfl (pi_range1 rfl T.range (pa_cons (pv 1) pa_nil)) (pg_name (i := 5) sc_Ltransition.nd rfl (.inl rfl))
        (pss_one (ps_if (pt_cmpR op_eq (pe_call GLtake hr rfl mLtake kLtake bLtake .nil pass0 (pa_cons (pv 0) (pa_cons pe_int pa_nil))) pe_int (nomark _))
          (pss_one (ps_asg (pe_op op_sub (pe_call GLtake hr rfl mLtake kLtake bLtake .nil pass0 (pa_cons (pv 0) (pa_cons (pe_op op_add (pv 1) pe_int) pa_nil))) pe_int) (pg_sub (pv 6) (pv 5) set_list))) pss_nil)))) pss_nil)
    (pss_one (ps_ret (pe_tup (pa_cons (pe_callTy call_tuple_of rfl T.tuple (by decide +kernel) (pa_cons (pv 3) pa_nil)) (pa_cons (pe_callTy call_tuple_of rfl T.tuple (by decide +kernel) (pa_cons (pv 4) pa_nil)) (pa_cons (pe_callTy call_tuple_of rfl T.tuple (by decide +kernel) (pa_cons (pv 6) pa_nil)) pa_nil))))))))))), ?_⟩
  have z1 : 1 ≤ sizeLine := by rw [line_eq]; omega
  -- takes, gives
  refine ⟨z1, fun p hp => ⟨_, rfl, p, _, _, rfl, rfl, upd_same, by omega, by omega, by show 1 * _ ≤ _; rw [line_eq]; omega, fun A1 hA1 => ?_⟩⟩
  rw [Int.toNat_natCast, rep_zero]
  have s1 := (same_new hp (.lst [V.int 0])).trans (same_new hA1 (.lst ((List.replicate n (0 : Int)).map V.int)))
  have l1 : Li (upd (upd H p (.lst [V.int 0])) A1 (.lst ((List.replicate n (0 : Int)).map V.int))) A1 (List.replicate n 0) := upd_same
  have n1' : H A1 = none := (same_new hp (.lst [V.int 0])).free hA1
  generalize upd (upd H p (.lst [V.int 0])) A1 (.lst ((List.replicate n (0 : Int)).map V.int)) = H1 at s1 l1
  refine ⟨z1, fun p hp => ⟨_, rfl, p, _, _, rfl, rfl, upd_same, by omega, by omega, by show 1 * _ ≤ _; rw [line_eq]; omega, fun A2 hA2 => ?_⟩⟩
  rw [Int.toNat_natCast, rep_zero]
  have s2 := (same_new hp (.lst [V.int 0])).trans (same_new hA2 (.lst ((List.replicate n (0 : Int)).map V.int)))
  have l2 : Li (upd (upd H1 p (.lst [V.int 0])) A2 (.lst ((List.replicate n (0 : Int)).map V.int))) A2 (List.replicate n 0) := upd_same
  have n2' : H1 A2 = none := (same_new hp (.lst [V.int 0])).free hA2
  generalize upd (upd H1 p (.lst [V.int 0])) A2 (.lst ((List.replicate n (0 : Int)).map V.int)) = H2 at s2 l2
  have d2 : Dr H2 d := (hd.up s1).up s2
  have nd1 : A1 ≠ d := (hd.ne n1').symm
  have nd2 : A2 ≠ d := ((hd.up s1).ne n2').symm
  have n12 : A1 ≠ A2 := ne_of_none l1 n2'
  have l1' := l1.up s2
  -- takes filled
  refine ⟨by show 4 ≤ sizeLine; rw [line_eq]; omega, fun p3 hp3 => ?_⟩
  have sp3 := same_new hp3 (.lst [V.int 1, V.int 1, V.int 2, V.int 0])
  refine ⟨_, rfl, d, 4, rfl, d2.up sp3, by decide, fun v H3 v0 v1 s3 d3 => ?_⟩
  have np3 : p3 ≠ d := (d2.ne hp3).symm
  have hp3' : H3 p3 = some (.lst [V.int 1, V.int 1, V.int 2, V.int 0]) := s3 _ _ upd_same np3
  obtain ⟨c, c0, c2, hat⟩ : ∃ c : Int, 0 ≤ c ∧ c ≤ 2 ∧ atI [V.int 1, V.int 1, V.int 2, V.int 0] v = some (.int c) := by
    rcases (show v = 0 ∨ v = 1 ∨ v = 2 ∨ v = 3 by omega) with e | e | e | e <;> subst e
    · exact ⟨1, by decide, by decide, rfl⟩
    · exact ⟨1, by decide, by decide, rfl⟩
    · exact ⟨2, by decide, by decide, rfl⟩
    · exact ⟨0, by decide, by decide, rfl⟩
  have l13 : Li H3 A1 (List.replicate n 0) := s3 _ _ (l1'.up sp3) nd1
  have l23 : Li H3 A2 (List.replicate n 0) := s3 _ _ (l2.up sp3) nd2
  have s03 : SameD d H H3 := (same_but (s1.trans (s2.trans sp3))).trans s3
  refine ⟨p3, _, v, _, rfl, rfl, SqL.of hp3', hat, _, rfl, by omega, by omega, ?_⟩
  refine for_range (lo := 0) (n := c.toNat) (fun i σ H' => ∃ v5, σ = [some (.ref d), some (.int (n : Int)), some (.bl false), some (.ref A1), some (.ref A2), v5, none] ∧ Two d A1 H3 H' ∧ Dr H' d ∧ ∃ x, Li H' A1 x ∧ x.length = n ∧ ∀ k, k < n → 0 ≤ gt x k ∧ gt x k ≤ (i : Int)) ⟨none, rfl, Two.refl _ _ _, d3, _, l13, List.length_replicate, fun k _ => by rw [gt_rep]; omega⟩ ?_ ?_
  · rintro i σ H' hi ⟨v5, rfl, t, dr, x, hx, xl, xp⟩
    refine ⟨_, rfl, _, rfl, _, rfl, d, _, rfl, dr, by omega, fun v H4 v0 v1 s4 d4 => ?_⟩
    obtain ⟨j, rfl⟩ := Int.eq_ofNat_of_zero_le v0
    have hj : j < x.length := by omega
    have hx4 : Li H4 A1 x := s4 _ _ hx nd1
    refine ⟨A1, _, j, _, rfl, rfl, SqL.of hx4, by rw [List.getElem?_map, List.getElem?_eq_getElem hj, ← gt_lt]; rfl, _, _, rfl, rfl, A1, _, _, _, rfl, rfl, hx4, by rw [len_int]; exact ixN_nat hj, ?_⟩
    refine ⟨_, rfl, (t.one s4).put, d4.put nd1.symm, x.set j (gt x j + 1), by show upd _ _ _ _ = _; rw [upd_same, set_int], by rw [List.length_set]; exact xl, fun k hk => ?_⟩
    rw [gt_set hj]
    have := xp k hk
    split
    · subst_vars; omega
    · omega
  rintro σ H4 ⟨v5, rfl, t4, d4, x1, hx1, xl1, xp1⟩
  have l24 : Li H4 A2 (List.replicate n 0) := t4 _ _ l23 nd2 n12.symm
  have s04 : SameD d H H4 := Two.same s03 t4 n1'
  -- gives filled
  refine ⟨by show 5 ≤ sizeLine; rw [line_eq]; omega, fun p5 hp5 => ?_⟩
  have sp5 := same_new hp5 (.lst [V.int 1, V.int 1, V.int 2, V.int 3, V.int 0])
  refine ⟨_, rfl, d, 5, rfl, d4.up sp5, by decide, fun v H5 v0 v1 s5 d5 => ?_⟩
  have np5 : p5 ≠ d := (d4.ne hp5).symm
  have hp5' : H5 p5 = some (.lst [V.int 1, V.int 1, V.int 2, V.int 3, V.int 0]) := s5 _ _ upd_same np5
  obtain ⟨c', c0', c2', hat'⟩ : ∃ c : Int, 0 ≤ c ∧ c ≤ 3 ∧ atI [V.int 1, V.int 1, V.int 2, V.int 3, V.int 0] v = some (.int c) := by
    rcases (show v = 0 ∨ v = 1 ∨ v = 2 ∨ v = 3 ∨ v = 4 by omega) with e | e | e | e | e <;> subst e
    · exact ⟨1, by decide, by decide, rfl⟩
    · exact ⟨1, by decide, by decide, rfl⟩
    · exact ⟨2, by decide, by decide, rfl⟩
    · exact ⟨3, by decide, by decide, rfl⟩
    · exact ⟨0, by decide, by decide, rfl⟩
  have l15 : Li H5 A1 x1 := s5 _ _ (hx1.up sp5) nd1
  have l25 : Li H5 A2 (List.replicate n 0) := s5 _ _ (l24.up sp5) nd2
  have s05 : SameD d H H5 := (s04.trans (same_but sp5)).trans s5
  refine ⟨p5, _, v, _, rfl, rfl, SqL.of hp5', hat', _, rfl, by omega, by omega, ?_⟩
  refine for_range (lo := 0) (n := c'.toNat) (fun i σ H' => ∃ v5, σ = [some (.ref d), some (.int (n : Int)), some (.bl false), some (.ref A1), some (.ref A2), v5, none] ∧ Two d A2 H5 H' ∧ Dr H' d ∧ ∃ x, Li H' A2 x ∧ x.length = n ∧ ∀ k, k < n → 0 ≤ gt x k ∧ gt x k ≤ (i : Int)) ⟨v5, rfl, Two.refl _ _ _, d5, _, l25, List.length_replicate, fun k _ => by rw [gt_rep]; omega⟩ ?_ ?_
  · rintro i σ H' hi ⟨v5, rfl, t, dr, x, hx, xl, xp⟩
    refine ⟨_, rfl, _, rfl, _, rfl, d, _, rfl, dr, by omega, fun v H6 v0 v1 s6 d6 => ?_⟩
    obtain ⟨j, rfl⟩ := Int.eq_ofNat_of_zero_le v0
    have hj : j < x.length := by omega
    have hx6 : Li H6 A2 x := s6 _ _ hx nd2
    refine ⟨A2, _, j, _, rfl, rfl, SqL.of hx6, by rw [List.getElem?_map, List.getElem?_eq_getElem hj, ← gt_lt]; rfl, _, _, rfl, rfl, A2, _, _, _, rfl, rfl, hx6, by rw [len_int]; exact ixN_nat hj, ?_⟩
    refine ⟨_, rfl, (t.one s6).put, d6.put nd2.symm, x.set j (gt x j + 1), by show upd _ _ _ _ = _; rw [upd_same, set_int], by rw [List.length_set]; exact xl, fun k hk => ?_⟩
    rw [gt_set hj]
    have := xp k hk
    split
    · subst_vars; omega
    · omega
  rintro σ H6 ⟨v5, rfl, t6, d6, x2, hx2, xl2, xp2⟩
  have l16 : Li H6 A1 x1 := t6 _ _ l15 nd1 n12
  have nA2 : H A2 = none := s1.free n2'
  have s06 : SameD d H H6 := Two.same s05 t6 nA2
  -- moves
  refine ⟨_, rfl, _, rfl, RgOk.of_le (by decide) (by omega) (by decide) (by omega), fun A3 hA3 => ?_⟩
  rw [rg_upTo]
  have s7 := same_new hA3 (.lst ((upTo n).map V.int))
  have l3 : Li (upd H6 A3 (.lst ((upTo n).map V.int))) A3 (upTo n) := upd_same
  have l17 := l16.up s7
  have l27 := hx2.up s7
  have d7 := d6.up s7
  have nd3 : A3 ≠ d := (d6.ne hA3).symm
  have n13 : A1 ≠ A3 := ne_of_none l16 hA3
  have n23 : A2 ≠ A3 := ne_of_none hx2 hA3
  have s07 : SameD d H (upd H6 A3 (.lst ((upTo n).map V.int))) := s06.trans (same_but s7)
  have nA3 : H A3 = none := by
    cases e : H A3 with
    | none => rfl
    | some o =>
      rw [s06 A3 o e nd3] at hA3
      cases hA3
  generalize upd H6 A3 (.lst ((upTo n).map V.int)) = H7 at s7 l3 l17 l27 d7 s07
  refine ⟨fun σ H' => ∃ v5, σ = [some (.ref d), some (.int (n : Int)), some (.bl false), some (.ref A1), some (.ref A2), v5, some (.ref A3)] ∧ Two d A3 H7 H' ∧ Dr H' d ∧ ∃ x, Li H' A3 x ∧ x.length = n ∧ ∀ k, k < n → -1 ≤ gt x k ∧ gt x k < (n : Int), ?_, ?_⟩
  · have st0 : ∀ k, k < n → -1 ≤ gt (upTo n) k ∧ gt (upTo n) k < (n : Int) := fun k hk => by rw [gt_upTo hk]; omega
    refine ⟨_, rfl, false, rfl, ?_⟩
    refine ⟨_, rfl, d, 2, rfl, d7, by decide, fun v H8 v0 v1 s8 d8 => ⟨rfl, _, rfl, ?_⟩⟩
    have l38 : Li H8 A3 (upTo n) := s8 _ _ l3 nd3
    refine ite2 (fun c => ?_) (fun c => ?_)
    · refine ⟨_, rfl, _, rfl, by omega, by omega, ?_⟩
      refine for_range (lo := 0) (n := n) (fun i σ H' => ∃ v5, σ = [some (.ref d), some (.int (n : Int)), some (.bl false), some (.ref A1), some (.ref A2), v5, some (.ref A3)] ∧ Two d A3 H7 H' ∧ Dr H' d ∧ ∃ x, Li H' A3 x ∧ x.length = n ∧ ∀ k, k < n → -1 ≤ gt x k ∧ gt x k < (n : Int)) ⟨_, rfl, (Two.refl d A3 H7).one s8, d8, _, l38, upTo_len n, st0⟩ ?_ ?_
      · rintro i σ H' hi ⟨v5, rfl, t, dr, x, hx, xl, xp⟩
        rw [Int.zero_add]
        refine ⟨_, rfl, d, 2, rfl, dr, by decide, fun v H9 v0 v1 s9 d9 => ⟨rfl, _, rfl, ?_⟩⟩
        have hx9 : Li H9 A3 x := s9 _ _ hx nd3
        refine ite2 (fun c => ?_) (fun c => ?_)
        · refine ⟨_, rfl, _, rfl, _, _, rfl, rfl, d, _, rfl, d9, by omega, fun v H10 v0 v1 s10 d10 => ?_⟩
          have hx10 : Li H10 A3 x := s10 _ _ hx9 nd3
          have hix : i < x.length := by omega
          refine ⟨_, _, rfl, rfl, _, rfl, _, rfl, A3, _, _, _, rfl, rfl, hx10, by rw [len_int]; exact ixN_nat hix, ?_⟩
          refine ⟨_, rfl, ((t.one s9).one s10).put, d10.put nd3.symm, x.set i (v - 1), by show upd _ _ _ _ = _; rw [upd_same, set_int], by rw [List.length_set]; exact xl, fun k hk => ?_⟩
          rw [gt_set hix]
          have := xp k hk
          split
          · omega
          · exact this
        · exact ⟨_, rfl, t.one s9, d9, x, hx9, xl, xp⟩
      · rintro σ H' h
        exact h
    · exact ⟨_, rfl, (Two.refl d A3 H7).one s8, d8, _, l38, upTo_len n, st0⟩
  · rintro σ H8 ⟨v5, rfl, t8, d8, x3, hx3, xl3, xp3⟩
    have l18 : Li H8 A1 x1 := t8 _ _ l17 nd1 n13
    have l28 : Li H8 A2 x2 := t8 _ _ l27 nd2 n23
    have s08 : SameD d H H8 := Two.same s07 t8 nA3
    refine ⟨_, rfl, A1, _, rfl, .inl ⟨SqL.of l18, fun t1 ht1 => ?_⟩⟩
    have st1 := same_new ht1 (.tup (x1.map V.int))
    refine ⟨_, rfl, A2, _, rfl, .inl ⟨SqL.of (l28.up st1), fun t2 ht2 => ?_⟩⟩
    have st2 := same_new ht2 (.tup (x2.map V.int))
    refine ⟨_, rfl, A3, _, rfl, .inl ⟨SqL.of ((hx3.up st1).up st2), fun t3 ht3 => ?_⟩⟩
    have st3 := same_new ht3 (.tup (x3.map V.int))
    refine ⟨by show 3 ≤ sizeLine; rw [line_eq]; omega, fun a ha => ?_⟩
    have st4 := same_new ha (.tup [V.ref t1, V.ref t2, V.ref t3])
    have e1 : Tu (upd H8 t1 (.tup (x1.map V.int))) t1 x1 := upd_same
    have e2 : Tu (upd (upd H8 t1 (.tup (x1.map V.int))) t2 (.tup (x2.map V.int))) t2 x2 := upd_same
    have e3 : Tu (upd (upd (upd H8 t1 (.tup (x1.map V.int))) t2 (.tup (x2.map V.int))) t3 (.tup (x3.map V.int))) t3 x3 := upd_same
    have sall := st1.trans (st2.trans (st3.trans st4))
    refine q a ⟨x1, x2, x3⟩ _ (s08.trans (same_but sall)) (d8.up sall) ⟨t1, t2, t3, upd_same, e1.up (st2.trans (st3.trans st4)), e2.up (st3.trans st4), e3.up st4⟩ ⟨xl1, xl2, xl3, fun i hi => ?_, fun i hi => ?_, xp3⟩
    · show 0 ≤ gt x1 i ∧ gt x1 i ≤ 9
      have := xp1 i hi
      omega
    · show 0 ≤ gt x2 i ∧ gt x2 i ≤ 9
      have := xp2 i hi
      omega
theorem sc_Lnet : FnScope ["_law_draws_here", "_law_places", "_law_most", "_law_plain", "_law_k"] ["_law_draws_here", "_law_places", "_law_most", "_law_plain"] (defScope sLnet) := ⟨rfl, rfl, rfl, by decide +kernel, rfl, by decide +kernel, by decide +kernel⟩
theorem ok_Lnet (F : Stands K mg "_law_net" sLnet ["_law_draws_here", "_law_places", "_law_most", "_law_plain"] f fd) (T : Blt mg) (CLtransition : Has P w K mg base "_law_transition" ["_law_draws_here", "_law_places", "_law_plain"] 2 sp_Ltransition) (CLtake : Has P w K mg base "_law_take" ["_law_draws_here", "_law_limit"] 1 sp_Ltake) : Has P w K mg base "_law_net" ["_law_draws_here", "_law_places", "_law_most", "_law_plain"] 3 sp_Lnet := by
  obtain ⟨_, _, GLtransition, mLtransition, kLtransition, bLtransition⟩ := CLtransition
  obtain ⟨_, _, GLtake, mLtake, kLtake, bLtake⟩ := CLtake
  refine ⟨f, fd, F.1.ok sc_Lnet (fun vs H Q E h => ?_) (fun cdv A outer s H vs Q E hr h => ?_), F.2.1, F.1.kp, F.2.2⟩
  · obtain ⟨d, n, rfl, _⟩ := h
    rfl
  obtain ⟨d, n, rfl, hd, n1, n4, q⟩ := h
  refine ⟨_, pss_one (ps_ret (pe_lc (own := [("_law_k", 4)]) (g := gName 4) (tt := tYes) rfl sc_Lnet.nd (pi_range1 rfl T.range (pa_cons (pe_op op_add pe_int (pe_call GLtake (hr.mono (by decide)) rfl mLtake kLtake bLtake .nil pass0 (pa_cons (pv 0) (pa_cons (pv 2) pa_nil)))) pa_nil)) (blkOk_by (own := [("_law_k", 4)]) (N := ["_law_draws_here", "_law_places", "_law_most", "_law_plain", "_law_k"]) (sc := defScope sLnet) (by decide +kernel)) (fun _ _ _ _ _ => pg_name (i := 4) sc_Lnet.nd rfl (Or.inl rfl)) (fun _ _ _ _ _ => pts_nil) (fun _ _ _ _ _ => (pe_call GLtransition hr rfl mLtransition kLtransition bLtransition .nil pass0 (pa_cons (pv 0) (pa_cons (pv 1) (pa_cons (pv 3) pa_nil))))))), ?_⟩
  refine ⟨_, rfl, _, rfl, d, _, rfl, hd, by decide, fun v H1 v0 v1 s1 d1 => ?_⟩
  refine ⟨_, _, rfl, rfl, _, rfl, by omega, by omega, fun D hD => ?_⟩
  have nD : D ≠ d := (d1.ne hD).symm
  have nH : H D = none := by
    cases e : H D with
    | none => rfl
    | some o =>
      rw [s1 D o e nD] at hD
      cases hD
  refine lc_range (lo := 0) (n := (1 + v).toNat) (fun i H' => ∃ ks : List (Addr × Tr), SameD d H H' ∧ Dr H' d ∧ H' D = some (.lst (refs ks)) ∧ Trs H' ks ∧ (∀ x ∈ ks, TrOk n x.2) ∧ ks.length = i) ⟨[], s1.mut nH, d1.up (same_new hD _), upd_same, fun x hx => absurd hx (by simp), fun x hx => absurd hx (by simp), rfl⟩ (fun i H' hi h => ?_) fun H' h => ?_
  · obtain ⟨ks, sd, dr, hl, ht, hok, el⟩ := h
    refine ⟨rfl, ?_⟩
    refine ⟨_, rfl, _, rfl, _, rfl, d, n, rfl, dr, n1, n4, fun a t H2 s2 d2 ta tok => ?_⟩
    have hl2 := s2 D _ hl nD
    have td : ∀ {H3 : Hp} {b : Addr} {xs : List V}, Dr H3 d → H3 b = some (.tup xs) → b ≠ d := fun {H3 b xs} dr h e => by
      obtain ⟨ds, hz⟩ := dr
      rw [e, hz] at h
      cases h
    have tD : ∀ {b : Addr} {xs : List V}, H2 b = some (.tup xs) → b ≠ D := fun h => ne_of h hl2 (by intro z; cases z)
    have lift : ∀ {b : Addr} {u : Tr}, TrAt H2 b u → TrAt (upd H2 D (.lst (refs ks ++ [.ref a]))) b u := fun {b u} h => by
      obtain ⟨b1, b2, b3, g0, g1, g2, g3⟩ := h
      exact ⟨b1, b2, b3, by rw [upd_ne (tD g0)]; exact g0, by show upd _ _ _ _ = _; rw [upd_ne (tD g1)]; exact g1, by show upd _ _ _ _ = _; rw [upd_ne (tD g2)]; exact g2, by show upd _ _ _ _ = _; rw [upd_ne (tD g3)]; exact g3⟩
    refine ⟨_, hl2, by rw [len_ref, line_eq]; omega, ks ++ [(a, t)], (sd.trans s2).mut nH, d2.put nD.symm, by rw [upd_same, refs, refs, List.map_append]; rfl, fun x hx => ?_, fun x hx => ?_, by simp [el]⟩
    · rcases List.mem_append.mp hx with z | z
      · refine lift ?_
        obtain ⟨b1, b2, b3, g0, g1, g2, g3⟩ := ht x z
        exact ⟨b1, b2, b3, s2 _ _ g0 (td dr g0), s2 _ _ g1 (td dr g1), s2 _ _ g2 (td dr g2), s2 _ _ g3 (td dr g3)⟩
      · rw [List.mem_singleton.mp z]
        exact lift ta
    · rcases List.mem_append.mp hx with z | z
      · exact hok x z
      · rw [List.mem_singleton.mp z]
        exact tok
  · obtain ⟨ks, sd, dr, hl, ht, hok, el⟩ := h
    exact q D ks H' sd dr nD nH hl ht hok (by omega) (by omega)
end
end K16
namespace K16
open PySem L2
/-- the random walk: every marking seen is reached -/
def sp_Lwalk : Sp := fun vs H Q _ => ∃ (d l b : Addr) (ks : List (Addr × Tr)) (m : List Int) (n st : Nat), vs = [.ref d, .ref l, .ref b, .int (st : Int)] ∧ Dr H d ∧ l ≠ d ∧ H l = some (.lst (refs ks)) ∧ Trs H ks ∧ TrsOk n (ks.map (·.2)) ∧ 1 ≤ ks.length ∧ ks.length ≤ 1000 ∧ Tu H b m ∧ m.length = n ∧ 1 ≤ n ∧ n ≤ 1000 ∧ st ≤ 1000 ∧
  ∀ (a r l' : Addr) (js : List (Addr × List Int)) (H' : Hp), SameD d H H' → Dr H' d → H' a = some (.tup [.ref r, .ref l']) → H' l' = some (.lst (refs js)) → Tus H' js → (∀ p ∈ js, Reach (ks.map (·.2)) m p.2) → Q (.ref a) H'
def sp_Ldraws (K : PySem.W.Frag) : Sp := fun vs H Q _ => ∃ (s : Addr) (xs : List Int) (c : Nat), vs = [.ref s, .int (c : Int)] ∧ SqL K H s (xs.map V.int) ∧ c ≤ 1000 ∧
  ∀ (d : Addr) (H' : Hp), Same H H' → Dr H' d → Q (.ref d) H'
theorem TrAt.upD {H H' : Hp} {d a : Addr} {t : Tr} (h : TrAt H a t) (s : SameD d H H') (hd : Dr H d) : TrAt H' a t := by
  obtain ⟨b1, b2, b3, g0, g1, g2, g3⟩ := h
  have ne : ∀ {b : Addr} {xs : List V}, H b = some (.tup xs) → b ≠ d := fun {b xs} e z => by
    obtain ⟨ds, hz⟩ := hd
    rw [z, hz] at e
    cases e
  exact ⟨b1, b2, b3, s _ _ g0 (ne g0), s _ _ g1 (ne g1), s _ _ g2 (ne g2), s _ _ g3 (ne g3)⟩
theorem Tu.upD {H H' : Hp} {d a : Addr} {m : List Int} (h : Tu H a m) (s : SameD d H H') (hd : Dr H d) : Tu H' a m := s _ _ h fun z => by
  obtain ⟨ds, hz⟩ := hd
  rw [Tu, z, hz] at h
  cases h
theorem TrAt.mut {H : Hp} {a b : Addr} {t : Tr} {o o' : HO} (h : TrAt H a t) (e : H b = some o) (n : ∀ xs, o ≠ .tup xs) : TrAt (upd H b o') a t := by
  obtain ⟨b1, b2, b3, g0, g1, g2, g3⟩ := h
  have ne : ∀ {c : Addr} {xs : List V}, H c = some (.tup xs) → upd H b o' c = some (.tup xs) := fun {c xs} z => by
    rw [upd_ne]
    · exact z
    · intro q
      rw [q, e] at z
      exact n _ (Option.some.inj z)
  exact ⟨b1, b2, b3, ne g0, ne g1, ne g2, ne g3⟩
theorem Tu.mut {H : Hp} {a b : Addr} {m : List Int} {o o' : HO} (h : Tu H a m) (e : H b = some o) (n : ∀ xs, o ≠ .tup xs) : Tu (upd H b o') a m := by
  show upd _ _ _ _ = _
  rw [upd_ne]
  · exact h
  · intro q
    rw [Tu, q, e] at h
    exact n _ (Option.some.inj h)
theorem li_snoc {H : Hp} {F : Addr} {rs : List Int} {v : Int} {i : Nat} (h : rs.length = i) : ∃ rs', Li (upd H F (.lst (rs.map V.int ++ [V.int v]))) F rs' ∧ rs'.length = i + 1 := ⟨rs ++ [v], by show upd _ _ _ _ = _; rw [upd_same, List.map_append]; rfl, by rw [List.length_append, h]; rfl⟩
section
variable {P : Program} {w : World} {K : PySem.W.Frag} {mg : Str → Option Value} {base : Heap} {f : Addr} {fd : FuncData}
theorem sc_Lwalk : FnScope ["_law_draws_here", "_law_transitions", "_law_marking_here", "_law_steps", "_law_found", "_law_run_here", "_law_k", "_law_index", "_law_after"] ["_law_draws_here", "_law_transitions", "_law_marking_here", "_law_steps"] (defScope sLwalk) := ⟨rfl, rfl, rfl, by decide +kernel, rfl, by decide +kernel, by decide +kernel⟩
theorem ok_Lwalk (F : Stands K mg "_law_walk" sLwalk ["_law_draws_here", "_law_transitions", "_law_marking_here", "_law_steps"] f fd) (T : Blt mg) (CLtake : Has P w K mg base "_law_take" ["_law_draws_here", "_law_limit"] 1 sp_Ltake) (CLfire : Has P w K mg base "_law_fire" ["_law_transition_here", "_law_marking_here"] 2 sp_Lfire) : Has P w K mg base "_law_walk" ["_law_draws_here", "_law_transitions", "_law_marking_here", "_law_steps"] 3 sp_Lwalk := by
  obtain ⟨_, _, GLtake, mLtake, kLtake, bLtake⟩ := CLtake
  obtain ⟨_, _, GLfire, mLfire, kLfire, bLfire⟩ := CLfire
  refine ⟨f, fd, F.1.ok sc_Lwalk (fun vs H Q E h => ?_) (fun cdv A outer s H vs Q E hr h => ?_), F.2.1, F.1.kp, F.2.2⟩
  · obtain ⟨d, l, b, ks, m, n, st, rfl, _⟩ := h
    rfl
  obtain ⟨d, l, b, ks, m, n, st, rfl, hd, ld, hl, hk, ok, k1, k2, hb, hm, n1, n2, hst, q⟩ := h
  refine ⟨_, pss_cons (ps_set (i := 4) sc_Lwalk.nd rfl (.inl rfl) (pe_lst (pa_cons (pv 2) pa_nil)))
    (pss_cons (ps_set (i := 5) sc_Lwalk.nd rfl (.inl rfl) (pe_lst pa_nil))
    (pss_cons (ps_for PassesOwn.never rfl (pi_range1 rfl T.range (pa_cons (pv 3) pa_nil)) (pg_name (i := 6) sc_Lwalk.nd rfl (.inl rfl))
      (pss_cons (ps_set (i := 7) sc_Lwalk.nd rfl (.inl rfl) (pe_call GLtake (hr.mono (by decide)) rfl mLtake kLtake bLtake .nil pass0 (pa_cons (pv 0) (pa_cons (pe_callB (call_max2 rfl) rfl T.max (by decide +kernel) (pa_cons pe_int (pa_cons (pe_callB call_len_seq rfl T.len PySem.boot_len (pa_cons (pv 1) pa_nil)) pa_nil))) pa_nil))))
      (pss_one (ps_if (pt_cmpR op_lt (pv 7) (pe_callB call_len_seq rfl T.len PySem.boot_len (pa_cons (pv 1) pa_nil)) (nomark _))
        (pss_cons (ps_set (i := 8) sc_Lwalk.nd rfl (.inl rfl) (pe_call GLfire hr rfl mLfire kLfire bLfire .nil pass0 (pa_cons (pe_ix ix_list (pv 1) (pv 7) (fun _ _ => rfl)) (pa_cons (pv 2) pa_nil))))
        (pss_one (ps_if (PW.pt (pw_and (pt_cmpR op_notN (pv 8) pe_non (nomark _)) (pw_and1 (pt_cmpR op_lt (pe_callB (cr_maxT rfl) rfl T.max (by decide +kernel) (pa_cons (pv 8) pa_nil)) pe_int (nomark _)))))
          (pss_cons (ps_set (i := 2) sc_Lwalk.nd rfl (.inl rfl) (pv 8))
          (pss_cons (ps_expr (pe_bm PySem.F.plainAttrs_list PySem.F.slot_list_append PySem.F.type_list_append mt_append (pv 5) (pa_cons (pv 7) pa_nil)))
          (pss_one (ps_expr (pe_bm PySem.F.plainAttrs_list PySem.F.slot_list_append PySem.F.type_list_append mt_append (pv 4) (pa_cons (pv 2) pa_nil)))))) pss_nil))) pss_nil))))
    (pss_one (ps_ret (pe_tup (pa_cons (pv 5) (pa_cons (pv 4) pa_nil))))))), ?_⟩
  -- found, run
  refine ⟨_, rfl, by show 1 ≤ sizeLine; rw [line_eq]; omega, fun F hF => ?_⟩
  have sF := same_new hF (.lst [V.ref b])
  refine ⟨by show 0 ≤ sizeLine; exact Nat.zero_le _, fun R hR => ?_⟩
  have sR := same_new hR (.lst [])
  refine ⟨_, rfl, _, rfl, by omega, by omega, ?_⟩
  have nF : F ≠ d := (hd.ne hF).symm
  have nR : R ≠ d := ((hd.up sF).ne hR).symm
  have nFR : F ≠ R := fun e => by
    rw [← e, upd_same] at hR
    cases hR
  have nRH : H R = none := sF.free hR
  refine for_range (lo := 0) (n := st) (fun i σ H' => ∃ (c : Addr) (y : List Int) (v6 v7 v8 : Option V) (rs : List Int) (js : List (Addr × List Int)), σ = [some (.ref d), some (.ref l), some (.ref c), some (.int (st : Int)), some (.ref F), some (.ref R), v6, v7, v8] ∧ SameD d H H' ∧ Dr H' d ∧ Tu H' c y ∧ y.length = n ∧ Reach (ks.map (·.2)) m y ∧ Li H' R rs ∧ rs.length ≤ i ∧ H' F = some (.lst (refs js)) ∧ js.length ≤ i + 1 ∧ Tus H' js ∧ ∀ p ∈ js, Reach (ks.map (·.2)) m p.2) ⟨b, m, none, none, none, [], [(b, m)], rfl, same_but (sF.trans sR), (hd.up sF).up sR, (hb.up sF).up sR, hm, .here, upd_same, Nat.le_refl 0, sR _ _ upd_same, Nat.le_refl 1, fun p hp => by rw [List.mem_singleton.mp hp]; exact (hb.up sF).up sR, fun p hp => by rw [List.mem_singleton.mp hp]; exact .here⟩ ?_ ?_
  · rintro i σ H' hi ⟨c, y, v6, v7, v8, rs, js, rfl, s1, d1, hc, hy, ry, hR1, lR1, hF1, lF1, tj, rj⟩
    have hl1 : H' l = some (.lst (refs ks)) := s1 _ _ hl ld
    refine ⟨_, rfl, _, rfl, l, _, rfl, .inl (SqL.of hl1), _, _, rfl, ?_⟩
    rw [len_ref]
    have mx : (if (ks.length : Int) > 1 then (ks.length : Int) else 1) = (ks.length : Int) := by
      split <;> omega
    rw [mx]
    refine ⟨d, _, rfl, d1, by omega, fun v H2 v0 v1 s2 d2 => ?_⟩
    obtain ⟨j, rfl⟩ := Int.eq_ofNat_of_zero_le v0
    have hj : j < ks.length := by omega
    have hl2 : H2 l = some (.lst (refs ks)) := s2 _ _ hl1 ld
    refine ⟨_, rfl, _, rfl, l, _, rfl, .inl (SqL.of hl2), _, _, rfl, rfl, ?_⟩
    rw [len_ref]
    refine ⟨_, rfl, ?_⟩
    rw [decide_eq_true v1]
    refine iteT ?_
    have hkk : ks[j]? = some ks[j] := get_some hj
    have hkm := List.getElem_mem hj
    have et : (ks.map (·.2))[j]? = some (ks[j]).2 := snd_get hkk
    have okt := ok.at et
    have tr2 : TrAt H2 (ks[j]).1 (ks[j]).2 := ((hk _ hkm).upD s1 hd).upD s2 d1
    refine ⟨_, rfl, _, rfl, l, _, _, _, rfl, rfl, SqL.of hl2, at_ref hkk, _, rfl, _, _, _, y, n, rfl, tr2, hc.upD s2 d1, okt, hy, n2, fun v H3 s3 fi => ?_⟩
    have hF3 := s3 _ _ (s2 _ _ hF1 nF)
    have hR3 : Li H3 R rs := s3 _ _ (s2 _ _ hR1 nR)
    have tj3 : Tus H3 js := fun p hp => ((tj p hp).upD s2 d1).up s3
    have d3 := d2.up s3
    have sd3 : SameD d H H3 := (s1.trans s2).trans (same_but s3)
    have hc3 : Tu H3 c y := (hc.upD s2 d1).up s3
    cases ef : fireM (ks[j]).2 y with
    | none =>
      rw [ef] at fi
      rw [show v = .non from fi]
      refine ⟨_, rfl, rfl, _, rfl, iteF (iteF ?_)⟩
      exact ⟨c, y, _, _, _, rs, js, rfl, sd3, d3, hc3, hy, ry, hR3, by omega, hF3, by omega, tj3, rj⟩
    | some z =>
      rw [ef] at fi
      obtain ⟨a, rfl, hz⟩ := fi
      have ez : z = fireL (ks[j]).2 y y.length ∧ cov y (ks[j]).2.tk = true := by
        rw [fireM] at ef
        split at ef
        · rename_i c
          exact ⟨(Option.some.inj ef).symm, c⟩
        · cases ef
      have zl : z.length = n := by rw [ez.1]; exact fire_len okt y
      have rz : Reach (ks.map (·.2)) m z := by rw [ez.1]; exact ry.step et ez.2
      refine ⟨_, rfl, rfl, _, rfl, iteT ?_⟩
      refine ⟨_, rfl, a, z, rfl, SqT.of hz, by omega, fun mx hmx hall => ⟨_, _, rfl, rfl, _, rfl, ?_⟩⟩
      refine ite2 (fun c60 => ?_) (fun c60 => ?_)
      · refine ⟨_, rfl, _, rfl, .inl ⟨rfl, _, SqL.of hR3⟩, _, rfl, R, _, _, rfl, rfl, hR3, by rw [len_int, line_eq]; omega, ?_⟩
        have hF4 : upd H3 R (.lst (rs.map V.int ++ [V.int (j : Int)])) F = some (.lst (refs js)) := by
          rw [upd_ne nFR]
          exact hF3
        refine ⟨_, rfl, .inl ⟨rfl, _, SqL.of hF4⟩, _, rfl, F, _, _, rfl, rfl, hF4, by rw [len_ref, line_eq]; omega, ?_⟩
        have lift : ∀ {b : Addr} {x : List Int}, Tu H3 b x → Tu (upd (upd H3 R (.lst (rs.map V.int ++ [V.int (j : Int)]))) F (.lst (refs js ++ [V.ref a]))) b x := fun h => (h.mut hR3 (by intro _ z; cases z)).mut hF4 (by intro _ z; cases z)
        refine ⟨a, z, _, _, _, rs ++ [(j : Int)], js ++ [(a, z)], rfl, (sd3.mut nRH).mut hF, (d3.put nR.symm).put nF.symm, lift hz, zl, rz, ?_, by rw [List.length_append]; show rs.length + 1 ≤ _; omega, ?_, by rw [List.length_append]; show js.length + 1 ≤ _; omega, fun p hp => ?_, fun p hp => ?_⟩
        · show upd _ _ _ _ = _
          rw [upd_ne nFR.symm, upd_same, List.map_append]
          rfl
        · rw [upd_same, refs, refs, List.map_append]
          rfl
        · rcases List.mem_append.mp hp with y | y
          · exact lift (tj3 p y)
          · rw [List.mem_singleton.mp y]; exact lift hz
        · rcases List.mem_append.mp hp with y | y
          · exact rj p y
          · rw [List.mem_singleton.mp y]; exact rz
      · exact ⟨c, y, _, _, _, rs, js, rfl, sd3, d3, hc3, hy, ry, hR3, by omega, hF3, by omega, tj3, rj⟩
  · rintro σ H' ⟨c, y, v6, v7, v8, rs, js, rfl, s1, d1, hc, hy, ry, hR1, lR1, hF1, lF1, tj, rj⟩
    refine ⟨_, rfl, _, rfl, by show 2 ≤ sizeLine; rw [line_eq]; omega, fun a ha => ?_⟩
    have sa := same_new ha (.tup [V.ref R, V.ref F])
    exact q a R F js _ (s1.trans (same_but sa)) (d1.up sa) upd_same (sa _ _ hF1) (tj.up sa) rj
theorem sc_Ldraws : FnScope ["_law_script", "_law_count_here", "_law_cells", "_law_found", "_law_mixed", "_law_k", "_law_j", "_law_cell", "_law_again"] ["_law_script", "_law_count_here"] (defScope sLdraws) := ⟨rfl, rfl, rfl, by decide +kernel, rfl, by decide +kernel, by decide +kernel⟩
theorem ok_Ldraws (F : Stands K mg "_law_draws" sLdraws ["_law_script", "_law_count_here"] f fd) (T : Blt mg) : Has P w K mg base "_law_draws" ["_law_script", "_law_count_here"] 1 (sp_Ldraws K) := by
  refine ⟨f, fd, F.1.ok sc_Ldraws (fun vs H Q E h => ?_) (fun cdv A outer s H vs Q E hr h => ?_), F.2.1, F.1.kp, F.2.2⟩
  · obtain ⟨s0, xs, c, rfl, _⟩ := h
    rfl
  obtain ⟨s0, xs, c, rfl, hs, hc, q⟩ := h
  refine ⟨_, pss_cons (ps_set (i := 2) sc_Ldraws.nd rfl (.inl rfl) (pe_callTy call_list_of rfl T.list (by decide +kernel) (pa_cons (pv 0) pa_nil)))
    (Evl.pss_cut (ps_if (pt_cmpR op_eq (pe_callB call_len_seq rfl T.len PySem.boot_len (pa_cons (pv 2) pa_nil)) pe_int (nomark _))
      (pss_one (ps_set (i := 2) sc_Ldraws.nd rfl (.inl rfl) (pe_lst (pa_cons pe_int pa_nil)))) pss_nil)
    (pss_cons (ps_set (i := 3) sc_Ldraws.nd rfl (.inl rfl) (pe_lst pa_nil))
    (pss_cons (ps_set (i := 4) sc_Ldraws.nd rfl (.inl rfl) pe_int)
    (pss_cons (ps_for PassesOwn.never rfl (pi_range1 rfl T.range (pa_cons (pv 1) pa_nil)) (pg_name (i := 5) sc_Ldraws.nd rfl (.inl rfl))
      (pss_cons (ps_set (i := 6) sc_Ldraws.nd rfl (.inl rfl) (pe_op op_mod (pv 5) (pe_callB call_len_seq rfl T.len PySem.boot_len (pa_cons (pv 2) pa_nil))))
      (pss_cons (ps_set (i := 7) sc_Ldraws.nd rfl (.inl rfl) (pe_ix ix_list (pv 2) (pv 6) (fun _ _ => rfl)))
      (pss_cons (ps_set (i := 4) sc_Ldraws.nd rfl (.inl rfl) (pe_op op_mod (pe_callTy call_int1 rfl T.int (by decide +kernel) (pa_cons (pe_op op_add (pe_op op_add (pe_op op_add (pe_op op_mul (pv 4) pe_int) (pe_op op_mul (pe_op op_mod (pe_callTy call_int1 rfl T.int (by decide +kernel) (pa_cons (pv 7) pa_nil)) pe_int) pe_int)) (pe_op op_mul (pv 5) pe_int)) pe_int) pa_nil)) pe_int))
      (pss_cons (ps_set (i := 8) sc_Ldraws.nd rfl (.inl rfl) (pe_op op_mod (pe_callTy call_int1 rfl T.int (by decide +kernel) (pa_cons (pe_op op_add (pe_op op_add (pe_op op_mul (pv 4) (pv 4)) (pe_op op_mul pe_int (pv 4))) (pv 5)) pa_nil)) pe_int))
      (pss_one (ps_if (pt_cmpR op_ge (pv 7) (pe_op op_pow pe_int pe_int) (nomark _))
        (pss_cons (ps_expr (pe_bm PySem.F.plainAttrs_list PySem.F.slot_list_append PySem.F.type_list_append mt_append (pv 3) (pa_cons (pe_op op_mod (pe_callTy call_int1 rfl T.int (by decide +kernel) (pa_cons (pv 7) pa_nil)) pe_int) pa_nil)))
        (pss_one (ps_asg (pe_op op_fdiv (pv 7) pe_int) (pg_sub (pv 2) (pv 6) set_list)))) (pss_one (ps_expr (pe_bm PySem.F.plainAttrs_list PySem.F.slot_list_append PySem.F.type_list_append mt_append (pv 3) (pa_cons (pe_op op_mod (pe_callTy call_int1 rfl T.int (by decide +kernel) (pa_cons (pv 8) pa_nil)) pe_int) pa_nil)))))))))))
    (pss_cons (ps_expr (pe_bm0 PySem.F.plainAttrs_list PySem.F.slot_list_reverse PySem.F.type_list_reverse mt_reverse (pv 3)))
    (pss_one (ps_ret (pv 3)))))))), ?_⟩
  refine ⟨_, rfl, s0, _, rfl, .inl hs, fun C0 hC0 => ?_⟩
  have sC0 := same_new hC0 (.lst (xs.map V.int))
  refine ⟨fun σ H' => ∃ (C : Addr) (ys : List Int), σ = [some (.ref s0), some (.int (c : Int)), some (.ref C), none, none, none, none, none, none] ∧ Same H H' ∧ Li H' C ys ∧ H C = none ∧ 0 < ys.length, ?_, ?_⟩
  · refine ⟨_, rfl, C0, _, rfl, .inl (SqL.of upd_same), rfl, _, rfl, ?_⟩
    refine ite2 (fun z => ?_) (fun z => ?_)
    · refine ⟨by show 1 ≤ sizeLine; rw [line_eq]; omega, fun C1 hC1 => ?_⟩
      have sC1 := same_new hC1 (.lst [V.int 7])
      exact ⟨C1, [7], rfl, sC0.trans sC1, upd_same, sC0.free hC1, Nat.one_pos⟩
    · refine ⟨C0, xs, rfl, sC0, upd_same, hC0, ?_⟩
      rcases Nat.eq_zero_or_pos xs.length with e | e
      · exact absurd (by rw [len_int, e]; rfl) z
      · exact e
  rintro σ H1 ⟨C, ys, rfl, s1, hC, nC, py⟩
  refine ⟨by show 0 ≤ sizeLine; exact Nat.zero_le _, fun F hF => ?_⟩
  have sF := same_new hF (.lst [])
  have nFC : F ≠ C := fun e => by
    rw [e, hC] at hF
    cases hF
  have nF : H F = none := s1.free hF
  refine ⟨_, rfl, _, rfl, by omega, by omega, ?_⟩
  refine for_range (lo := 0) (n := c) (fun i σ H' => ∃ (mx : Int) (zs : List Int) (v5 v6 v7 v8 : Option V), σ = [some (.ref s0), some (.int (c : Int)), some (.ref C), some (.ref F), some (.int mx), v5, v6, v7, v8] ∧ Same H H' ∧ Li H' C zs ∧ zs.length = ys.length ∧ (∃ rs, Li H' F rs ∧ rs.length = i) ∧ 0 ≤ mx ∧ mx < 2147483647) ⟨12345, ys, none, none, none, none, rfl, s1.trans sF, hC.up sF, rfl, ⟨[], upd_same, rfl⟩, by decide, by decide⟩ ?_ ?_
  · rintro i σ H' hi ⟨mx, zs, v5, v6, v7, v8, rfl, s2, hC2, zl, ⟨rs, hF2, rl⟩, m0, m1⟩
    have pz : (0 : Int) < (zs.length : Int) := by omega
    refine ⟨_, rfl, _, rfl, C, _, rfl, .inl (SqL.of hC2), _, _, rfl, rfl, by rw [len_int]; exact pz, ?_⟩
    rw [len_int]
    have b0 := Int.emod_nonneg (0 + (i : Int)) (show (zs.length : Int) ≠ 0 by omega)
    have b1 := Int.emod_lt_of_pos (0 + (i : Int)) pz
    obtain ⟨j, ej⟩ := Int.eq_ofNat_of_zero_le b0
    rw [ej] at b1
    have hj : j < zs.length := by omega
    refine ⟨_, rfl, _, rfl, C, _, _, _, rfl, rfl, SqL.of hC2, by rw [ej]; exact at_int hj, ?_⟩
    have cm : ∀ {x : Int}, CMul mx x := fun {x} => .inl ⟨by omega, by omega⟩
    refine ⟨_, rfl, _, _, rfl, rfl, cm, ?_⟩
    refine ⟨_, rfl, .inl ⟨_, rfl, _, _, rfl, rfl, by show (0 : Int) < 1000003; decide, _, _, rfl, rfl, .inr (by decide), _, _, rfl, rfl, ?_⟩⟩
    refine ⟨_, rfl, _, _, rfl, rfl, .inr (by decide), _, _, rfl, rfl, _, _, rfl, rfl, ?_⟩
    refine .inl ⟨_, rfl, _, _, rfl, rfl, by show (0 : Int) < 2147483647; decide, ?_⟩
    have n0 : ∀ x : Int, 0 ≤ x % 2147483647 := fun x => Int.emod_nonneg _ (by decide)
    have n1 : ∀ x : Int, x % 2147483647 < 2147483647 := fun x => Int.emod_lt_of_pos _ (by decide)
    have cmr : ∀ x y : Int, CMul (x % 2147483647) y := fun x y => by
      have := n0 x
      have := n1 x
      exact .inl ⟨by omega, by omega⟩
    refine ⟨_, rfl, _, rfl, _, _, rfl, rfl, cmr _ _, ?_⟩
    refine ⟨_, rfl, _, _, rfl, rfl, .inl (by decide), _, _, rfl, rfl, ?_⟩
    refine ⟨_, rfl, _, _, rfl, rfl, .inl ⟨_, rfl, _, _, rfl, rfl, by show (0 : Int) < 1000003; decide, ?_⟩⟩
    refine ⟨_, rfl, _, _, rfl, rfl, ⟨by decide, by decide, by decide⟩, _, _, rfl, rfl, _, rfl, ?_⟩
    refine ite2 (fun big => ?_) (fun big => ?_)
    · refine ⟨_, rfl, .inl ⟨rfl, _, SqL.of hF2⟩, _, rfl, .inl ⟨_, rfl, _, _, rfl, rfl, by show (0 : Int) < 1000; decide, ?_⟩⟩
      refine ⟨F, _, _, rfl, rfl, hF2, by rw [len_int, line_eq]; omega, ?_⟩
      have hC3 : Li (upd H' F (.lst (rs.map V.int ++ [V.int (zs.getD j 0 % 1000)]))) C zs := by
        show upd _ _ _ _ = _
        rw [upd_ne nFC.symm]
        exact hC2
      refine ⟨_, rfl, _, _, rfl, rfl, ⟨by decide, by decide⟩, ?_⟩
      refine ⟨_, rfl, _, rfl, C, _, _, j, rfl, rfl, hC3, by rw [ej, len_int]; exact ixN_nat hj, ?_⟩
      refine ⟨_, zs.set j (zs.getD j 0 / 1000), _, _, _, _, rfl, same_mut (same_mut s2 nF) nC, ?_, by rw [List.length_set]; exact zl, ?_, n0 _, n1 _⟩
      · show upd _ _ _ _ = _
        rw [upd_same, ← set_int]
      · obtain ⟨rs', e1, e2⟩ := li_snoc (H := H') (F := F) (v := zs.getD j 0 % 1000) rl
        refine ⟨rs', ?_, e2⟩
        show upd _ _ _ _ = _
        rw [upd_ne nFC]
        exact e1
    · refine ⟨_, rfl, .inl ⟨rfl, _, SqL.of hF2⟩, _, rfl, .inl ⟨_, rfl, _, _, rfl, rfl, by show (0 : Int) < 1000; decide, ?_⟩⟩
      refine ⟨F, _, _, rfl, rfl, hF2, by rw [len_int, line_eq]; omega, ?_⟩
      refine ⟨_, zs, _, _, _, _, rfl, same_mut s2 nF, ?_, zl, li_snoc rl, n0 _, n1 _⟩
      show upd _ _ _ _ = _
      rw [upd_ne nFC.symm]
      exact hC2
  · rintro σ H' ⟨mx, zs, v5, v6, v7, v8, rfl, s2, hC2, zl, ⟨rs, hF2, rl⟩, m0, m1⟩
    refine ⟨_, rfl, .inl ⟨rfl, _, SqL.of hF2⟩, F, _, rfl, rfl, hF2, ?_⟩
    refine ⟨_, rfl, q F _ (same_mut s2 nF) ⟨rs.reverse, ?_⟩⟩
    show upd _ _ _ _ = _
    rw [upd_same, List.map_reverse]
end
end K16
namespace K16
open PySem L2
/-- a marking with no words -/
def Cfg (H : Hp) (a : Addr) (m : List Int) : Prop := ∃ b e, H a = some (.tup [.ref b, .ref e]) ∧ Tu H b m ∧ H e = some (.tup [])
theorem Cfg.up {H H' : Hp} {a : Addr} {m : List Int} (h : Cfg H a m) (s : Same H H') : Cfg H' a m := by
  obtain ⟨b, e, h1, h2, h3⟩ := h
  exact ⟨b, e, s _ _ h1, s _ _ h2, s _ _ h3⟩
def Cfgs (H : Hp) (ks : List (Addr × List Int)) : Prop := ∀ p ∈ ks, Cfg H p.1 p.2
theorem Cfgs.up {H H' : Hp} {ks : List (Addr × List Int)} (h : Cfgs H ks) (s : Same H H') : Cfgs H' ks := fun p hp => (h p hp).up s
def sp_Lconfig_covers : Sp := fun vs H Q _ => ∃ (a b : Addr) (x y : List Int), vs = [.ref a, .ref b] ∧ Cfg H a x ∧ Cfg H b y ∧ x.length ≤ 1000 ∧ x.length ≤ y.length ∧ Q (.bl (cov x y)) H
def sp_Lconfig_inside : Sp := fun vs H Q _ => ∃ (l b : Addr) (ks : List (Addr × List Int)) (y : List Int), vs = [.ref l, .ref b] ∧ H l = some (.tup (refs ks)) ∧ Cfgs H ks ∧ Cfg H b y ∧ (∀ p ∈ ks, p.2.length = y.length) ∧ y.length ≤ 1000 ∧ Q (.bl (inC (ks.map (·.2)) y)) H
def sp_Lways_back : Sp := fun vs H Q _ => ∃ (a b : Addr) (t : Tr) (m : List Int) (n : Nat), vs = [.ref a, .ref b] ∧ TrAt H a t ∧ Tu H b m ∧ TrOk n t ∧ m.length = n ∧ n ≤ 1000 ∧ (∀ q, miss t m q ≤ 1000) ∧ ∀ (v : Int) (H' : Hp), Same H H' → Q (.int v) H'
def sp_Lcalm : Sp := fun vs H Q _ => ∃ (a : Addr) (t : Tr) (n : Nat), vs = [.ref a] ∧ TrAt H a t ∧ TrOk n t ∧ n ≤ 1000 ∧ ∀ (c : Addr) (u : Tr) (H' : Hp), Same H H' → TrAt H' c u → Calm n u → (∀ i, i < n → gt u.tk i ≤ 1) → Q (.ref c) H'
theorem inC_cons {m : List Int} {ms : List (List Int)} {x : List Int} : inC (m :: ms) x = (cov x m || inC ms x) := rfl
theorem inC_snoc {m : List Int} {ms : List (List Int)} {x : List Int} : inC (ms ++ [m]) x = (inC ms x || cov x m) := by
  rw [inC, List.any_append]
  simp only [List.any_cons, List.any_nil, Bool.or_false]
  rfl
section
variable {P : Program} {w : World} {K : PySem.W.Frag} {mg : Str → Option Value} {base : Heap} {f : Addr} {fd : FuncData}
theorem sc_Lconfig_covers : FnScope ["_law_first", "_law_second", "_law_k"] ["_law_first", "_law_second"] (defScope sLconfig_covers) := ⟨rfl, rfl, rfl, by decide +kernel, rfl, by decide +kernel, by decide +kernel⟩
theorem ok_Lconfig_covers (F : Stands K mg "_law_config_covers" sLconfig_covers ["_law_first", "_law_second"] f fd) (T : Blt mg) (CLcovers : Has P w K mg base "_law_covers" ["_law_first", "_law_second"] 1 spCovers) : Has P w K mg base "_law_config_covers" ["_law_first", "_law_second"] 2 sp_Lconfig_covers := by
  obtain ⟨_, _, GLcovers, mLcovers, kLcovers, bLcovers⟩ := CLcovers
  refine ⟨f, fd, F.1.ok sc_Lconfig_covers (fun vs H Q E h => ?_) (fun cdv A outer s H vs Q E hr h => ?_), F.2.1, F.1.kp, F.2.2⟩
  · obtain ⟨a, b, x, y, rfl, _⟩ := h
    rfl
  obtain ⟨a, b, x, y, rfl, ⟨a1, a2, ha, h1, h2⟩, ⟨b1, b2, hb, g1, g2⟩, xl, xy, q⟩ := h
  refine ⟨_, pss_cons (ps_if (pt_not (pt_val (pe_call GLcovers hr rfl mLcovers kLcovers bLcovers .nil pass0 (pa_cons (pe_ix ix_tup (pv 0) pe_int (fun _ _ => rfl)) (pa_cons (pe_ix ix_tup (pv 1) pe_int (fun _ _ => rfl)) pa_nil)))))
      (pss_one (ps_ret pe_bl)) pss_nil)
    (pss_cons (ps_for PassesOwn.never rfl (pi_range1 rfl T.range (pa_cons (pe_callB call_len_seq rfl T.len PySem.boot_len (pa_cons (pe_ix ix_tup (pv 0) pe_int (fun _ _ => rfl)) pa_nil)) pa_nil)) (pg_name (i := 2) sc_Lconfig_covers.nd rfl (.inl rfl))
      pss_never)
    (pss_one (ps_ret pe_bl))), ?_⟩
  refine ⟨_, rfl, a, _, _, _, rfl, rfl, SqT.of ha, rfl, _, rfl, b, _, _, _, rfl, rfl, SqT.of hb, rfl, a1, b1, x, y, rfl, h1, g1, xl, xy, _, rfl, ?_⟩
  cases c : cov x y with
  | false =>
    rw [c] at q
    exact iteT q
  | true =>
    refine iteF ?_
    refine ⟨_, rfl, a, _, _, _, rfl, rfl, SqT.of ha, rfl, a2, _, rfl, .inr (SqT.of h2), _, rfl, by omega, by decide, ?_⟩
    refine for_range (lo := 0) (n := 0) (fun i σ H' => ∃ v, σ = [some (.ref a), some (.ref b), v] ∧ H' = H) ⟨none, rfl, rfl⟩ (fun i σ H' hi _ => absurd hi (Nat.not_lt_zero _)) ?_
    rintro σ H' ⟨v, rfl, rfl⟩
    rw [c] at q
    exact q
theorem sc_Lconfig_inside : FnScope ["_law_members", "_law_config", "_law_member"] ["_law_members", "_law_config"] (defScope sLconfig_inside) := ⟨rfl, rfl, rfl, by decide +kernel, rfl, by decide +kernel, by decide +kernel⟩
theorem ok_Lconfig_inside (F : Stands K mg "_law_config_inside" sLconfig_inside ["_law_members", "_law_config"] f fd) (T : Blt mg) (CLconfig_covers : Has P w K mg base "_law_config_covers" ["_law_first", "_law_second"] 2 sp_Lconfig_covers) : Has P w K mg base "_law_config_inside" ["_law_members", "_law_config"] 3 sp_Lconfig_inside := by
  obtain ⟨_, _, GLconfig_covers, mLconfig_covers, kLconfig_covers, bLconfig_covers⟩ := CLconfig_covers
  refine ⟨f, fd, F.1.ok sc_Lconfig_inside (fun vs H Q E h => ?_) (fun cdv A outer s H vs Q E hr h => ?_), F.2.1, F.1.kp, F.2.2⟩
  · obtain ⟨l, b, ks, y, rfl, _⟩ := h
    rfl
  obtain ⟨l, b, ks, y, rfl, hl, hk, hb, hn, hy, q⟩ := h
  refine ⟨_, pss_cons (ps_for PassesOwn.never rfl (pi_tup (pv 0)) (pg_name (i := 2) sc_Lconfig_inside.nd rfl (.inl rfl))
      (pss_one (ps_if (pt_val (pe_call GLconfig_covers hr rfl mLconfig_covers kLconfig_covers bLconfig_covers .nil pass0 (pa_cons (pv 1) (pa_cons (pv 2) pa_nil))))
        (pss_one (ps_ret pe_bl)) pss_nil)))
    (pss_one (ps_ret pe_bl)), ?_⟩
  refine ⟨_, rfl, l, rfl, ⟨_, SqT.of hl⟩, for_tup (K := K) (a := l) (xs := refs ks) (fun i σ H' => ∃ v, σ = [some (.ref l), some (.ref b), v] ∧ H' = H ∧ inC ((ks.take i).map (·.2)) y = false) ⟨none, rfl, rfl, rfl⟩ (fun i σ H' _ h => ?_) (fun i x σ H' hx h => ?_) fun σ H' h => ?_⟩
  · obtain ⟨_, _, rfl, _⟩ := h
    exact SqT.of hl
  · obtain ⟨v, rfl, rfl, e⟩ := h
    obtain ⟨p, hp, rfl⟩ := ref_at hx
    have hm := List.mem_of_getElem? hp
    refine ⟨_, rfl, _, rfl, b, p.1, y, p.2, rfl, hb, hk p hm, hy, by rw [hn p hm]; exact Nat.le_refl _, _, rfl, ?_⟩
    cases c : cov y p.2 with
    | true =>
      refine iteT ?_
      have e2 : inC (ks.map (·.2)) y = true := inC_iff.mpr ⟨p.2, List.mem_map.mpr ⟨p, hm, rfl⟩, c⟩
      rw [e2] at q
      exact q
    | false =>
      refine iteF ⟨_, rfl, rfl, ?_⟩
      rw [take_succ' hp, List.map_append]
      show inC (_ ++ [p.2]) y = false
      rw [inC_snoc, e, c]
      rfl
  · obtain ⟨v, rfl, rfl, e⟩ := h
    rw [len_ref, List.take_length] at e
    rw [e] at q
    exact q
theorem sc_Lways_back : FnScope ["_law_transition_here", "_law_marking_here", "_law_takes", "_law_gives", "_law_moves", "_law_ways", "_law_place", "_law_sources", "_law_source", "_law_k"] ["_law_transition_here", "_law_marking_here"] (defScope sLways_back) := ⟨rfl, rfl, rfl, by decide +kernel, rfl, by decide +kernel, by decide +kernel⟩
theorem ok_Lways_back (F : Stands K mg "_law_ways_back" sLways_back ["_law_transition_here", "_law_marking_here"] f fd) (T : Blt mg) : Has P w K mg base "_law_ways_back" ["_law_transition_here", "_law_marking_here"] 1 sp_Lways_back := by
  refine ⟨f, fd, F.1.ok sc_Lways_back (fun vs H Q E h => ?_) (fun cdv A outer s H vs Q E hr h => ?_), F.2.1, F.1.kp, F.2.2⟩
  · obtain ⟨a, b, t, m, n, rfl, _⟩ := h
    rfl
  obtain ⟨a, b, t, m, n, rfl, ht, hb, ok, hm, hn, hq, q⟩ := h
  refine ⟨_, pss_cons (ps_asg (pv 0) (pg_tup rfl (pgs_cons (pg_name (i := 2) sc_Lways_back.nd rfl (.inl rfl)) (pgs_cons (pg_name (i := 3) sc_Lways_back.nd rfl (.inl rfl)) (pgs_cons (pg_name (i := 4) sc_Lways_back.nd rfl (.inl rfl)) pgs_nil)))))
    (pss_cons (ps_set (i := 5) sc_Lways_back.nd rfl (.inl rfl) pe_int)
    (pss_cons (ps_for PassesOwn.never rfl (pi_range1 rfl T.range (pa_cons (pe_callB call_len_seq rfl T.len PySem.boot_len (pa_cons (pv 1) pa_nil)) pa_nil)) (pg_name (i := 6) sc_Lways_back.nd rfl (.inr rfl))
      (pss_cons (ps_set (i := 7) sc_Lways_back.nd rfl (.inl rfl) (pe_callB call_len_seq rfl T.len PySem.boot_len (pa_cons (pe_lc (own := [("_law_source", 8)]) (g := gName 8) rfl sc_Lways_back.nd (pi_tup (pv 4)) (blkOk_by (own := [("_law_source", 8)]) (N := ["_law_transition_here", "_law_marking_here", "_law_takes", "_law_gives", "_law_moves", "_law_ways", "_law_place", "_law_sources", "_law_source", "_law_k"]) (sc := defScope sLways_back) (by decide +kernel)) (fun _ _ _ _ _ => pg_name (i := 8) sc_Lways_back.nd rfl (Or.inl rfl)) (fun _ _ _ _ _ => pts_one (pt_cmpR op_eq (pv 8) (pv 6) (nomark _))) (fun _ _ _ _ _ => (pv 8))) pa_nil)))
      (pss_one (ps_for PassesOwn.never rfl (pi_range1 rfl T.range (pa_cons (pe_callB (call_max2 rfl) rfl T.max (by decide +kernel) (pa_cons pe_int (pa_cons (pe_op op_sub (pe_ix ix_tup (pv 1) (pv 6) (fun _ _ => rfl)) (pe_ix ix_tup (pv 3) (pv 6) (fun _ _ => rfl))) pa_nil))) pa_nil)) (pg_name (i := 9) sc_Lways_back.nd rfl (.inl rfl))
        (pss_one (ps_set (i := 5) sc_Lways_back.nd rfl (.inl rfl) (pe_op op_fdiv (pe_op op_mul (pv 5) (pe_op op_add (pv 7) (pv 9))) (pe_op op_add (pv 9) pe_int))))))))
    (pss_one (ps_ret (pv 5))))), ?_⟩
  obtain ⟨a1, a2, a3, h0, h1, h2, h3⟩ := ht
  have l1 := ok.ltk
  have l2 := ok.lgv
  have l3 := ok.lmv
  refine ⟨_, rfl, a, _, rfl, SqT.of h0, rfl, _, _, rfl, _, _, rfl, _, _, rfl, rfl, ?_⟩
  refine ⟨_, rfl, b, _, rfl, .inr (SqT.of hb), _, rfl, by omega, by rw [len_int]; omega, ?_⟩
  rw [len_int]
  refine for_range (lo := 0) (n := m.length) (fun k σ H' => ∃ (w : Int) (v6 v7 v8 v9 : Option V), σ = [some (.ref a), some (.ref b), some (.ref a1), some (.ref a2), some (.ref a3), some (.int w), v6, v7, v8, v9] ∧ Same H H') ⟨1, none, none, none, none, rfl, Same.refl H⟩ ?_ ?_
  · rintro k σ H' hk ⟨w, v6, v7, v8, v9, rfl, s⟩
    rw [Int.zero_add]
    refine ⟨_, rfl, a3, rfl, ⟨_, SqT.of (h3.up s)⟩, fun D hD => lc_tup (K := K) (a := a3) (xs := t.mv.map V.int) (fun i H2 => Same H H2 ∧ ∃ xs, H2 D = some (.lst xs) ∧ xs.length ≤ i) ⟨s.trans (same_new hD _), [], upd_same, Nat.le_refl 0⟩ (fun i H2 _ h => SqT.of (h3.up h.1)) (fun i x H2 hx h => ?_) fun H2 h => ?_⟩
    · obtain ⟨s2, xs, hl, lx⟩ := h
      obtain ⟨hi, rfl⟩ := int_at hx
      refine ⟨rfl, ?_⟩
      refine ⟨_, rfl, _, rfl, rfl, _, rfl, ?_⟩
      refine ite2 (fun c => ?_) (fun c => ?_)
      · refine ⟨_, rfl, _, hl, by rw [line_eq]; omega, same_mut s2 (s.free hD), xs ++ [_], upd_same, ?_⟩
        rw [List.length_append]
        exact Nat.succ_le_succ lx
      · exact ⟨s2, xs, hl, by omega⟩
    · obtain ⟨s2, xs, hl, lx⟩ := h
      rw [len_int] at lx
      refine ⟨D, _, rfl, .inl (SqL.of hl), ?_⟩
      refine ⟨_, rfl, _, rfl, b, _, _, _, rfl, rfl, SqT.of (hb.up s2), at_int hk, _, rfl, _, rfl, a2, _, _, _, rfl, rfl, SqT.of (h2.up s2), at_int (by omega), _, _, rfl, rfl, _, _, rfl, ?_⟩
      have em : (if m.getD k 0 - t.gv.getD k 0 > 0 then m.getD k 0 - t.gv.getD k 0 else 0) = miss t m k := by
        show (if gt m k - gt t.gv k > 0 then gt m k - gt t.gv k else 0) = _
        unfold miss
        split <;> omega
      rw [em]
      have q0 := miss_nonneg t m k
      have q1 := hq k
      obtain ⟨c, ec⟩ := Int.eq_ofNat_of_zero_le q0
      rw [ec] at q1 ⊢
      refine ⟨_, rfl, by omega, by omega, ?_⟩
      refine for_range (lo := 0) (n := c) (fun j σ H' => ∃ (w : Int) (v8 v9 : Option V), σ = [some (.ref a), some (.ref b), some (.ref a1), some (.ref a2), some (.ref a3), some (.int w), some (.int (k : Int)), some (.int (xs.length : Int)), v8, v9] ∧ Same H H') ⟨w, _, _, rfl, s2⟩ ?_ ?_
      · rintro j σ H3 hj ⟨w, v8, v9, rfl, s3⟩
        rw [Int.zero_add]
        refine ⟨_, rfl, _, rfl, _, rfl, _, _, rfl, rfl, _, _, rfl, rfl, .inr ⟨by omega, by omega⟩, ?_⟩
        refine ⟨_, rfl, _, _, rfl, rfl, _, _, rfl, rfl, ⟨by omega, by omega⟩, ?_⟩
        exact ⟨_, _, _, rfl, s3⟩
      · rintro σ H3 ⟨w, v8, v9, rfl, s3⟩
        exact ⟨_, _, _, _, _, rfl, s3⟩
  · rintro σ H' ⟨w, v6, v7, v8, v9, rfl, s⟩
    exact ⟨_, rfl, q w H' s⟩
theorem sc_Lcalm : FnScope ["_law_transition_here", "_law_takes", "_law_gives", "_law_k"] ["_law_transition_here"] (defScope sLcalm) := ⟨rfl, rfl, rfl, by decide +kernel, rfl, by decide +kernel, by decide +kernel⟩
theorem ok_Lcalm (F : Stands K mg "_law_calm" sLcalm ["_law_transition_here"] f fd) (T : Blt mg) : Has P w K mg base "_law_calm" ["_law_transition_here"] 1 sp_Lcalm := by
  refine ⟨f, fd, F.1.ok sc_Lcalm (fun vs H Q E h => ?_) (fun cdv A outer s H vs Q E hr h => ?_), F.2.1, F.1.kp, F.2.2⟩
  · obtain ⟨a, t, n, rfl, _⟩ := h
    rfl
  obtain ⟨a, t, n, rfl, ht, ok, hn, q⟩ := h
  refine ⟨_, pss_cons (ps_set (i := 1) sc_Lcalm.nd rfl (.inl rfl) (pe_op op_rep (pe_lst (pa_cons pe_int pa_nil)) (pe_callB call_len_seq rfl T.len PySem.boot_len (pa_cons (pe_ix ix_tup (pv 0) pe_int (fun _ _ => rfl)) pa_nil))))
    (pss_cons (ps_set (i := 2) sc_Lcalm.nd rfl (.inl rfl) (pe_callTy call_list_of rfl T.list (by decide +kernel) (pa_cons (pv 1) pa_nil)))
    (pss_cons (ps_for PassesOwn.never rfl (pi_range1 rfl T.range (pa_cons (pe_callB call_len_seq rfl T.len PySem.boot_len (pa_cons (pv 1) pa_nil)) pa_nil)) (pg_name (i := 3) sc_Lcalm.nd rfl (.inl rfl))
      (Evl.pss_cut (ps_if (PW.pt (pw_and (pt_cmpR op_gt (pe_ix ix_tup (pe_ix ix_tup (pv 0) pe_int (fun _ _ => rfl)) (pv 3) (fun _ _ => rfl)) pe_int (nomark _)) (pw_and1 (pt_cmpR op_eq (pe_callB (cr_sum rfl) rfl T.sum (by decide +kernel) (pa_cons (pv 1) pa_nil)) pe_int (nomark _)))))
        (pss_one (ps_asg pe_int (pg_sub (pv 1) (pv 3) set_list))) pss_nil)
      (pss_one (ps_if (PW.pt (pw_and (pt_cmpR op_gt (pe_ix ix_tup (pe_ix ix_tup (pv 0) pe_int (fun _ _ => rfl)) (pv 3) (fun _ _ => rfl)) pe_int (nomark _)) (pw_and1 (pt_cmpR op_eq (pe_callB (cr_sum rfl) rfl T.sum (by decide +kernel) (pa_cons (pv 2) pa_nil)) pe_int (nomark _)))))
        (pss_one (ps_asg pe_int (pg_sub (pv 2) (pv 3) set_list))) pss_nil))))
    (pss_one (ps_ret (pe_tup (pa_cons (pe_callTy call_tuple_of rfl T.tuple (by decide +kernel) (pa_cons (pv 1) pa_nil)) (pa_cons (pe_callTy call_tuple_of rfl T.tuple (by decide +kernel) (pa_cons (pv 2) pa_nil)) (pa_cons (pe_callTy call_tuple_of rfl T.tuple (by decide +kernel) (pa_cons (pe_listRg rfl rfl T.list (prg_1 rfl T.range (pe_callB call_len_seq rfl T.len PySem.boot_len (pa_cons (pv 1) pa_nil)))) pa_nil)) pa_nil)))))))), ?_⟩
  obtain ⟨a1, a2, a3, h0, h1, h2, h3⟩ := ht
  have l1 := ok.ltk
  have l2 := ok.lgv
  refine ⟨by show 1 ≤ sizeLine; rw [line_eq]; omega, fun p hp => ?_⟩
  have sp := same_new hp (.lst [V.int 0])
  refine ⟨_, rfl, a, _, _, _, rfl, rfl, SqT.of (sp _ _ h0), rfl, a1, _, rfl, .inr (SqT.of (h1.up sp)), p, _, _, rfl, rfl, upd_same, by rw [len_int]; omega, by rw [len_int]; omega, by rw [len_int, line_eq]; show 1 * _ ≤ _; omega, fun A1 hA1 => ?_⟩
  rw [len_int, l1, Int.toNat_natCast, rep_zero]
  have s1 := sp.trans (same_new hA1 (.lst ((List.replicate n (0 : Int)).map V.int)))
  have f1 : Li (upd (upd H p (.lst [V.int 0])) A1 (.lst ((List.replicate n (0 : Int)).map V.int))) A1 (List.replicate n 0) := upd_same
  have n1' : H A1 = none := sp.free hA1
  generalize upd (upd H p (.lst [V.int 0])) A1 (.lst ((List.replicate n (0 : Int)).map V.int)) = H1 at s1 f1
  refine ⟨_, rfl, A1, _, rfl, .inl (SqL.of f1), fun A2 hA2 => ?_⟩
  have s2 := same_new hA2 (.lst ((List.replicate n (0 : Int)).map V.int))
  have n2' : H A2 = none := s1.free hA2
  have n12 : A1 ≠ A2 := ne_of_none f1 hA2
  refine ⟨_, rfl, A1, _, rfl, .inl (SqL.of (f1.up s2)), _, rfl, by omega, by rw [len_int, List.length_replicate]; omega, ?_⟩
  rw [len_int, List.length_replicate]
  refine for_range (lo := 0) (n := n) (fun k σ H' => ∃ (v3 : Option V) (x y : List Int), σ = [some (.ref a), some (.ref A1), some (.ref A2), v3] ∧ Same H H' ∧ Li H' A1 x ∧ x.length = n ∧ (∀ i, i < n → 0 ≤ gt x i ∧ gt x i ≤ 1) ∧ Li H' A2 y ∧ y.length = n ∧ ((∀ i, i < n → gt y i = 0) ∨ ∃ a, a < n ∧ ∀ i, i < n → gt y i = if i = a then 1 else 0)) ⟨none, _, _, rfl, s1.trans s2, f1.up s2, List.length_replicate, fun i _ => by rw [gt_rep]; omega, upd_same, List.length_replicate, .inl fun i _ => gt_rep⟩ ?_ ?_
  · rintro k σ H' hk ⟨v3, x, y, rfl, s, hx, xl, xp, hy, yl, yp⟩
    rw [Int.zero_add]
    have kx : k < x.length := by omega
    have ky : k < y.length := by omega
    refine ⟨fun σ H2 => ∃ (x : List Int), σ = [some (.ref a), some (.ref A1), some (.ref A2), some (.int (k : Int))] ∧ Same H H2 ∧ Li H2 A1 x ∧ x.length = n ∧ (∀ i, i < n → 0 ≤ gt x i ∧ gt x i ≤ 1) ∧ Li H2 A2 y, ?_, ?_⟩
    · refine ⟨_, rfl, a, _, _, _, rfl, rfl, SqT.of (s _ _ h0), rfl, _, rfl, a1, _, _, _, rfl, rfl, SqT.of (h1.up s), at_int (by omega), _, _, rfl, rfl, _, rfl, ?_⟩
      refine ite2 (fun c1 => ?_) (fun c1 => ?_)
      · refine ⟨_, rfl, A1, _, rfl, SqL.of hx, rfl, _, rfl, ?_⟩
        refine ite2 (fun c2 => ?_) (fun c2 => ?_)
        · refine ⟨_, rfl, _, rfl, A1, _, _, k, rfl, rfl, hx, by rw [len_int]; exact ixN_nat kx, ?_⟩
          refine ⟨x.set k 1, rfl, same_mut s n1', by show upd _ _ _ _ = _; rw [upd_same, set_int], by rw [List.length_set]; exact xl, fun i hi => ?_, ?_⟩
          · rw [gt_set kx]
            have := xp i hi
            split <;> omega
          · show upd _ _ _ _ = _
            rw [upd_ne n12.symm]
            exact hy
        · exact ⟨x, rfl, s, hx, xl, xp, hy⟩
      · exact ⟨x, rfl, s, hx, xl, xp, hy⟩
    rintro σ H2 ⟨x, rfl, s, hx, xl, xp, hy⟩
    refine ⟨_, rfl, a, _, _, _, rfl, rfl, SqT.of (s _ _ h0), rfl, _, rfl, a2, _, _, _, rfl, rfl, SqT.of (h2.up s), at_int (by omega), _, _, rfl, rfl, _, rfl, ?_⟩
    refine ite2 (fun c1 => ?_) (fun c1 => ?_)
    · refine ⟨_, rfl, A2, _, rfl, SqL.of hy, rfl, _, rfl, ?_⟩
      refine ite2 (fun c2 => ?_) (fun c2 => ?_)
      · have c2' : y.sum = 0 := by
          have := of_decide_eq_true c2
          injection this
        refine ⟨_, rfl, _, rfl, A2, _, _, k, rfl, rfl, hy, by rw [len_int]; exact ixN_nat ky, ?_⟩
        refine ⟨_, x, y.set k 1, rfl, same_mut s n2', ?_, xl, xp, by show upd _ _ _ _ = _; rw [upd_same, set_int], by rw [List.length_set]; exact yl, .inr ⟨k, hk, fun i hi => ?_⟩⟩
        · show upd _ _ _ _ = _
          rw [upd_ne n12]
          exact hx
        · have z0 : gt y i = 0 := by
            rcases yp with z | ⟨b, hb, z⟩
            · exact z i hi
            · have e : sm n (gt y) = gt y b := sm_single hb fun j hj hn => by rw [z j hj, if_neg hn]
              rw [z b hb, if_pos rfl] at e
              rw [sum_sm, yl, e] at c2'
              cases c2'
          rw [gt_set ky]
          split
          · rfl
          · exact z0
      · exact ⟨_, x, y, rfl, s, hx, xl, xp, hy, yl, yp⟩
    · exact ⟨_, x, y, rfl, s, hx, xl, xp, hy, yl, yp⟩
  · rintro σ H' ⟨v3, x, y, rfl, s, hx, xl, xp, hy, yl, yp⟩
    refine ⟨_, rfl, A1, _, rfl, .inl ⟨SqL.of hx, fun t1 ht1 => ?_⟩⟩
    have st1 := same_new ht1 (.tup (x.map V.int))
    refine ⟨_, rfl, A2, _, rfl, .inl ⟨SqL.of (hy.up st1), fun t2 ht2 => ?_⟩⟩
    have st2 := same_new ht2 (.tup (y.map V.int))
    refine ⟨_, rfl, A1, _, rfl, .inl (SqL.of ((hx.up st1).up st2)), _, rfl, RgOk.of_le (by decide) (by rw [len_int]; omega) (by decide) (by rw [len_int]; omega), fun A3 hA3 => ?_⟩
    rw [len_int, xl, rg_upTo]
    have st3 := same_new hA3 (.lst ((upTo n).map V.int))
    refine ⟨A3, _, rfl, .inl ⟨SqL.of upd_same, fun t3 ht3 => ?_⟩⟩
    have st4 := same_new ht3 (.tup ((upTo n).map V.int))
    refine ⟨by show 3 ≤ sizeLine; rw [line_eq]; omega, fun c hc => ?_⟩
    have st5 := same_new hc (.tup [V.ref t1, V.ref t2, V.ref t3])
    have e1 : Tu (upd H' t1 (.tup (x.map V.int))) t1 x := upd_same
    have e2 : Tu (upd (upd H' t1 (.tup (x.map V.int))) t2 (.tup (y.map V.int))) t2 y := upd_same
    have e3 : Tu (upd (upd (upd (upd H' t1 (.tup (x.map V.int))) t2 (.tup (y.map V.int))) A3 (.lst ((upTo n).map V.int))) t3 (.tup ((upTo n).map V.int))) t3 (upTo n) := upd_same
    refine q c ⟨x, y, upTo n⟩ _ (s.trans (st1.trans (st2.trans (st3.trans (st4.trans st5))))) ⟨t1, t2, t3, upd_same, e1.up (st2.trans (st3.trans (st4.trans st5))), e2.up (st3.trans (st4.trans st5)), e3.up st5⟩ ⟨⟨xl, yl, upTo_len n, fun i hi => ?_, fun i hi => ?_, fun i hi => ?_⟩, fun i hi => gt_upTo hi, yp⟩ fun i hi => (xp i hi).2
    · show 0 ≤ gt x i ∧ gt x i ≤ 9
      have := xp i hi
      omega
    · show 0 ≤ gt y i ∧ gt y i ≤ 9
      rcases yp with z | ⟨a, ha, z⟩
      · rw [z i hi]; omega
      · rw [z i hi]; split <;> omega
    · show -1 ≤ gt (upTo n) i ∧ gt (upTo n) i < (n : Int)
      rw [gt_upTo hi]
      omega
end
end K16
namespace K16
open PySem PySem.Spec PyProof.Rows L2
/-! ### a display {(..): v} with one tuple key -/
def tDispT (tk tv : TE) : TE := fun σ H Q => ∀ p, H p = none → tk σ (upd H p (.dT [])) fun x H1 => tv σ H1 fun y H2 => ∃ (b : Addr) (k : List Key), x = .ref b ∧ H2 b = some (.tup (k.map kV)) ∧ H2 p = some (.dT []) ∧ Q (.ref p) (upd H2 p (.dT [(k, y)]))
theorem pe_dispT {X : Cx} {pos : Pos} {key value : Expr} {tk tv : TE} (hu : X.A.units + 1 < cLine) (hk : PE X key tk) (hv : PE X value tv) : PE X (.Dict [some key] [value] pos) (tDispT tk tv) := by
  refine ⟨fun pins s σ H Q I q => ?_⟩
  have hn := I.hok.fresh (Nat.le_refl s.heap.objs.size)
  have I1 := I.laid (a := s.heap.objs.size) (o := .dT []) (h' := s.heap.push { cls := .type "dict", data := .dict #[] }) (t' := s.toks) (fun _ _ q => Heap.get?_push_of_some _ q) (Nat.le_refl _) (dt_empty s.heap I.big)
  rw [arm_eval_Dict, zip_pairTrees [some key] [value] X.env pos rfl rfl, dictDisplay_pairs (pairTrees [some key] [value] X.env pos) (fun e => nomatch e) (show 1 < 17 by decide)]
  refine wpAny_bind (wpAny_standAt (wpAny_bind (wpAny_subDictH (knd := tupleKind (mixKind X.prog X.w)) (Q := fun d s' => wpAny (model X.prog X.w) X.A (pure (Value.ref d)) _ X.xe s') (by simpa [tupleKind] using (show X.A.units < cLine by omega)) (show 1 ≤ 15 by decide) ?_)))
  refine pairTrees_cons_walk (thn (hk.run pins _ σ _ _ I1 (q _ hn)) fun u s1 ⟨x, H1, I2, rx, q1⟩ => thn (hv.run pins s1 σ H1 _ I2 q1) fun r s2 ⟨y, H2, I3, ry, b, k, ex, eb, e, q2⟩ => pairTrees_nil_walk ?_)
  subst ex
  cases (show u = Value.ref b from rx)
  obtain ⟨z, hd, xs, rel, dd⟩ := dt_of I3.hok e
  cases rel
  refine ⟨[(k, b, r)], ⟨rfl, rfl, key_of I3.hok eb, True.intro⟩, dd, fun h' tk dd' hs => wpAny_pure ?_⟩
  refine ⟨.ref s.heap.objs.size, _, ?_, rfl, q2⟩
  obtain ⟨q, es, ep, hq, h2, h3, h4, _, h5⟩ := dd'
  refine d_write I3 (by rw [e]; exact True.intro) hs ⟨q, hq⟩ ⟨by show 1 ≤ sizeLine; rw [line_eq]; omega, hd, [(k, b, r)], .cons ⟨rfl, ?_, ry⟩ .nil, q, es, ep, hq, h2, h3, h4, h5⟩
  rw [upd_ne (ne_of eb e (fun z => nomatch z))]
  exact eb
end K16
namespace K16
open PySem L2
/-! ### a dict of markings -/
def keyM (m : List Int) : List Key := m.map Sum.inl
theorem keyM_val (m : List Int) : (keyM m).map kV = m.map V.int := by
  unfold keyM
  rw [List.map_map]
  rfl
theorem keyM_inj {a b : List Int} (h : keyM a = keyM b) : a = b := by
  have e : (keyM a).map kV = (keyM b).map kV := by rw [h]
  rw [keyM_val, keyM_val] at e
  exact (List.map_inj_right (f := V.int) (fun x y z => by injection z)).mp e
def dictM (ms : List (List Int)) : List (List Key × V) := ms.map fun m => (keyM m, V.bl true)
def addM (ms : List (List Int)) (x : List Int) : List (List Int) := if x ∈ ms then ms else ms ++ [x]
theorem addM_mem {ms : List (List Int)} {x y : List Int} : y ∈ addM ms x ↔ y ∈ ms ∨ y = x := by
  unfold addM
  split
  · constructor
    · exact .inl
    · rintro (h | rfl)
      · exact h
      · assumption
  · rw [List.mem_append, List.mem_singleton]
theorem addM_nodup {ms : List (List Int)} {x : List Int} (h : ms.Nodup) : (addM ms x).Nodup := by
  unfold addM
  split
  · exact h
  · rename_i c
    rw [List.nodup_append]
    refine ⟨h, by simp, fun a ha b hb e => ?_⟩
    rw [List.mem_singleton.mp hb] at e
    exact c (e ▸ ha)
theorem dictM_any {ms : List (List Int)} {x : List Int} : ((dictM ms).any fun kv => decide (kv.1 = keyM x)) = decide (x ∈ ms) := by
  rw [Bool.eq_iff_iff, List.any_eq_true, decide_eq_true_eq]
  unfold dictM
  constructor
  · rintro ⟨kv, h, e⟩
    obtain ⟨m, hm, rfl⟩ := List.mem_map.mp h
    rw [← keyM_inj (of_decide_eq_true e)]
    exact hm
  · intro h
    exact ⟨_, List.mem_map.mpr ⟨x, h, rfl⟩, decide_eq_true rfl⟩
theorem dictM_put {ms : List (List Int)} {x : List Int} : putK (dictM ms) (keyM x) (.bl true) = dictM (addM ms x) := by
  unfold putK addM
  rw [dictM_any]
  by_cases c : x ∈ ms
  · rw [decide_eq_true c, if_pos rfl, if_pos c]
    unfold dictM
    rw [List.map_map]
    refine List.map_congr_left fun m _ => ?_
    show (if keyM m = keyM x then (keyM m, V.bl true) else (keyM m, V.bl true)) = _
    split <;> rfl
  · rw [decide_eq_false c, if_neg (by decide), if_neg c]
    unfold dictM
    rw [List.map_append]
    rfl
theorem dictM_len {ms : List (List Int)} : (dictM ms).length = ms.length := List.length_map _
theorem dictM_at {ms : List (List Int)} {i : Nat} {k : List Key} {v : V} (h : (dictM ms)[i]? = some (k, v)) : ∃ x, ms[i]? = some x ∧ k = keyM x := by
  unfold dictM at h
  rw [List.getElem?_map] at h
  cases e : ms[i]? with
  | none => rw [e] at h; cases h
  | some x =>
    rw [e] at h
    cases h
    exact ⟨x, rfl, rfl⟩
/-! ### a slice, two tuples joined: some tuple with these items -/
theorem cut_tu {K : PySem.W.Frag} {H1 : Hp} {b : Addr} {bm : List Int} {lo hi : Option Int} (m : List Int) {R : VK} (hb1 : Tu H1 b bm) (e1 : cutV (bm.map V.int) lo hi = m.map V.int) (e2 : HT.sIx bm.length 0 lo = 0 ∧ HT.sIx bm.length bm.length hi = bm.length → m = bm)
    (r : ∀ (a : Addr) (H2 : Hp), Same H1 H2 → Tu H2 a m → R (.ref a) H2) : rSlA K (.ref b) lo hi H1 R := by
  refine ⟨b, _, rfl, SqT.of hb1, fun h => ?_, fun h p hp => ?_⟩
  · rw [len_int] at h
    refine r b H1 (Same.refl H1) ?_
    rw [e2 h]
    exact hb1
  · refine r p _ (same_new hp _) ?_
    show upd _ _ _ _ = _
    rw [upd_same, e1]
theorem join_tu {K : PySem.W.Frag} {H1 : Hp} {a c : Addr} {x y : List Int} {R : VK} (ha : Tu H1 a x) (hc : Tu H1 c y) (hs : x.length + y.length ≤ 5000) (r : ∀ (u : Addr) (H2 : Hp), Same H1 H2 → Tu H2 u (x ++ y) → R (.ref u) H2) : rCatA K (.ref a) (.ref c) H1 R := by
  refine ⟨a, c, _, _, rfl, rfl, SqT.of ha, SqT.of hc, by rw [len_int, len_int, line_eq]; omega, fun e => ?_, fun _ e => ?_, fun _ _ p hp => ?_⟩
  · have e' : x = [] := List.map_eq_nil_iff.mp e
    subst e'
    exact r c H1 (Same.refl H1) hc
  · have e' : y = [] := List.map_eq_nil_iff.mp e
    subst e'
    refine r a H1 (Same.refl H1) ?_
    rw [List.append_nil]
    exact ha
  · refine r p _ (same_new hp _) ?_
    show upd _ _ _ _ = _
    rw [upd_same, List.map_append]
/-- a new list of the markings from which firing leads to what covers the member -/
def sp_Lback : Sp := fun vs H Q _ => ∃ (a b : Addr) (t : Tr) (m : List Int) (n : Nat), vs = [.ref a, .ref b] ∧ TrAt H a t ∧ Tu H b m ∧ TrOk n t ∧ n ≤ 4 ∧ m.length = n ∧ (∀ i, i < n → gt m i ≤ 12) ∧
  ∀ (l : Addr) (ks : List (Addr × List Int)) (H' : Hp), Same H H' → H l = none → H' l = some (.lst (refs ks)) → Tus H' ks → (∀ p, p ∈ ks.map (·.2) ↔ IsPred n t m p) → ks.length ≤ 28561 → Q (.ref l) H'
theorem isKeys_ks {H : Hp} : ∀ {ms : List (List Int)} {bs : List Addr}, IsKeys H (dictM ms) bs → ∃ ks : List (Addr × List Int), ks.map (·.2) = ms ∧ bs.map V.ref = refs ks ∧ Tus H ks
  | [], _, h => by cases h; exact ⟨[], rfl, rfl, fun p hp => absurd hp (by simp)⟩
  | m :: ms, bs, h => by
    cases h with
    | @cons _ b _ bs h t =>
      obtain ⟨ks, e1, e2, e3⟩ := isKeys_ks t
      refine ⟨(b, m) :: ks, by rw [List.map_cons, e1], by rw [List.map_cons, e2]; rfl, fun p hp => ?_⟩
      rcases List.mem_cons.mp hp with z | z
      · rw [z]
        have h' : H b = some (.tup ((keyM m).map kV)) := h
        rw [keyM_val] at h'
        exact h'
      · exact e3 p z
theorem IsKeys.up {H H' : Hp} {kvs : List (List Key × V)} {bs : List Addr} (h : IsKeys H kvs bs) (s : Same H H') : IsKeys H' kvs bs := Paired.mapP h fun _ _ z => s _ _ z
section
variable {P : Program} {w : World} {K : PySem.W.Frag} {mg : Str → Option Value} {base : Heap} {f : Addr} {fd : FuncData}
theorem sc_Lback : FnScope ["_law_transition_here", "_law_member", "_law_takes", "_law_gives", "_law_moves", "_law_found", "_law_place", "_law_sources", "_law_source", "_law_k", "_law_longer", "_law_marking_here"] ["_law_transition_here", "_law_member"] (defScope sLback) := ⟨rfl, rfl, rfl, by decide +kernel, rfl, by decide +kernel, by decide +kernel⟩
theorem ok_Lback (F : Stands K mg "_law_back" sLback ["_law_transition_here", "_law_member"] f fd) (T : Blt mg) : Has P w K mg base "_law_back" ["_law_transition_here", "_law_member"] 1 sp_Lback := by
  refine ⟨f, fd, F.1.ok sc_Lback (fun vs H Q E h => ?_) (fun cdv A outer s H vs Q E hr h => ?_), F.2.1, F.1.kp, F.2.2⟩
  · obtain ⟨a, b, t, m, n, rfl, _⟩ := h
    rfl
  obtain ⟨a, b, t, m, n, rfl, ht, hb, ok, h4, hm, h12, q⟩ := h
  have hu := hu_of hr
  refine ⟨_, pss_cons (ps_asg (pv 0) (pg_tup rfl (pgs_cons (pg_name (i := 2) sc_Lback.nd rfl (.inl rfl)) (pgs_cons (pg_name (i := 3) sc_Lback.nd rfl (.inl rfl)) (pgs_cons (pg_name (i := 4) sc_Lback.nd rfl (.inr rfl)) pgs_nil)))))
    (pss_cons (ps_set (i := 5) sc_Lback.nd rfl (.inl rfl) (pe_dispT hu (pe_callTy call_tuple_of rfl T.tuple (by decide +kernel) (pa_cons (pv 2) pa_nil)) pe_bl))
    (pss_cons (ps_for PassesOwn.never rfl (pi_range1 rfl T.range (pa_cons (pe_callB call_len_seq rfl T.len PySem.boot_len (pa_cons (pv 1) pa_nil)) pa_nil)) (pg_name (i := 6) sc_Lback.nd rfl (.inr rfl))
      (pss_cons (ps_setLc (i := 7) (own := [("_law_source", 8)]) (g := gName 8) rfl sc_Lback.nd rfl rfl rfl (pi_range1 rfl T.range (pa_cons (pe_callB call_len_seq rfl T.len PySem.boot_len (pa_cons (pv 1) pa_nil)) pa_nil)) (blkOk_by (own := [("_law_source", 8)]) (N := ["_law_transition_here", "_law_member", "_law_takes", "_law_gives", "_law_moves", "_law_found", "_law_place", "_law_sources", "_law_source", "_law_k", "_law_longer", "_law_marking_here"]) (sc := defScope sLback) (by decide +kernel)) (fun _ _ _ _ _ => pg_name (i := 8) sc_Lback.nd rfl (Or.inl rfl)) (fun _ _ _ _ _ => pts_one (pt_cmpR op_eq (pe_ix (ix_tupK (K := K) rfl) (pv 4) (pv 8) (fun _ _ => rfl)) (pv 6) (nomark _))) (fun _ _ _ _ _ => (pv 8)))
      (pss_one (ps_for PassesOwn.never rfl (pi_range1 rfl T.range (pa_cons (pe_callB (call_max2 rfl) rfl T.max (by decide +kernel) (pa_cons pe_int (pa_cons (pe_op op_sub (pe_ix ix_tup (pv 1) (pv 6) (fun _ _ => rfl)) (pe_ix ix_tup (pv 3) (pv 6) (fun _ _ => rfl))) pa_nil))) pa_nil)) (pg_name (i := 9) sc_Lback.nd rfl (.inl rfl))
        (pss_cons (ps_set (i := 10) sc_Lback.nd rfl (.inl rfl) pe_dnewT)
        (pss_cons (ps_lock (ps_for PassesOwn.never rfl (pi_keys (pv 5)) (pg_name (i := 11) sc_Lback.nd rfl (.inl rfl))
          (pss_one (ps_for PassesOwn.never rfl (pi_list (pv 7)) (pg_name (i := 8) sc_Lback.nd rfl (.inl rfl))
            (pss_one (ps_dput hu (pv 10) (pe_op op_catA (pe_op op_catA (pe_slice sl_tupA (pv 11) po_none (po_some (pv 8))) (pe_tup (pa_cons (pe_op op_add (pe_ix ix_tup (pv 11) (pv 8) (fun _ _ => rfl)) pe_int) pa_nil))) (pe_slice sl_tupA (pv 11) (po_some (pe_op op_add (pv 8) pe_int)) po_none)) pe_bl rfl))))))
        (pss_one (ps_set (i := 5) sc_Lback.nd rfl (.inl rfl) (pv 10)))))))))
    (pss_one (ps_ret (pe_callTy (call_list_dT rfl) rfl T.list (by decide +kernel) (pa_cons (pv 5) pa_nil)))))), ?_⟩
  obtain ⟨a1, a2, a3, h0, h1, h2, h3⟩ := ht
  have l1 := ok.ltk
  have l2 := ok.lgv
  have l3 := ok.lmv
  refine ⟨_, rfl, a, _, rfl, SqT.of h0, rfl, _, _, rfl, _, _, rfl, _, _, rfl, rfl, ?_⟩
  have hm12 : ∀ r, miss t m r ≤ 12 := miss_12 ok hm h12
  refine fun F0 hF0 => ⟨_, rfl, a1, _, rfl, .inr ⟨SqT.of (same_new hF0 _ _ _ h1), ?_⟩⟩
  refine ⟨a1, keyM t.tk, rfl, by rw [keyM_val]; exact same_new hF0 _ _ _ h1, upd_same, ?_⟩
  have sF0 : Same H (upd (upd H F0 (.dT [])) F0 (.dT [(keyM t.tk, V.bl true)])) := same_mut (same_new hF0 _) hF0
  refine ⟨_, rfl, b, _, rfl, .inr (SqT.of (hb.up sF0)), _, rfl, by omega, by rw [len_int]; omega, ?_⟩
  rw [len_int]
  refine for_range (lo := 0) (n := m.length) (fun i σ H' => ∃ (F : Addr) (ms : List (List Int)) (v6 v7 v8 v9 v10 v11 : Option V), σ = [some (.ref a), some (.ref b), some (.ref a1), some (.ref a2), some (.ref a3), some (.ref F), v6, v7, v8, v9, v10, v11] ∧ Same H H' ∧ H F = none ∧ H' F = some (.dT (dictM ms)) ∧ ms.Nodup ∧ ∀ p, p ∈ ms ↔ PredTo n t m i p)
    ⟨F0, [t.tk], none, none, none, none, none, none, rfl, sF0, hF0, upd_same, by simp, fun p => predL_mem ok 0 (Nat.zero_le _) p⟩ ?_ ?_
  · rintro i σ H1 hi ⟨F, ms, v6, v7, v8, v9, v10, v11, rfl, s1, nF, hF, nd, hms⟩
    rw [Int.zero_add]
    have hin : i < n := hm ▸ hi
    -- the sources
    refine ⟨_, rfl, b, _, rfl, .inr (SqT.of (hb.up s1)), _, rfl, by omega, by rw [len_int]; omega, fun S hS => ?_⟩
    rw [len_int]
    refine lc_range (lo := 0) (n := m.length) (fun k H' => Same H1 H' ∧ Li H' S ((((List.range k).filter fun k => decide (gt t.mv k = (i : Int))).map Int.ofNat))) ⟨same_new hS _, upd_same⟩ (fun k H' hk h => ?_) fun H2 h => ?_
    · obtain ⟨s2, hl⟩ := h
      have len : ((((List.range k).filter fun k => decide (gt t.mv k = (i : Int))).map Int.ofNat)).length ≤ k := by
        rw [List.length_map]
        have := List.length_filter_le (fun k => decide (gt t.mv k = (i : Int))) (List.range k)
        rw [List.length_range] at this
        exact this
      refine ⟨rfl, ?_⟩
      refine ⟨_, rfl, _, rfl, a3, _, _, _, rfl, rfl, SqT.of (h3.up (s1.trans s2)), by rw [Int.zero_add]; exact at_int (by omega), _, rfl, rfl, _, rfl, ?_⟩
      refine ite2 (fun c => ?_) (fun c => ?_)
      · have c' : gt t.mv k = (i : Int) := by
          have := of_decide_eq_true c
          injection this
        refine ⟨_, rfl, _, hl, by rw [len_int]; exact small1000 (by omega), same_mut s2 hS, ?_⟩
        show upd _ _ _ _ = _
        rw [upd_same, List.range_succ, List.filter_append, List.map_append, List.map_append]
        simp only [List.filter_cons, List.filter_nil, decide_eq_true c', if_true, List.map_cons, List.map_nil]
        rw [Int.zero_add]
        rfl
      · have c' : ¬ gt t.mv k = (i : Int) := fun z => c (by rw [decide_eq_true_eq]; exact congrArg V.int z)
        refine ⟨s2, ?_⟩
        rw [List.range_succ, List.filter_append, List.map_append]
        simp only [List.filter_cons, List.filter_nil, decide_eq_false c', Bool.false_eq_true, if_false, List.map_nil, List.append_nil]
        exact hl
    obtain ⟨s2, hS2⟩ := h
    have eS : ((List.range m.length).filter fun k => decide (gt t.mv k = (i : Int))) = srcs t.mv (i : Int) := by
      unfold srcs
      rw [hm, l3]
    rw [eS] at hS2
    have nS : H S = none := s1.free hS
    -- so many times
    refine ⟨_, rfl, _, rfl, b, _, _, _, rfl, rfl, SqT.of (hb.up (s1.trans s2)), at_int hi, _, rfl, _, rfl, a2, _, _, _, rfl, rfl, SqT.of (h2.up (s1.trans s2)), at_int (by omega), _, _, rfl, rfl, _, _, rfl, ?_⟩
    have em : (if m.getD i 0 - t.gv.getD i 0 > 0 then m.getD i 0 - t.gv.getD i 0 else 0) = miss t m i := miss_eq t m i
    rw [em]
    have q0 := miss_nonneg t m i
    have q1 := hm12 i
    obtain ⟨c, ec⟩ := Int.eq_ofNat_of_zero_le q0
    rw [ec] at q1 ⊢
    refine ⟨_, rfl, by omega, by omega, ?_⟩
    refine for_range (lo := 0) (n := c) (fun j σ H' => ∃ (F : Addr) (ms : List (List Int)) (v8 v9 v10 v11 : Option V), σ = [some (.ref a), some (.ref b), some (.ref a1), some (.ref a2), some (.ref a3), some (.ref F), some (.int (i : Int)), some (.ref S), v8, v9, v10, v11] ∧ Same H H' ∧ H F = none ∧ H' F = some (.dT (dictM ms)) ∧ Li H' S ((srcs t.mv (i : Int)).map Int.ofNat) ∧ ms.Nodup ∧ ∀ p, p ∈ ms ↔ BackTo n t m i (j : Int) p)
      ⟨F, ms, _, _, _, _, rfl, s1.trans s2, nF, s2 _ _ hF, hS2, nd, fun p => (hms p).trans back_start⟩ ?_ ?_
    · rintro j σ H3 hj ⟨F, ms, v8, v9, v10, v11, rfl, s3, nF, hF, hS3, nd, hms⟩
      rw [Int.zero_add]
      refine fun L hL => ?_
      have sL := same_new hL (.dT [])
      have nFL : F ≠ L := ne_of_none hF hL
      have nSL : S ≠ L := ne_of_none hS3 hL
      have nSF : S ≠ F := ne_of hS3 hF (by intro z; cases z)
      have nL : H L = none := s3.free hL
      have hF4 : upd H3 L (.dT []) F = some (.dT (dictM ms)) := sL _ _ hF
      refine ⟨F, _, hF4, True.intro, fun od => ?_⟩
      refine ⟨_, rfl, F, od, rfl, .inr ⟨_, upd_same, ?_⟩⟩
      refine for_it walk_keysT (fun x σ H' => ∃ (ms' : List (List Int)) (v8 v11 : Option V), σ = [some (.ref a), some (.ref b), some (.ref a1), some (.ref a2), some (.ref a3), some (.ref F), some (.int (i : Int)), some (.ref S), v8, some (.int (j : Int)), some (.ref L), v11] ∧ Same H H' ∧ H' F = some (.frz od (.dT (dictM ms))) ∧ H' L = some (.dT (dictM ms')) ∧ Li H' S ((srcs t.mv (i : Int)).map Int.ofNat) ∧ ms'.Nodup ∧ (∀ p ∈ ms', BackTo n t m i ((j : Int) + 1) p) ∧ ∀ y ∈ ms.take x, ∀ s ∈ srcs t.mv (i : Int), y.set s (gt y s + 1) ∈ ms')
        ⟨[], _, _, rfl, same_mut (s3.trans sL) nF, upd_same, by rw [upd_ne nFL.symm]; exact upd_same, by show upd _ _ _ _ = _; rw [upd_ne nSF]; exact sL _ _ hS3, by simp, fun p hp => absurd hp (by simp), fun y hy => absurd hy (by simp)⟩ (fun x σ H' _ h => ?_) (fun x v σ H' H'' hx h hv => ?_) (fun σ H' h => ?_)
      · obtain ⟨_, _, _, _, _, e, _⟩ := h
        exact e
      · obtain ⟨ms', v8, v11, rfl, s4, hF', hL', hS', nd', hb', ha'⟩ := h
        obtain ⟨rfl, k, v0, q0, hk, rfl, hq⟩ := hv
        obtain ⟨y, hy, rfl⟩ := dictM_at hk
        rw [keyM_val] at hq
        have hyB := (hms y).mp (List.mem_of_getElem? hy)
        have yl : y.length = n := hyB.len
        refine ⟨_, rfl, S, rfl, ⟨_, SqL.of hS'⟩, for_list (K := K) (a := S) (xs := ((srcs t.mv (i : Int)).map Int.ofNat).map V.int) (fun z σ H5 => ∃ (ms'' : List (List Int)) (v8 : Option V), σ = [some (.ref a), some (.ref b), some (.ref a1), some (.ref a2), some (.ref a3), some (.ref F), some (.int (i : Int)), some (.ref S), v8, some (.int (j : Int)), some (.ref L), some (.ref q0)] ∧ Same H H5 ∧ Tu H5 q0 y ∧ H5 F = some (.frz od (.dT (dictM ms))) ∧ H5 L = some (.dT (dictM ms'')) ∧ Li H5 S ((srcs t.mv (i : Int)).map Int.ofNat) ∧ ms''.Nodup ∧ (∀ p ∈ ms'', BackTo n t m i ((j : Int) + 1) p) ∧ (∀ y ∈ ms.take x, ∀ s ∈ srcs t.mv (i : Int), y.set s (gt y s + 1) ∈ ms'') ∧ ∀ s ∈ (srcs t.mv (i : Int)).take z, y.set s (gt y s + 1) ∈ ms'')
          ⟨ms', _, rfl, s4, hq, hF', hL', hS', nd', hb', ha', fun s hs => absurd hs (by simp)⟩ (fun z σ H5 _ h => ?_) (fun z v σ H5 hz h => ?_) fun σ H5 h => ?_⟩
        · obtain ⟨_, _, _, _, _, _, _, e, _⟩ := h
          exact SqL.of e
        · obtain ⟨ms'', v8, rfl, s5, hq5, hF5, hL5, hS5, nd5, hb5, ha5, hc5⟩ := h
          obtain ⟨s, es, rfl⟩ : ∃ s, (srcs t.mv (i : Int))[z]? = some s ∧ v = .int (s : Int) := by
            rw [List.map_map, List.getElem?_map] at hz
            cases e : (srcs t.mv (i : Int))[z]? with
            | none => rw [e] at hz; cases hz
            | some s => rw [e] at hz; exact ⟨s, rfl, (Option.some.inj hz).symm⟩
          obtain ⟨sl, sv⟩ := srcs_mem.mp (List.mem_of_getElem? es)
          have sn : s < n := by omega
          have sy : s < y.length := by omega
          have hnew := back_up hyB sn sv
          refine ⟨_, rfl, _, rfl, _, rfl, _, rfl, cut_tu (y.take s) hq5 (cut_lo (by omega)) (fun h => ?_) fun u1 H6 s6 h6 => ?_⟩
          · rw [HT.sIx_nat] at h
            exact List.take_of_length_le (by omega)
          refine ⟨_, rfl, _, rfl, q0, _, _, _, rfl, rfl, SqT.of (hq5.up s6), at_int sy, _, _, rfl, rfl, by show 1 ≤ sizeLine; rw [line_eq]; omega, fun u2 hu2 => ?_⟩
          have s7 := same_new hu2 (.tup [V.int (y.getD s 0 + 1)])
          have h7 : Tu (upd H6 u2 (.tup [V.int (y.getD s 0 + 1)])) u2 [gt y s + 1] := upd_same
          refine join_tu (h6.up s7) h7 (by rw [List.length_take, List.length_singleton]; omega) fun u3 H8 s8 h8 => ?_
          refine ⟨_, rfl, _, rfl, _, _, rfl, rfl, _, rfl, ?_⟩
          dsimp only [tNoPart]
          refine cut_tu (y.drop (s + 1)) (hq5.up (s6.trans (s7.trans s8))) (cut_hi (j := s + 1)) (fun h => ?_) fun u4 H9 s9 h9 => ?_
          · have h0 : HT.sIx y.length 0 (some ((s + 1 : Nat) : Int)) = 0 := h.1
            rw [HT.sIx_nat] at h0
            omega
          refine join_tu (h8.up s9) h9 (by simp; omega) fun u5 H10 s10 h10 => ?_
          have s510 : Same H5 H10 := s6.trans (s7.trans (s8.trans (s9.trans s10)))
          have key : H10 u5 = some (.tup ((keyM (y.set s (gt y s + 1))).map kV)) := by
            rw [keyM_val, set_cut sy, ← List.append_assoc]
            exact h10
          have bnd : ms''.length ≤ 28561 := box_bound h4 l1 nd5 fun p hp => ⟨(hb5 p hp).len, back_box ok hin (hb5 p hp) (by omega) hm12⟩
          refine ⟨L, _, rfl, DPut.t (k := keyM (y.set s (gt y s + 1))) (s510 _ _ hL5) key (by rw [dictM_len, line_eq]; omega), ?_⟩
          rw [dictM_put]
          refine ⟨addM ms'' (y.set s (gt y s + 1)), _, rfl, same_mut (s5.trans s510) nL, ?_, ?_, upd_same, ?_, addM_nodup nd5, fun p hp => ?_, fun y' hy' s' hs' => addM_mem.mpr (.inl (ha5 y' hy' s' hs')), fun s' hs' => ?_⟩
          · exact (hq5.up s510).mut (s510 _ _ hL5) (by intro _ z; cases z)
          · rw [upd_ne nFL]
            exact s510 _ _ hF5
          · show upd _ _ _ _ = _
            rw [upd_ne nSL]
            exact s510 _ _ hS5
          · rcases addM_mem.mp hp with z | z
            · exact hb5 p z
            · rw [z]
              exact hnew
          · rw [take_succ' es] at hs'
            rcases List.mem_append.mp hs' with z | z
            · exact addM_mem.mpr (.inl (hc5 s' z))
            · rw [List.mem_singleton.mp z]
              exact addM_mem.mpr (.inr rfl)
        · obtain ⟨ms'', v8, rfl, s5, hq5, hF5, hL5, hS5, nd5, hb5, ha5, hc5⟩ := h
          refine ⟨ms'', _, _, rfl, s5, hF5, hL5, hS5, nd5, hb5, fun y' hy' s hs => ?_⟩
          rw [take_succ' hy] at hy'
          rcases List.mem_append.mp hy' with z | z
          · exact ha5 y' z s hs
          · rw [List.mem_singleton.mp z]
            refine hc5 s ?_
            rw [len_int, List.length_map, List.take_length]
            exact hs
      · obtain ⟨ms', v8, v11, rfl, s4, hF', hL', hS', nd', hb', ha'⟩ := h
        rw [dictM_len, List.take_length] at ha'
        refine ⟨hF', _, rfl, L, ms', _, _, _, _, rfl, same_mut s4 nF, nL, by rw [upd_ne nFL.symm]; exact hL', by show upd _ _ _ _ = _; rw [upd_ne nSF]; exact hS', nd', fun p => ⟨hb' p, fun B => ?_⟩⟩
        have B1 : BackTo n t m i ((j : Int) + 1) p := B
        obtain ⟨s, p0, hs, hv, B0, rfl⟩ := back_down (c := (j : Int)) (Int.natCast_nonneg j) B1
        exact ha' p0 ((hms p0).mpr B0) s (srcs_mem.mpr ⟨by omega, hv⟩)
    · rintro σ H3 ⟨F, ms, v8, v9, v10, v11, rfl, s3, nF, hF, hS3, nd, hms⟩
      refine ⟨F, ms, _, _, _, _, _, _, rfl, s3, nF, hF, nd, fun p => (hms p).trans ?_⟩
      rw [show (c : Int) = miss t m i from ec.symm]
      exact back_end
  · rintro σ H1 ⟨F, ms, v6, v7, v8, v9, v10, v11, rfl, s1, nF, hF, nd, hms⟩
    rw [hm] at hms
    refine ⟨_, rfl, F, _, rfl, .inl hF, fun l bs hl hk => ?_⟩
    obtain ⟨ks, e1, e2, e3⟩ := isKeys_ks hk
    rw [e2]
    refine q l ks _ (s1.trans (same_new hl _)) (s1.free hl) upd_same (e3.up (same_new hl _)) (fun p => by rw [e1]; exact (hms p).trans (isPred_iff ok)) ?_
    have el : ks.length = ms.length := by rw [← e1, List.length_map]
    rw [el]
    exact box_bound h4 l1 nd fun p hp => ⟨((hms p).mp hp).len, pred_box ok ((hms p).mp hp) hm12⟩
end
end K16
namespace K16
open PySem L2
def sp_Lclosed : Sp := fun vs H Q _ => ∃ (l b : Addr) (ks : List (Addr × Tr)) (bs : List (Addr × List Int)) (n : Nat), vs = [.ref l, .ref b] ∧ H l = some (.lst (refs ks)) ∧ Trs H ks ∧ TrsOk n (ks.map (·.2)) ∧ H b = some (.tup (refs bs)) ∧ Tus H bs ∧ n ≤ 4 ∧ (∀ p ∈ bs, p.2.length = n ∧ ∀ i, i < n → gt p.2 i ≤ 12) ∧ Closed n (ks.map (·.2)) (bs.map (·.2)) ∧
  ∀ H', Same H H' → Q (.bl true) H'
/-- no mail -/
def NoMail (H : Hp) (a : Addr) : Prop := ∃ e1 e2, H a = some (.tup [.ref e1, .ref e2]) ∧ H e1 = some (.tup []) ∧ H e2 = some (.tup [])
def sp_Lmail_back : Sp := fun vs H Q _ => ∃ (a x b : Addr) (t : Tr) (m : List Int) (n : Nat), vs = [.ref a, .ref x, .ref b] ∧ TrAt H a t ∧ NoMail H x ∧ Cfg H b m ∧ TrOk n t ∧ n ≤ 4 ∧ m.length = n ∧ (∀ i, i < n → gt m i ≤ 12) ∧
  ∀ (l : Addr) (ks : List (Addr × List Int)) (H' : Hp), Same H H' → H l = none → H' l = some (.lst (refs ks)) → Cfgs H' ks → (∀ p, p ∈ ks.map (·.2) ↔ IsPred n t m p) → ks.length ≤ 28561 → Q (.ref l) H'
section
variable {P : Program} {w : World} {K : PySem.W.Frag} {mg : Str → Option Value} {base : Heap} {f : Addr} {fd : FuncData}
theorem sc_Lclosed : FnScope ["_law_transitions", "_law_members", "_law_member", "_law_transition_here", "_law_marking_here"] ["_law_transitions", "_law_members"] (defScope sLclosed) := ⟨rfl, rfl, rfl, by decide +kernel, rfl, by decide +kernel, by decide +kernel⟩
theorem ok_Lclosed (F : Stands K mg "_law_closed" sLclosed ["_law_transitions", "_law_members"] f fd) (T : Blt mg) (CLback : Has P w K mg base "_law_back" ["_law_transition_here", "_law_member"] 1 sp_Lback) (CLinside : Has P w K mg base "_law_inside" ["_law_members", "_law_marking_here"] 2 (spInside K)) : Has P w K mg base "_law_closed" ["_law_transitions", "_law_members"] 3 sp_Lclosed := by
  obtain ⟨_, _, GLback, mLback, kLback, bLback⟩ := CLback
  obtain ⟨_, _, GLinside, mLinside, kLinside, bLinside⟩ := CLinside
  refine ⟨f, fd, F.1.ok sc_Lclosed (fun vs H Q E h => ?_) (fun cdv A outer s H vs Q E hr h => ?_), F.2.1, F.1.kp, F.2.2⟩
  · obtain ⟨l, b, ks, bs, n, rfl, _⟩ := h
    rfl
  obtain ⟨l, b, ks, bs, n, rfl, hl, hk, ok, hb, ht, h4, hz, hc, q⟩ := h
  refine ⟨_, pss_cons (ps_for PassesOwn.never rfl (pi_tup (pv 1)) (pg_name (i := 2) sc_Lclosed.nd rfl (.inl rfl))
      (pss_one (ps_for PassesOwn.never rfl (pi_list (pv 0)) (pg_name (i := 3) sc_Lclosed.nd rfl (.inl rfl))
        (pss_one (ps_for PassesOwn.never rfl (pi_list (pe_call GLback (hr.mono (by decide)) rfl mLback kLback bLback .nil pass0 (pa_cons (pv 3) (pa_cons (pv 2) pa_nil)))) (pg_name (i := 4) sc_Lclosed.nd rfl (.inl rfl))
          (pss_one (ps_if (pt_not (pt_val (pe_call GLinside hr rfl mLinside kLinside bLinside .nil pass0 (pa_cons (pv 1) (pa_cons (pv 4) pa_nil)))))
            (pss_one (ps_ret pe_bl)) pss_nil)))))))
    (pss_one (ps_ret pe_bl)), ?_⟩
  refine ⟨_, rfl, b, rfl, ⟨_, SqT.of hb⟩, for_tup (K := K) (a := b) (xs := refs bs) (fun i σ H' => ∃ v2 v3 v4, σ = [some (.ref l), some (.ref b), v2, v3, v4] ∧ Same H H') ⟨none, none, none, rfl, Same.refl H⟩ (fun i σ H' _ h => ?_) (fun i x σ H' hx h => ?_) fun σ H' h => ?_⟩
  · obtain ⟨_, _, _, _, s⟩ := h
    exact SqT.of (s _ _ hb)
  · obtain ⟨v2, v3, v4, rfl, s1⟩ := h
    obtain ⟨x, e, rfl⟩ := ref_at hx
    have hm := List.mem_of_getElem? e
    refine ⟨_, rfl, l, rfl, ⟨_, SqL.of (s1 _ _ hl)⟩, for_list (K := K) (a := l) (xs := refs ks) (fun j σ H' => ∃ v3 v4, σ = [some (.ref l), some (.ref b), some (.ref x.1), v3, v4] ∧ Same H H') ⟨_, _, rfl, s1⟩ (fun j σ H' _ h => ?_) (fun j y σ H' hy h => ?_) fun σ H' h => ?_⟩
    · obtain ⟨_, _, _, s⟩ := h
      exact SqL.of (s _ _ hl)
    · obtain ⟨v3, v4, rfl, s2⟩ := h
      obtain ⟨y, ey, rfl⟩ := ref_at hy
      have hym := List.mem_of_getElem? ey
      have okt := ok.at (snd_get ey)
      refine ⟨_, rfl, _, rfl, y.1, x.1, y.2, x.2, n, rfl, (hk y hym).up s2, (ht x hm).up s2, okt, h4, (hz x hm).1, (hz x hm).2, fun r ps H3 s3 nr hr3 tp hp lp => ?_⟩
      refine ⟨r, rfl, ⟨_, SqL.of hr3⟩, for_list (K := K) (a := r) (xs := refs ps) (fun z σ H' => ∃ v4, σ = [some (.ref l), some (.ref b), some (.ref x.1), some (.ref y.1), v4] ∧ H' = H3) ⟨_, rfl, rfl⟩ (fun z σ H' _ h => ?_) (fun z v σ H' hv h => ?_) fun σ H' h => ?_⟩
      · obtain ⟨_, _, rfl⟩ := h
        exact SqL.of hr3
      · obtain ⟨v4, rfl, rfl⟩ := h
        obtain ⟨p, ep, rfl⟩ := ref_at hv
        have hpm := List.mem_of_getElem? ep
        have pr := (hp p.2).mp (List.mem_map.mpr ⟨p, hpm, rfl⟩)
        have cl := hc x.2 (List.mem_map.mpr ⟨x, hm, rfl⟩) j y.2 (snd_get ey) p.2 pr
        refine ⟨_, rfl, _, rfl, b, p.1, bs, p.2, rfl, .inr (SqT.of (s3 _ _ (s2 _ _ hb))), ht.up (s2.trans s3), tp p hpm, fun u hu => by rw [(hz u hu).1, pr.len], by rw [pr.len]; omega, _, rfl, ?_⟩
        rw [cl]
        exact iteF ⟨_, rfl, rfl⟩
      · obtain ⟨v4, rfl, rfl⟩ := h
        exact ⟨_, _, rfl, s2.trans s3⟩
    · obtain ⟨v3, v4, rfl, s2⟩ := h
      exact ⟨_, _, _, rfl, s2⟩
  · obtain ⟨v2, v3, v4, rfl, s1⟩ := h
    exact q H' s1
theorem sc_Lmail_back : FnScope ["_law_transition_here", "_law_action", "_law_config", "_law_words", "_law_pair", "_law_channel", "_law_marking_here"] ["_law_transition_here", "_law_action", "_law_config"] (defScope sLmail_back) := ⟨rfl, rfl, rfl, by decide +kernel, rfl, by decide +kernel, by decide +kernel⟩
theorem ok_Lmail_back (F : Stands K mg "_law_mail_back" sLmail_back ["_law_transition_here", "_law_action", "_law_config"] f fd) (T : Blt mg) (CLback : Has P w K mg base "_law_back" ["_law_transition_here", "_law_member"] 1 sp_Lback) : Has P w K mg base "_law_mail_back" ["_law_transition_here", "_law_action", "_law_config"] 2 sp_Lmail_back := by
  obtain ⟨_, _, GLback, mLback, kLback, bLback⟩ := CLback
  refine ⟨f, fd, F.1.ok sc_Lmail_back (fun vs H Q E h => ?_) (fun cdv A outer s H vs Q E hr h => ?_), F.2.1, F.1.kp, F.2.2⟩
  · obtain ⟨a, x, b, t, m, n, rfl, _⟩ := h
    rfl
  obtain ⟨a, x, b, t, m, n, rfl, ht, ⟨e1, e2, hx, x1, x2⟩, ⟨b1, b2, hb, h1, h2⟩, ok, h4, hm, h12, q⟩ := h
  refine ⟨_, pss_cons (ps_set (i := 3) sc_Lmail_back.nd rfl (.inr rfl) (pe_callTy call_list_of rfl T.list (by decide +kernel) (pa_cons (pe_ix ix_tup (pv 2) pe_int (fun _ _ => rfl)) pa_nil)))
    (pss_cons (ps_for PassesOwn.never rfl (pi_tup (pe_ix ix_tup (pv 1) pe_int (fun _ _ => rfl))) (pg_name (i := 4) sc_Lmail_back.nd rfl (.inl rfl))
      pss_never)
    (pss_cons (ps_for PassesOwn.never rfl (pi_tup (pe_ix ix_tup (pv 1) pe_int (fun _ _ => rfl))) (pg_name (i := 4) sc_Lmail_back.nd rfl (.inl rfl))
      pss_never)
    (pss_one (ps_ret (pe_lc (own := [("_law_marking_here", 6)]) (g := gName 6) (tt := tYes) rfl sc_Lmail_back.nd (pi_list (pe_call GLback hr rfl mLback kLback bLback .nil pass0 (pa_cons (pv 0) (pa_cons (pe_ix ix_tup (pv 2) pe_int (fun _ _ => rfl)) pa_nil)))) (blkOk_by (own := [("_law_marking_here", 6)]) (N := ["_law_transition_here", "_law_action", "_law_config", "_law_words", "_law_pair", "_law_channel", "_law_marking_here"]) (sc := defScope sLmail_back) (by decide +kernel)) (fun _ _ _ _ _ => pg_name (i := 6) sc_Lmail_back.nd rfl (Or.inl rfl)) (fun _ _ _ _ _ => pts_nil) (fun _ _ _ _ _ => (pe_tup (pa_cons (pv 6) (pa_cons (pe_callTy (call_tupleK (K := K) rfl) rfl T.tuple (by decide +kernel) (pa_cons (pv 3) pa_nil)) pa_nil))))))))), ?_⟩
  refine ⟨_, rfl, b, _, _, _, rfl, rfl, SqT.of hb, rfl, b2, _, rfl, .inr (SqT.of h2), fun W hW => ?_⟩
  have sW := same_new hW (.lst [])
  refine ⟨_, rfl, x, _, _, _, rfl, rfl, SqT.of (sW _ _ hx), rfl, e2, rfl, ⟨_, SqT.of (sW _ _ x2)⟩, for_tup (K := K) (a := e2) (xs := []) (fun i σ H' => ∃ v4 v5 v6, σ = [some (.ref a), some (.ref x), some (.ref b), some (.ref W), v4, v5, v6] ∧ H' = upd H W (.lst [])) ⟨none, none, none, rfl, rfl⟩ (fun i σ H' _ h => ?_) (fun i x σ H' hx h => absurd hx (by simp)) fun σ H' h => ?_⟩
  · obtain ⟨_, _, _, _, rfl⟩ := h
    exact SqT.of (sW _ _ x2)
  obtain ⟨v4, v5, v6, rfl, rfl⟩ := h
  refine ⟨_, rfl, x, _, _, _, rfl, rfl, SqT.of (sW _ _ hx), rfl, e1, rfl, ⟨_, SqT.of (sW _ _ x1)⟩, for_tup (K := K) (a := e1) (xs := []) (fun i σ H' => ∃ v4 v5 v6, σ = [some (.ref a), some (.ref x), some (.ref b), some (.ref W), v4, v5, v6] ∧ H' = upd H W (.lst [])) ⟨_, _, _, rfl, rfl⟩ (fun i σ H' _ h => ?_) (fun i x σ H' hx h => absurd hx (by simp)) fun σ H' h => ?_⟩
  · obtain ⟨_, _, _, _, rfl⟩ := h
    exact SqT.of (sW _ _ x1)
  obtain ⟨v4, v5, v6, rfl, rfl⟩ := h
  have hW1 : upd H W (.lst []) W = some (.lst []) := upd_same
  generalize upd H W (.lst []) = H1 at sW hW1
  refine ⟨_, rfl, _, rfl, b, _, _, _, rfl, rfl, SqT.of (sW _ _ hb), rfl, a, b1, t, m, n, rfl, ht.up sW, h1.up sW, ok, h4, hm, h12, fun r ps H2 s2 nr hr2 tp hp lp => ?_⟩
  refine ⟨r, rfl, ⟨_, SqL.of hr2⟩, fun D hD => lc_list (K := K) (a := r) (xs := refs ps) (fun i H' => Same H2 H' ∧ ∃ ks : List (Addr × List Int), H' D = some (.lst (refs ks)) ∧ Cfgs H' ks ∧ ks.map (·.2) = (ps.take i).map (·.2)) ⟨same_new hD _, [], upd_same, fun p hp => absurd hp (by simp), rfl⟩ (fun i H' _ h => SqL.of (h.1 _ _ hr2)) (fun i v H' hv h => ?_) fun H' h => ?_⟩
  · obtain ⟨s3, ks, hD3, ck, ek⟩ := h
    obtain ⟨p, ep, rfl⟩ := ref_at hv
    have hpm := List.mem_of_getElem? ep
    have lk : ks.length = i := by
      have e := congrArg List.length ek
      have li := (List.getElem?_eq_some_iff.mp ep).1
      rw [List.length_map, List.length_map, List.length_take] at e
      omega
    have li := (List.getElem?_eq_some_iff.mp ep).1
    have nD : H2 D = none := hD
    refine ⟨rfl, ?_⟩
    refine ⟨_, rfl, _, rfl, W, _, rfl, .inl ⟨SqL.of ((s2.trans s3) _ _ hW1), fun e he => ?_⟩⟩
    have s4 := same_new he (.tup [])
    have he4 : upd H' e (.tup []) e = some (.tup []) := upd_same
    refine ⟨by show 2 ≤ sizeLine; rw [line_eq]; omega, fun c hc => ?_⟩
    have s5 := same_new hc (.tup [V.ref p.1, V.ref e])
    have hc5 : upd (upd H' e (.tup [])) c (.tup [V.ref p.1, V.ref e]) c = some (.tup [V.ref p.1, V.ref e]) := upd_same
    generalize upd H' e (.tup []) = H4 at s4 he4 s5 hc5
    generalize upd H4 c (.tup [V.ref p.1, V.ref e]) = H5 at s5 hc5
    have hD5 : H5 D = some (.lst (refs ks)) := s5 _ _ (s4 _ _ hD3)
    have lift : ∀ {u : Addr} {xs : List V}, H5 u = some (.tup xs) → upd H5 D (.lst (refs ks ++ [V.ref c])) u = some (.tup xs) := fun {u xs} h => by
      rw [upd_ne (ne_of h hD5 (by intro z; cases z))]
      exact h
    refine ⟨_, hD5, by rw [len_ref, line_eq]; omega, same_mut (s3.trans (s4.trans s5)) nD, ks ++ [(c, p.2)], by rw [upd_same, refs, refs, List.map_append]; rfl, fun u hu => ?_, by rw [take_succ' ep, List.map_append, List.map_append, ek]; rfl⟩
    rcases List.mem_append.mp hu with z | z
    · obtain ⟨u1, u2, g0, g1, g2⟩ := (ck u z).up (s4.trans s5)
      exact ⟨u1, u2, lift g0, lift g1, lift g2⟩
    · rw [List.mem_singleton.mp z]
      exact ⟨p.1, e, lift hc5, lift ((tp p hpm).up (s3.trans (s4.trans s5))), lift (s5 _ _ he4)⟩
  · obtain ⟨s3, ks, hD3, ck, ek⟩ := h
    rw [len_ref, List.take_length] at ek
    have lk : ks.length = ps.length := by
      have e := congrArg List.length ek
      rw [List.length_map, List.length_map] at e
      exact e
    refine q D ks H' (sW.trans (s2.trans s3)) (sW.free (s2.free hD)) hD3 ck (fun p => by rw [ek]; exact hp p) (by omega)
end
end K16
namespace K16
open PySem PySem.Spec PyProof.Rows L2
/-! ### a set's table up to 512 slots: what adding needs, and no more -/
def Mok (m : Nat) : Prop := m = 7 ∨ m = 31 ∨ m = 127 ∨ m = 511
/-- the round of i -> 5 i + 1, as one list -/
def orb (m : Nat) : Nat → Nat → List Nat
  | 0, _ => []
  | n + 1, i => i :: orb m n ((i * 5 + 1) % (m + 1))
theorem orb_get (m : Nat) : ∀ (n i k : Nat), k < n → (orb m n i)[k]? = some (lcgI m i k)
  | 0, _, _, h => absurd h (Nat.not_lt_zero _)
  | n + 1, i, 0, _ => rfl
  | n + 1, i, k + 1, h => by
    show (orb m n ((i * 5 + 1) % (m + 1)))[k]? = _
    rw [orb_get m n _ k (Nat.lt_of_succ_lt_succ h)]
    have shift : ∀ k i, lcgI m ((i * 5 + 1) % (m + 1)) k = lcgI m i (k + 1) := by
      intro k
      induction k with
      | zero => intro i; rfl
      | succ k ih => intro i; show (lcgI m ((i * 5 + 1) % (m + 1)) k * 5 + 1) % (m + 1) = (lcgI m i (k + 1) * 5 + 1) % (m + 1); rw [ih]
    rw [shift]
theorem orb_all7 : ((List.range 8).all fun j => (orb 7 8 0).contains j) = true := by decide +kernel
theorem orb_all31 : ((List.range 32).all fun j => (orb 31 32 0).contains j) = true := by decide +kernel
theorem orb_all127 : ((List.range 128).all fun j => (orb 127 128 0).contains j) = true := by decide +kernel
theorem orb_all511 : ((List.range 512).all fun j => (orb 511 512 0).contains j) = true := by decide +kernel
theorem from0 {m : Nat} (hm : Mok m) {j : Nat} (hj : j ≤ m) : ∃ k, k ≤ m ∧ lcgI m 0 k = j := by
  have key : ((List.range (m + 1)).all fun j => (orb m (m + 1) 0).contains j) = true := by
    rcases hm with e | e | e | e <;> subst e
    · exact orb_all7
    · exact orb_all31
    · exact orb_all127
    · exact orb_all511
  have h := List.all_eq_true.mp key j (List.mem_range.mpr (by omega))
  rw [List.contains_iff_mem] at h
  obtain ⟨k, hk⟩ := List.mem_iff_getElem?.mp h
  have len : ∀ n i, (orb m n i).length = n := by
    intro n
    induction n with
    | zero => intro i; rfl
    | succ n ih => intro i; show (orb m n _).length + 1 = n + 1; rw [ih]
  have lk := (List.getElem?_eq_some_iff.mp hk).1
  rw [len] at lk
  rw [orb_get m _ _ _ lk] at hk
  exact ⟨k, by omega, Option.some.inj hk⟩
theorem lcg_add (m i a : Nat) : ∀ k, lcgI m (lcgI m i a) k = lcgI m i (a + k)
  | 0 => rfl
  | k + 1 => by
    show (lcgI m (lcgI m i a) k * 5 + 1) % (m + 1) = (lcgI m i (a + k) * 5 + 1) % (m + 1)
    rw [lcg_add m i a k]
theorem lcg_full {m : Nat} (hm : Mok m) : lcgI m 0 (m + 1) = 0 := by
  rcases hm with e | e | e | e <;> subst e <;> decide +kernel
/-- from anywhere each slot is met within a round -/
theorem from_any {m : Nat} (hm : Mok m) {i j : Nat} (hi : i ≤ m) (hj : j ≤ m) : ∃ k, k ≤ m ∧ lcgI m i k = j := by
  obtain ⟨a, ha, ea⟩ := from0 hm hi
  obtain ⟨b, hb, eb⟩ := from0 hm hj
  by_cases c : a ≤ b
  · refine ⟨b - a, by omega, ?_⟩
    rw [← ea, lcg_add, show a + (b - a) = b by omega]
    exact eb
  · refine ⟨(m + 1 - a) + b, by omega, ?_⟩
    have e := lcg_full hm
    rw [← ea, lcg_add, show a + (m + 1 - a + b) = (m + 1) + b by omega, ← lcg_add, e]
    exact eb
theorem runs_all {m : Nat} (hm : Mok m) (h : Int) {j : Nat} (hj : j ≤ m) : ∃ n, n ≤ m + 12 ∧ runI m (SetTable.bits h) n = j := by
  obtain ⟨k, hk, e⟩ := from_any hm (runI_le m (SetTable.bits h) 12) hj
  refine ⟨12 + k, by omega, ?_⟩
  rw [runI_tail (bits_lt h), e]
theorem steps_all {m : Nat} (hm : Mok m) (h : Int) {j : Nat} (hj : j ≤ m) : ∃ k, k < 10 * SetTable.turns m ∧ way m h k = j := by
  obtain ⟨n, hn, e⟩ := runs_all hm h hj
  obtain ⟨k, hk, e2⟩ := run_nth m (SetTable.bits h) n
  refine ⟨k, by show k < 10 * (m + 15); omega, ?_⟩
  show (nth m _ k).j = j
  rw [e2]
  exact e
theorem in_mask {m : Nat} (h : Int) (k : Nat) : way m h k ≤ m := by
  have hi : SetTable.bits h % (m + 1) ≤ m := Nat.le_of_lt_succ (Nat.mod_lt _ (Nat.succ_pos _))
  have r := runEnd_bd hi
  have q := nth_in (m := m) k (runAt m (SetTable.bits h % (m + 1)) (SetTable.bits h)) (show SetTable.bits h % (m + 1) + (SetTable.runEnd m (SetTable.bits h % (m + 1)) - SetTable.bits h % (m + 1)) ≤ m by omega)
  exact Nat.le_trans (Nat.le_add_right _ _) q
/-- the first empty slot on the way -/
theorem first_free {t : SetTable} (hm : Mok t.mask) (hl : t.place.size ≤ t.mask) (h : Int) : ∃ K, K < 10 * SetTable.turns t.mask ∧ way t.mask h K ∉ t.place.toList ∧ ∀ k, k < K → way t.mask h k ∈ t.place.toList := by
  obtain ⟨j, hj, hn⟩ := st_missing t.place.toList (t.mask + 1) (by rw [Array.length_toList]; omega)
  obtain ⟨k, hk, e⟩ := steps_all hm h (Nat.le_of_lt_succ hj)
  obtain ⟨K, h1, h2, h3⟩ := st_least (p := fun k => way t.mask h k ∉ t.place.toList) k (by rw [← e] at hn; exact hn)
  exact ⟨K, Nat.lt_of_le_of_lt h1 hk, h2, fun k' hk' => Classical.not_not.mp (h3 k' hk')⟩
/-! ### laying all anew -/
theorem free_some {m : Nat} (hm : Mok m) (owner : Array (Option Nat)) (h : Int) {j : Nat} (hj : j ≤ m) (hf : oAt owner j = none) :
    ∃ j', j' ≤ m ∧ oAt owner j' = none ∧ SetTable.layClean.free m owner (SetTable.turns m) (SetTable.bits h % (m + 1)) (SetTable.bits h) = some j' := by
  obtain ⟨n, hn, e⟩ := runs_all hm h hj
  have hw : way m h (off m (SetTable.bits h % (m + 1)) (SetTable.bits h) n) = j := by
    show (nth m _ _).j = j
    rw [nth_off, itL_run]
    exact e
  obtain ⟨K, k1, k2, k3⟩ := st_least (p := fun k => oAt owner (way m h k) = none) (off m (SetTable.bits h % (m + 1)) (SetTable.bits h) n) (by rw [← hw] at hf; exact hf)
  refine ⟨way m h K, in_mask h K, k2, ?_⟩
  refine free_spec m owner (SetTable.turns m) n _ _ K (by show n < m + 15; omega) k1 (fun k hk => ?_) ?_
  · have q : oAt owner (way m h k) ≠ none := k3 k hk
    cases z : oAt owner (nth m (runAt m (SetTable.bits h % (m + 1)) (SetTable.bits h)) k).j with
    | none => exact absurd z q
    | some _ => rfl
  · have q : oAt owner (nth m (runAt m (SetTable.bits h % (m + 1)) (SetTable.bits h)) K).j = none := k2
    rw [q]
    rfl
/-- n have been seated -/
structure Seats (m n : Nat) (owner : Array (Option Nat)) : Prop where
  size : owner.size = m + 1
  all : ∀ k, k < n → ∃ j, j ≤ m ∧ oAt owner j = some k
  few : ∃ ps : List Nat, ps.length = n ∧ ∀ j, j ≤ m → oAt owner j ≠ none → j ∈ ps
theorem Seats.next {m n : Nat} {owner : Array (Option Nat)} (hm : Mok m) (W : Seats m n owner) (hn : n ≤ m) (h : Int) :
    ∃ j, SetTable.layClean.free m owner (SetTable.turns m) (SetTable.bits h % (m + 1)) (SetTable.bits h) = some j ∧ Seats m (n + 1) (owner.setIfInBounds j (some n)) := by
  obtain ⟨ps, hl, hp⟩ := W.few
  obtain ⟨j0, hj0, hn0⟩ := st_missing ps (m + 1) (by omega)
  have free0 : oAt owner j0 = none := Classical.byContradiction fun z => hn0 (hp j0 (by omega) z)
  obtain ⟨j, jm, jf, e⟩ := free_some hm owner h (Nat.le_of_lt_succ hj0) free0
  have js : j < owner.size := by rw [W.size]; omega
  refine ⟨j, e, by rw [Array.size_setIfInBounds]; exact W.size, fun k hk => ?_, j :: ps, by rw [List.length_cons, hl], fun i hi z => ?_⟩
  · by_cases c : k < n
    · obtain ⟨i, hi, ei⟩ := W.all k c
      refine ⟨i, hi, ?_⟩
      rw [oAt_set_ne _ (fun z => by rw [z, jf] at ei; cases ei)]
      exact ei
    · have ek : k = n := by omega
      subst ek
      exact ⟨j, jm, oAt_set_self _ js⟩
  · by_cases c : i = j
    · rw [c]; exact List.mem_cons_self
    · rw [oAt_set_ne _ c] at z
      exact List.mem_cons_of_mem _ (hp i hi z)
theorem seats_fold {m : Nat} (hm : Mok m) : ∀ (hs : List Int) (n : Nat) (owner : Array (Option Nat)), Seats m n owner → n + hs.length ≤ m → ∃ o', hs.foldl (stepF m) (some (owner, n)) = some (o', n + hs.length) ∧ Seats m (n + hs.length) o'
  | [], n, owner, W, _ => ⟨owner, rfl, W⟩
  | h :: hs, n, owner, W, hl => by
    rw [List.length_cons] at hl ⊢
    obtain ⟨j, e, W2⟩ := W.next hm (by omega) h
    obtain ⟨o', f, W3⟩ := seats_fold hm hs (n + 1) _ W2 (by omega)
    rw [show n + (hs.length + 1) = n + 1 + hs.length by omega]
    refine ⟨o', ?_, W3⟩
    rw [List.foldl_cons, stepF_some e]
    exact f
theorem laid_ok {m : Nat} (hm : Mok m) {hs : Array Int} (hn : hs.size ≤ m) : ∃ owner, SetTable.layClean m hs = some owner ∧ Seats m hs.size owner := by
  obtain ⟨o', f, W⟩ := seats_fold hm hs.toList 0 (Array.replicate (m + 1) none) ⟨Array.size_replicate, fun k hk => absurd hk (Nat.not_lt_zero _), [], rfl, fun j hj e => absurd (oAt_init hj) e⟩ (by rw [Array.length_toList]; omega)
  rw [Nat.zero_add, Array.length_toList] at f W
  refine ⟨o', ?_, W⟩
  rw [layClean_eq, f]
  rfl
theorem anew {t : SetTable} {hs : Array Int} {wanted M : Nat} (hw : SetTable.sizeAbove wanted - 1 = M) (hM : Mok M) (hn : hs.size ≤ M) :
    ∃ t' order, t.relaid hs wanted = some (t', order) ∧ order.toList.Perm (List.range hs.size) ∧ Ris t'.place.toList ∧ t'.place.size = hs.size ∧ t'.mask = M ∧ t'.led = t.led ∧ t'.plain = t.plain ∧ t'.dummies = #[] := by
  obtain ⟨owner, e, W⟩ := laid_ok hM hn
  have r := ris_live (fun j => owner.getD j none) (List.range (M + 1)) (show List.Pairwise _ _ from List.pairwise_lt_range)
  have r1 : Ris ((liveOf M owner).map (·.1)) := r.1
  have mem := @mem_live M owner W.size
  have len : (liveOf M owner).length = hs.size := by
    obtain ⟨ps, p1, p2⟩ := W.few
    have dis : ((liveOf M owner).map (·.1)).Nodup := r1.imp fun {a b} h => Nat.ne_of_lt h
    have a := nat_nodup_len _ ps dis fun x hx => by
      obtain ⟨⟨y, k⟩, hq, rfl⟩ := List.mem_map.mp hx
      obtain ⟨b1, b2⟩ := mem.mp hq
      exact p2 y b1 (by rw [b2]; exact Option.some_ne_none _)
    have b := nat_nodup_len (List.range hs.size) ((liveOf M owner).map (·.2)) List.nodup_range fun k hk => by
      obtain ⟨j, b1, b2⟩ := W.all k (List.mem_range.mp hk)
      exact List.mem_map.mpr ⟨(j, k), mem.mpr ⟨b1, b2⟩, rfl⟩
    rw [List.length_map] at a b
    rw [List.length_range] at b
    omega
  refine ⟨tabOf t M owner, ((liveOf M owner).map (·.2)).toArray, by rw [relaid_eq, hw, e]; rfl, ?_, r1, ?_, rfl, rfl, rfl, rfl⟩
  · refine perm_range hs.size _ (by show ((liveOf M owner).map (·.2)).length = _; rw [List.length_map]; exact len) fun k hk => ?_
    obtain ⟨j, b1, b2⟩ := W.all k hk
    exact List.mem_map.mpr ⟨(j, k), mem.mpr ⟨b1, b2⟩, rfl⟩
  · show ((liveOf M owner).map (·.1)).toArray.size = _
    rw [List.size_toArray, List.length_map]
    exact len
end K16
namespace K16
open PySem PySem.Spec PyProof.Rows L2
/-! ### keys: tuples of ints and of such tuples -/
inductive NumK : NestedKey → Prop
  | num (i : Int) : NumK (.num i)
  | tup {ks : List NestedKey} : (∀ k ∈ ks, NumK k) → NumK (.tup ks)
theorem depth_in : ∀ {ks : List NestedKey} {k : NestedKey}, k ∈ ks → k.depth ≤ NestedKey.depthAll ks
  | k :: ks, x, h => by
    rw [NestedKey.depthAll]
    rcases List.mem_cons.mp h with e | h
    · rw [e]; omega
    · have := depth_in h
      omega
theorem nested_in {h : Heap} : ∀ {ks : List NestedKey} {vs : List Value}, NestedAll h ks vs → ∀ v ∈ vs, ∃ k ∈ ks, NestedIs h k v
  | [], vs, x, v, hv => by cases x; cases hv
  | k :: ks, vs, x, v, hv => by
    cases x with
    | cons x1 x2 =>
      rcases List.mem_cons.mp hv with e | hv
      · exact ⟨k, List.mem_cons_self, e ▸ x1⟩
      · obtain ⟨k', m, q⟩ := nested_in x2 v hv
        exact ⟨k', List.mem_cons_of_mem _ m, q⟩
structure NK (h : Heap) (k : NestedKey) (a : Addr) : Prop where
  is : NestedIs h k (.ref a)
  dep : k.depth ≤ 8
  num : NumK k
theorem NK.keep {h h' : Heap} {k : NestedKey} {a : Addr} (x : NK h k a) (q : ∀ b o vs n, h.get? b = some o → o.data = .seq vs n → h'.get? b = some o) : NK h' k a := ⟨NestedIs.at q _ _ x.is, x.dep, x.num⟩
section
variable {P : Program} {w : World}
def NoCls (P : Program) (w : World) (n : Nat) (s : Shared) (v : Value) : Prop := ∀ (A : Around) (E : Value → Shared → Prop) (Q : Bool → Shared → Prop), Q false s → wpAny (model P w) A (ofAClassStatement n v) Q E s
def ByVal (P : Program) (w : World) (n : Nat) (s : Shared) (v : Value) : Prop := ∀ (A : Around) (E : Value → Shared → Prop) (Q : Bool → Shared → Prop), Q true s → wpAny (model P w) A (hashByValue n v) Q E s
theorem NoCls.tup {n : Nat} {s : Shared} {a : Addr} {o : Obj} {items : Array Value} {m : Nat} (ho : s.heap.get? a = some o) (hc : o.cls = .type "tuple") (hd : o.data = .seq items m) (all : ∀ v ∈ items.toList, NoCls P w n s v) : NoCls P w (n + 1) s (.ref a) := by
  intro A E Q q
  have hT : s.TypeIs (.ref a) "tuple" := ⟨o, ho, hc⟩
  unfold ofAClassStatement
  refine wpAny_bind (wpAny_typeOf hT ?_)
  dsimp only
  simp only [show (("tuple" : String) == "tuple") = true by decide, if_true, Bool.not_true, Bool.false_eq_true, if_false]
  try refine wpAny_bind (wpAny_pure ?_)
  try simp only [Bool.not_true, Bool.false_eq_true, if_false]
  refine wpAny_bind (wpAny_seqItems ho hd (wpAny_bind ?_))
  show wpAny _ _ (forIn items _ _) _ _ s
  rw [← Array.forIn_toList]
  refine wpAny_forIn_list _ (fun l r s1 => s1 = s ∧ r.1 = none ∧ ∀ v ∈ l, NoCls P w n s v) _ (fun v l r s1 h => ?_) (fun r s1 h => ?_) _ _ ⟨rfl, rfl, all⟩
  · obtain ⟨rfl, hr, hl⟩ := h
    refine wpAny_bind (hl v List.mem_cons_self _ _ _ ?_)
    simp only [Bool.false_eq_true, if_false]
    exact wpAny_pure ⟨rfl, rfl, fun u z => hl u (List.mem_cons_of_mem _ z)⟩
  · obtain ⟨rfl, hr, _⟩ := h
    obtain ⟨r1, r2⟩ := r
    cases hr
    exact wpAny_pure q
theorem ByVal.tup {n : Nat} {s : Shared} {a : Addr} {o : Obj} {items : Array Value} {m : Nat} (ho : s.heap.get? a = some o) (hc : o.cls = .type "tuple") (hd : o.data = .seq items m) (all : ∀ v ∈ items.toList, ByVal P w n s v) : ByVal P w (n + 1) s (.ref a) := by
  intro A E Q q
  have hT : s.TypeIs (.ref a) "tuple" := ⟨o, ho, hc⟩
  unfold hashByValue
  refine wpAny_bind (wpAny_specialOf hT F.slot_tuple_hash.lookup ?_)
  show wpAny _ _ (seqItems? (.ref a) >>= _) _ _ s
  refine wpAny_bind (wpAny_seqItems ho hd (wpAny_bind ?_))
  show wpAny _ _ (forIn items _ _) _ _ s
  rw [← Array.forIn_toList]
  refine wpAny_forIn_list _ (fun l r s1 => s1 = s ∧ r.1 = none ∧ ∀ v ∈ l, ByVal P w n s v) _ (fun v l r s1 h => ?_) (fun r s1 h => ?_) _ _ ⟨rfl, rfl, all⟩
  · obtain ⟨rfl, hr, hl⟩ := h
    refine wpAny_bind (hl v List.mem_cons_self _ _ _ ?_)
    simp only [Bool.not_true, Bool.false_eq_true, if_false]
    exact wpAny_pure ⟨rfl, rfl, fun u z => hl u (List.mem_cons_of_mem _ z)⟩
  · obtain ⟨rfl, hr, _⟩ := h
    obtain ⟨r1, r2⟩ := r
    cases hr
    exact wpAny_pure q
theorem noCls_num {n : Nat} {s : Shared} {i : Int} {v : Value} (h : NestedIs s.heap (.num i) v) : NoCls P w n s v := fun A E Q q => by
  cases h with
  | bool e => cases n <;> exact wpAny_pure q
  | int _ t => cases n <;> exact wpAny_pure q
theorem byVal_num {n : Nat} {s : Shared} {i : Int} {v : Value} (h : NestedIs s.heap (.num i) v) : ByVal P w n s v := fun A E Q q => by
  cases h with
  | bool e => cases n <;> exact wpAny_pure q
  | int _ t => cases n <;> exact wpAny_pure q
theorem numK_quiet {k : NestedKey} (hk : NumK k) : ∀ (v : Value) (n : Nat) (s : Shared), NestedIs s.heap k v → k.depth ≤ n → NoCls P w n s v ∧ ByVal P w n s v := by
  induction hk with
  | num i => intro v n s h _; exact ⟨noCls_num h, byVal_num h⟩
  | @tup ks hall ih =>
    intro v n s h hn
    cases h with
    | @tup a o vs m _ h1 h2 h3 h4 =>
      rw [NestedKey.depth] at hn
      obtain ⟨n', rfl⟩ : ∃ n', n = n' + 1 := ⟨n - 1, by omega⟩
      have each : ∀ v ∈ vs.toList, NoCls P w n' s v ∧ ByVal P w n' s v := fun v hv => by
        obtain ⟨k, hk, q⟩ := nested_in h4 v hv
        have := depth_in hk
        exact ih k hk v n' s q (by omega)
      exact ⟨.tup h1 h2 h3 fun v hv => (each v hv).1, .tup h1 h2 h3 fun v hv => (each v hv).2⟩
variable {A : Around} {E : Value → Shared → Prop} {s : Shared}
/-- a search among such keys shows nothing -/
theorem unseen {k : NestedKey} {x : Addr} {Q : Bool → Shared → Prop} (hx : NK s.heap k x) {ys : List Value} (hy : ∀ y ∈ ys, ∃ k' c, y = Value.ref c ∧ NK s.heap k' c) (q : Q false s) : wpAny (model P w) A (searchCouldBeSeen (.ref x) ys) Q E s := by
  unfold searchCouldBeSeen
  refine wpAny_bind ?_
  refine wpAny_forIn_list _ (fun l r s1 => s1 = s ∧ r.1 = none ∧ ∀ y ∈ l, ∃ k' c, y = Value.ref c ∧ NK s.heap k' c) _ (fun v l r s1 h => ?_) (fun r s1 h => ?_) _ _ ⟨rfl, rfl, hy⟩
  · obtain ⟨rfl, hr, hl⟩ := h
    obtain ⟨k', c, rfl, hc⟩ := hl v List.mem_cons_self
    have hl' : ∀ y ∈ l, ∃ k' c, y = Value.ref c ∧ NK s1.heap k' c := fun u z => hl u (List.mem_cons_of_mem _ z)
    dsimp only
    by_cases same : (x == c || (carriedByValue (.ref x) && carriedByValue (.ref c))) = true
    · exact wp_if_pos same (wpAny_pure ⟨rfl, rfl, hl'⟩)
    · refine wp_if_neg same ?_
      refine wpAny_bind (quiet_key k _ 8 s1 hx.is hx.dep A E _ ?_)
      simp only [Bool.not_true, Bool.false_eq_true, if_false]
      refine wpAny_bind (quiet_key k' _ 8 s1 hc.is hc.dep A E _ ?_)
      simp only [Bool.not_true, Bool.false_eq_true, if_false]
      refine wpAny_bind ((numK_quiet hx.num _ 8 s1 hx.is hx.dep).1 A E _ ?_)
      simp only [Bool.false_eq_true, if_false]
      refine wpAny_bind ((numK_quiet hc.num _ 8 s1 hc.is hc.dep).1 A E _ ?_)
      simp only [Bool.false_eq_true, if_false]
      exact wpAny_pure ⟨rfl, rfl, hl'⟩
  · obtain ⟨rfl, hr, _⟩ := h
    obtain ⟨r1, r2⟩ := r
    cases hr
    exact wpAny_pure q
end
end K16
namespace K16
open PySem PySem.Spec PyProof.Rows L2
section
variable {P : Program} {w : World} {A : Around} {E : Value → Shared → Prop} {s : Shared}
/-- a set of keys, each with its tuple; nothing is said of the hashes -/
structure TSet (w : World) (h : Heap) (a : Addr) (L : List (Addr × NestedKey)) (es : Array (Int × Value)) (ep : Nat) (t : SetTable) : Prop where
  obj : ∃ o, h.get? a = some o ∧ o.ExactSet ∧ o.data = .set es ep t
  vals : es.toList.map (·.2) = L.map fun p => Value.ref p.1
  ris : Ris t.place.toList
  dum : t.dummies = #[]
  size : t.place.size = es.size
  mask : Mok t.mask
  keys : ∀ p ∈ L, NK h p.2 p.1
  plain : t.plain = true
  led : w.params.followText "set-order" = true ∨ t.led = true
  room : L.length * 5 < t.mask * 3
variable {a : Addr} {L : List (Addr × NestedKey)} {es : Array (Int × Value)} {ep : Nat} {t : SetTable}
theorem vals_len {es : Array (Int × Value)} (h : es.toList.map (·.2) = L.map fun p => Value.ref p.1) : es.size = L.length := by
  have e := congrArg List.length h
  rw [List.length_map, List.length_map, Array.length_toList] at e
  exact e
theorem vals_at {es : Array (Int × Value)} (h : es.toList.map (·.2) = L.map fun p => Value.ref p.1) {i : Nat} {p : Addr × NestedKey} (hp : L[i]? = some p) : ∃ hh, es[i]? = some (hh, Value.ref p.1) := by
  have e : (es.toList.map (·.2))[i]? = some (Value.ref p.1) := by rw [h, List.getElem?_map, hp]; rfl
  rw [List.getElem?_map, Array.getElem?_toList] at e
  cases q : es[i]? with
  | none => rw [q] at e; cases e
  | some r =>
    rw [q] at e
    obtain ⟨hh, v⟩ := r
    exact ⟨hh, by rw [show v = Value.ref p.1 from Option.some.inj e]⟩
theorem fits_of (h1 : t.place.size = es.size) (h2 : t.dummies = #[]) (h3 : es.size ≤ t.mask) : t.fits es.size = true := by
  unfold SetTable.fits SetTable.fill
  rw [h2, Bool.and_eq_true, beq_iff_eq, decide_eq_true_eq]
  exact ⟨h1, by show t.place.size + 0 ≤ _; omega⟩
theorem TSet.fit (R : TSet w s.heap a L es ep t) : t.fits es.size = true := fits_of R.size R.dum (by have := vals_len R.vals; have := R.room; omega)
theorem TSet.there (R : TSet w s.heap a L es ep t) : ¬ t.gaveWay = true := by
  unfold SetTable.gaveWay
  rcases R.mask with e | e | e | e <;> rw [e] <;> decide
abbrev st0 (m : Nat) (h : Int) : SetTable.Probe := runAt m (SetTable.bits h % (m + 1)) (SetTable.bits h)
theorem nth_dum (m : Nat) : ∀ (n : Nat) (p : SetTable.Probe), p.dummy = none → (nth m p n).dummy = none
  | 0, _, h => h
  | n + 1, p, h => nth_dum m n (adv m p) (by unfold adv; split <;> exact h)
/-- the search: the key is there, or the first empty slot -/
theorem look (R : TSet w s.heap a L es ep t) {x : Addr} {k : NestedKey} (hx : NK s.heap k x) (hu : A.units + 8 < cLine) (h : Int) {K : Nat} (hKf : K < 10 * SetTable.turns t.mask)
    (hK : way t.mask h K ∉ t.place.toList) (hKb : ∀ c, c < K → way t.mask h c ∈ t.place.toList) {Q : SetFound → Shared → Prop} (hin : k ∈ L.map (·.2) → Q (.there none) s) (hout : Q (.free (way t.mask h K) false) s) :
    ∀ (f c : Nat) (stand : Option SetTable.Probe), stand.getD (t.probeStart h) = nth t.mask (st0 t.mask h) c → c ≤ K → K - c < f → wpAny (model P w) A (setSearchFrom a (.ref x) h true f stand) Q E s
  | 0, c, stand, _, _, hf => absurd hf (Nat.not_lt_zero _)
  | f + 1, c, stand, hst, hc, hf => by
    obtain ⟨o, ho, hex, hd⟩ := R.obj
    rw [setSearchFrom_succ]
    refine wpAny_bind (wpAny_setState_of ho hd R.fit ?_)
    dsimp only
    refine wp_if_neg R.there ?_
    try refine wpAny_bind (wpAny_pure ?_)
    have sh : ∀ q, nth t.mask (nth t.mask (st0 t.mask h) c) q = nth t.mask (st0 t.mask h) (c + q) := fun q => (nth_add t.mask c _ q).symm
    have jj : ∀ q, (nth t.mask (nth t.mask (st0 t.mask h) c) q).j = way t.mask h (c + q) := fun q => congrArg SetTable.Probe.j (sh q)
    have spec := go_spec t R.ris R.dum (fun i => (es[i]?.map (·.1)).getD 0) h (10 * SetTable.turns t.mask) (K - c) _ (nth_dum t.mask c _ rfl) (by omega)
      (fun q hq => by rw [jj]; exact hKb (c + q) (by omega)) (by rw [jj, show c + (K - c) = K by omega]; exact hK)
    rcases spec with ⟨q, i, hq, hi, _, _, hpr⟩ | ⟨_, hpr⟩
    · rw [jj] at hi
      have found : t.probe (fun i => (es[i]?.map (·.1)).getD 0) h (stand.getD (t.probeStart h)) = some (.candidate (way t.mask h (c + q)) i (nth t.mask (st0 t.mask h) (c + (q + 1)))) := by
        rw [hst, ← jj, ← sh]
        exact hpr
      rw [found]
      dsimp only
      have li : i < L.length := by
        have h1 := (List.getElem?_eq_some_iff.mp hi).1
        have h2 := R.size
        have h3 := vals_len R.vals
        rw [Array.length_toList] at h1
        omega
      have hp : L[i]? = some L[i] := List.getElem?_eq_getElem li
      have hm : L[i] ∈ L := List.getElem_mem li
      generalize L[i] = p at hp hm
      obtain ⟨hh, ent⟩ := vals_at R.vals hp
      have kp := R.keys p hm
      have rest : wpAny (model P w) A (searchRest a (.ref x) h true f es t (way t.mask h (c + q)) i (nth t.mask (st0 t.mask h) (c + (q + 1)))) Q E s := by
        unfold searchRest
        rw [ent]
        dsimp only
        refine wpAny_bind (wpAny_holding ((nestedKind P w).eqBool (x := p.2) (y := k) hu ⟨kp.is, kp.dep⟩ ⟨hx.is, hx.dep⟩ ?_))
        refine wpAny_bind (wpAny_setState_of ho hd R.fit ?_)
        dsimp only
        by_cases e : p.2 = k
        · exact wp_if_pos (by simp [e]) (wpAny_pure (hin (List.mem_map.mpr ⟨p, hm, e⟩)))
        · refine wp_if_neg (by simp [e]) ?_
          try refine wpAny_bind (wpAny_pure ?_)
          rw [sameMem]
          dsimp only
          have live : t.slot (way t.mask h (c + q)) = .live i := slot_live R.ris hi
          simp only [if_true, live, ent]
          refine wpAny_bind (wpAny_isSame_ref_self (wpAny_bind (wpAny_pure ?_)))
          simp only [if_true]
          refine wp_if_neg (by simp [e]) ?_
          exact look R hx hu h hKf hK hKb hin hout f (c + (q + 1)) _ rfl (by omega) (by omega)
      by_cases hl : t.led = true
      · refine wp_if_neg (by simp [hl]) ?_
        try refine wpAny_bind (wpAny_pure ?_)
        exact rest
      · refine wp_if_pos (by simp [hl]) ?_
        refine wpAny_bind (unseen hx (fun y hy => ?_) ?_)
        · obtain ⟨r, hr, er⟩ := List.mem_map.mp hy
          have hr1 : r ∈ es.toList := by
            have z : r ∈ es ∧ r.1 = h := by simpa using hr
            simpa using z.1
          have hr2 : y ∈ es.toList.map (·.2) := List.mem_map.mpr ⟨r, hr1, er⟩
          rw [R.vals] at hr2
          obtain ⟨p2, hp2, e2⟩ := List.mem_map.mp hr2
          exact ⟨p2.2, p2.1, e2.symm, R.keys p2 hp2⟩
        · refine wp_if_neg (by decide) ?_
          try refine wpAny_bind (wpAny_pure ?_)
          exact rest
    · have found : t.probe (fun i => (es[i]?.map (·.1)).getD 0) h (stand.getD (t.probeStart h)) = some (.empty (way t.mask h K) none) := by
        have e2 : (nth t.mask (nth t.mask (st0 t.mask h) c) (K - c)).j = way t.mask h K := by rw [jj, show c + (K - c) = K by omega]
        rw [hst, ← e2]
        exact hpr
      rw [found]
      exact wpAny_pure hout
end
end K16
namespace K16
open PySem PySem.Spec PyProof.Rows L2
theorem size_5 : SetTable.sizeAbove (SetTable.grown 5) = 32 := by decide +kernel
theorem size_19 : SetTable.sizeAbove (SetTable.grown 19) = 128 := by decide +kernel
theorem size_77 : SetTable.sizeAbove (SetTable.grown 77) = 512 := by decide +kernel
/-- what stands at each of the order's places -/
theorem picked {α : Type} (L : List α) (order : List Nat) (hp : order.Perm (List.range L.length)) : (order.filterMap fun i => L[i]?).Perm L := by
  have e : (List.range L.length).filterMap (fun i => L[i]?) = L := by
    have key : ∀ n, n ≤ L.length → (List.range n).filterMap (fun i => L[i]?) = L.take n := by
      intro n
      induction n with
      | zero => intro _; rfl
      | succ n ih =>
        intro hn
        rw [List.range_succ, List.filterMap_append, ih (by omega), take_succ' (get_some (l := L) hn), List.filterMap_cons_some (get_some hn)]
        rfl
    rw [key _ (Nat.le_refl _), List.take_length]
  have q := hp.filterMap (fun i => L[i]?)
  rw [e] at q
  exact q
theorem picked_map {α β : Type} (f : α → β) (L : List α) : ∀ (order : List Nat), (order.filterMap fun i => (L.map f)[i]?) = (order.filterMap fun i => L[i]?).map f
  | [] => rfl
  | i :: r => by
    have ih := picked_map f L r
    cases e : L[i]? with
    | none => rw [List.filterMap_cons_none (by rw [List.getElem?_map, e]; rfl), List.filterMap_cons_none e, ih]
    | some x => rw [List.filterMap_cons_some (b := f x) (by rw [List.getElem?_map, e]; rfl), List.filterMap_cons_some e, List.map_cons, ih]
section
variable {P : Program} {w : World} {A : Around} {E : Value → Shared → Prop} {s : Shared}
variable {a : Addr} {L : List (Addr × NestedKey)} {es : Array (Int × Value)} {ep : Nat} {t : SetTable}
/-- a tuple isn't the set -/
theorem NK.same {h h' : Heap} {k : NestedKey} {b : Addr} {o : Obj} (x : NK h k b) (ho : h.get? a = some o) (hd : o.data = .set es ep t) (hs : Heap.SameBut a h h') : NK h' k b := x.keep fun c u vs n e z => by
  refine (hs.2 c fun y => ?_).trans e
  rw [y, ho] at e
  cases e
  rw [hd] at z
  cases z
/-- laid anew, larger -/
theorem regrow {o : Obj} (ho : s.heap.get? a = some o) (hex : o.ExactSet) (hd : o.data = .set es ep t) (vals : es.toList.map (·.2) = L.map fun p => Value.ref p.1) (size : t.place.size = es.size) (dum : t.dummies = #[]) (small : es.size ≤ t.mask)
    (keys : ∀ p ∈ L, NK s.heap p.2 p.1) (pl : t.plain = true) (ld : w.params.followText "set-order" = true ∨ t.led = true) {wanted M : Nat} (hw : SetTable.sizeAbove wanted - 1 = M) (hM : Mok M) (hw2 : SetTable.sizeAbove wanted ≤ 512) (hn : L.length * 5 < M * 3)
    {Q : Unit → Shared → Prop} (hQ : ∀ h' L' es' ep' t', Heap.SameBut a s.heap h' → TSet w h' a L' es' ep' t' → L'.Perm L → Q () { s with heap := h' }) : wpAny (model P w) A (setRelay a wanted) Q E s := by
  have sl := vals_len vals
  obtain ⟨t', order, e, pm, r1, r2, r3, r4, r5, r6⟩ := anew (t := t) (hs := es.map (·.1)) (wanted := wanted) hw hM (by rw [Array.size_map]; omega)
  rw [Array.size_map] at pm r2
  have p1 : (order.toList.filterMap fun i => es.toList[i]?).Perm es.toList := picked es.toList order.toList (by rw [Array.length_toList]; exact pm)
  have e1 : (order.filterMap (es[·]?)).toList = order.toList.filterMap fun i => es.toList[i]? := by
    have z : (fun i => es.toList[i]?) = (es[·]?) := funext fun i => Array.getElem?_toList
    rw [z]
    first | exact Array.toList_filterMap | simp
  have s2 : (order.filterMap (es[·]?)).size = es.size := by
    rw [← Array.length_toList, e1, p1.length_eq, Array.length_toList]
  rw [setRelay_eq]
  refine wpAny_bind (wpAny_setState_of ho hd (fits_of size dum small) ?_)
  dsimp only
  refine wp_if_neg (by rw [sizeLine_eq]; omega) ?_
  try refine wpAny_bind (wpAny_pure ?_)
  rw [e]
  dsimp only
  refine wpAny_bind (wp_if_neg (by rw [s2]; simp) ?_)
  try refine wpAny_bind (wpAny_pure ?_)
  refine wpAny_pure ?_
  dsimp only
  refine wpAny_storeSet_of ho hd ?_ (by rw [s2, sizeLine_eq]; rcases hM with z | z | z | z <;> omega)
  have sb : Heap.SameBut a s.heap (s.heap.update a (Obj.putSet (order.filterMap (es[·]?)) t')) := Heap.SameBut.update ..
  have p2 : (order.toList.filterMap fun i => L[i]?).Perm L := picked L order.toList (by rw [← sl]; exact pm)
  refine hQ _ (order.toList.filterMap fun i => L[i]?) (order.filterMap (es[·]?)) (ep + 1) t' sb ⟨⟨_, store_at ho hd, ⟨hex.1, hex.2.1, hex.2.2⟩, rfl⟩, ?_, r1, r6, by rw [r2, s2], by rw [r3]; exact hM, fun p hp => (keys p (p2.mem_iff.mp hp)).same ho hd sb, by rw [r5]; exact pl, by rw [r4]; exact ld, by rw [p2.length_eq, r3]; exact hn⟩ p2
  rw [e1, ← picked_map, vals, picked_map]
/-- one more -/
theorem put_in (R : TSet w s.heap a L es ep t) {x : Addr} {k : NestedKey} (hx : NK s.heap k x) (hu : A.units + 8 < cLine) (few : L.length < 100) (h : Int) {Q : Bool → Shared → Prop}
    (hQ : ∀ b h' L' es' ep' t', Heap.SameBut a s.heap h' → TSet w h' a L' es' ep' t' → ((L' = L ∧ k ∈ L.map (·.2)) ∨ L'.Perm ((x, k) :: L)) → Q b { s with heap := h' }) : wpAny (model P w) A (setAddHashed a (.ref x) h) Q E s := by
  obtain ⟨o, ho, hex, hd⟩ := R.obj
  have sl := vals_len R.vals
  have room := R.room
  obtain ⟨K, hKf, hK, hKb⟩ := first_free R.mask (by rw [R.size]; omega) h
  have big : K < 100000 := by
    have z : 10 * SetTable.turns t.mask ≤ 10000 := by
      show 10 * (t.mask + 15) ≤ 10000
      rcases R.mask with e | e | e | e <;> omega
    omega
  unfold setAddHashed
  refine wpAny_holding ?_
  rw [show (100000 : Nat) = 99999 + 1 from rfl, setAddHashedIn_succ]
  refine wpAny_bind (wpAny_setState_of ho hd R.fit ?_)
  dsimp only
  refine wp_if_neg (by simp [byScan, Value.scannable]) ?_
  try refine wpAny_bind (wpAny_pure ?_)
  unfold setSearch
  refine wpAny_bind (look R hx hu h hKf hK hKb (fun hm => ?_) ?_ 100000 0 none rfl (Nat.zero_le _) (by omega))
  · exact wpAny_pure (hQ false s.heap L es ep t (Heap.SameBut.refl a s.heap) R (.inl ⟨rfl, hm⟩))
  dsimp only
  refine wpAny_bind (wpAny_setState_of ho hd R.fit ?_)
  dsimp only
  -- where it stands
  obtain ⟨c1, _, _⟩ := below_cut R.ris (way t.mask h K)
  have nin : t.place[SetTable.below t.place (way t.mask h K)]? ≠ some (way t.mask h K) := fun e => hK (List.mem_of_getElem? (by rw [Array.getElem?_toList]; exact e))
  have g1 : Ris (t.put (way t.mask h K)).1.place.toList := ris_insert R.ris nin
  have g2 : (t.put (way t.mask h K)).1.dummies = #[] := put_dm R.dum _
  have g3 : (t.put (way t.mask h K)).1.place.size = t.place.size + 1 := by
    rw [← Array.length_toList, put_place, len_ins _ (by rw [Array.length_toList]; exact c1), Array.length_toList]
  have g4 : (t.put (way t.mask h K)).1.mask = t.mask := rfl
  have g5 : (t.put (way t.mask h K)).1.led = t.led := rfl
  have g6 : (t.put (way t.mask h K)).1.plain = true := R.plain
  have g7 : (t.put (way t.mask h K)).2 = SetTable.below t.place (way t.mask h K) := rfl
  generalize t.put (way t.mask h K) = u at g1 g2 g3 g4 g5 g6 g7 ⊢
  obtain ⟨t1, p⟩ := u
  dsimp only at g1 g2 g3 g4 g5 g6 g7 ⊢
  subst g7
  have byv := (numK_quiet (P := P) (w := w) hx.num _ 8 s hx.is hx.dep).2
  first
    | (refine wpAny_bind ?_; refine wp_if_pos g6 ?_; refine byv _ _ _ ?_)
    | refine wp_if_pos g6 (wpAny_bind (byv _ _ _ ?_))
  simp only [if_true]
  generalize SetTable.below t.place (way t.mask h K) = p at c1 ⊢
  have ps : p ≤ es.size := by rw [← R.size]; exact c1
  have v1 : (SetTable.insertAt es p (h, Value.ref x)).toList.map (·.2) = (L.take p ++ (x, k) :: L.drop p).map fun q => Value.ref q.1 := by
    rw [SetTable.toList_insertAt, List.map_append, List.map_cons, List.map_append, List.map_cons, List.map_take, List.map_drop, List.map_take, List.map_drop, R.vals]
  have pm := put_perm L p (x, k)
  have es1 : (SetTable.insertAt es p (h, Value.ref x)).size = es.size + 1 := by
    rw [vals_len v1, pm.length_eq, List.length_cons, sl]
  generalize SetTable.insertAt es p (h, Value.ref x) = fs at v1 es1 ⊢
  generalize L.take p ++ (x, k) :: L.drop p = L1 at v1 pm
  have len1 : L1.length = L.length + 1 := pm.length_eq
  refine wpAny_bind (wpAny_storeSet_of ho hd ?_ (by rw [es1, sizeLine_eq]; omega))
  have sb : Heap.SameBut a s.heap (s.heap.update a (Obj.putSet fs t1)) := Heap.SameBut.update ..
  have ho1 := store_at (es' := fs) (t' := t1) ho hd
  generalize s.heap.update a (Obj.putSet fs t1) = h1 at sb ho1 ⊢
  have keys1 : ∀ q ∈ L1, NK h1 q.2 q.1 := fun q hq => by
    rcases List.mem_cons.mp (pm.mem_iff.mp hq) with e | hq
    · rw [e]; exact hx.same ho hd sb
    · exact (R.keys q hq).same ho hd sb
  have led1 : w.params.followText "set-order" = true ∨ t1.led = true := by rw [g5]; exact R.led
  have size1 : t1.place.size = fs.size := by rw [g3, es1, R.size]
  have fill1 : t1.fill = L.length + 1 := by
    show t1.place.size + t1.dummies.size = _
    rw [g2, size1, es1, sl]
    rfl
  have mask1 : Mok t1.mask := by rw [g4]; exact R.mask
  by_cases hf : t1.tooFull = true
  · first
      | (refine wpAny_bind ?_; refine wp_if_pos (by simp [hf]) ?_)
      | (refine wp_if_pos (by simp [hf]) ?_; refine wpAny_bind ?_)
    have full : (L.length + 1) * 5 ≥ t.mask * 3 := by
      have z := hf
      unfold SetTable.tooFull at z
      rw [decide_eq_true_eq, fill1, g4] at z
      exact z
    rw [sl]
    have go : ∀ M, SetTable.sizeAbove (SetTable.grown (L.length + 1)) - 1 = M → Mok M → SetTable.sizeAbove (SetTable.grown (L.length + 1)) ≤ 512 → (L.length + 1) * 5 < M * 3 → L.length + 1 ≤ t.mask →
        wpAny (model P w) A (setRelay a (SetTable.grown (L.length + 1))) (fun _ s' => wpAny (model P w) A (pure true) Q E s') E { s with heap := h1 } := fun M m1 m2 m3 m4 m5 => by
      refine regrow (s := { s with heap := h1 }) ho1 ⟨hex.1, hex.2.1, hex.2.2⟩ rfl v1 size1 g2 (by rw [es1, g4]; omega) keys1 g6 led1 m1 m2 m3 (by rw [len1]; exact m4) ?_
      intro h2 L2 es2 ep2 t2 sb2 R2 pm2
      exact wpAny_pure (hQ true h2 L2 es2 ep2 t2 (sb.trans sb2) R2 (.inr (pm2.trans pm)))
    rcases R.mask with e | e | e | e
    · have z : L.length = 4 := by rw [e] at full room; omega
      exact go 31 (by rw [z, size_5]) (.inr (.inl rfl)) (by rw [z, size_5]; decide) (by omega) (by omega)
    · have z : L.length = 18 := by rw [e] at full room; omega
      exact go 127 (by rw [z, size_19]) (.inr (.inr (.inl rfl))) (by rw [z, size_19]; decide) (by omega) (by omega)
    · have z : L.length = 76 := by rw [e] at full room; omega
      exact go 511 (by rw [z, size_77]) (.inr (.inr (.inr rfl))) (by rw [z, size_77]; decide) (by omega) (by omega)
    · rw [e] at full; omega
  · first
      | refine wp_if_neg (by simp [hf]) ?_
      | (refine wpAny_bind ?_; refine wp_if_neg (by simp [hf]) ?_; refine wpAny_pure ?_)
    refine wpAny_pure (hQ true h1 L1 fs (ep + 1) t1 sb ⟨⟨_, ho1, ⟨hex.1, hex.2.1, hex.2.2⟩, rfl⟩, v1, g1, g2, size1, mask1, keys1, g6, led1, ?_⟩ (.inr pm))
    have z := hf
    unfold SetTable.tooFull at z
    rw [decide_eq_true_eq, fill1] at z
    rw [len1]
    omega
end
end K16
namespace K16
open PySem PySem.Spec PyProof.Rows L2
/-- what the set has of the first i items -/
structure Kept (ks : List (Addr × NestedKey)) (i : Nat) (L : List (Addr × NestedKey)) : Prop where
  sub : ∀ p ∈ L, p ∈ ks.take i
  all : ∀ p ∈ ks.take i, p.2 ∈ L.map (·.2)
  len : L.length ≤ i
  dis : ((ks.take i).map (·.2)).Nodup → (L.map (·.2)).Nodup
theorem Kept.start (ks : List (Addr × NestedKey)) : Kept ks 0 [] := ⟨fun p h => (by cases h), fun p h => (by simp at h), Nat.le_refl _, fun _ => List.nodup_nil⟩
theorem Kept.next {ks L L' : List (Addr × NestedKey)} {i : Nat} {x : Addr × NestedKey} (g : Kept ks i L) (h : ks[i]? = some x) (c : (L' = L ∧ x.2 ∈ L.map (·.2)) ∨ L'.Perm ((x.1, x.2) :: L)) : Kept ks (i + 1) L' := by
  have e := take_succ' h
  rcases c with ⟨rfl, hm⟩ | pm
  · refine ⟨fun p hp => by rw [e]; exact List.mem_append_left _ (g.sub p hp), fun p hp => ?_, by have := g.len; omega, fun nd => g.dis ?_⟩
    · rw [e] at hp
      rcases List.mem_append.mp hp with z | z
      · exact g.all p z
      · rw [List.mem_singleton.mp z]; exact hm
    · rw [e, List.map_append] at nd
      exact (List.nodup_append.mp nd).1
  · refine ⟨fun p hp => ?_, fun p hp => ?_, ?_, fun nd => ?_⟩
    · rw [e]
      rcases List.mem_cons.mp (pm.mem_iff.mp hp) with z | z
      · rw [z]; exact List.mem_append_right _ (List.mem_singleton.mpr rfl)
      · exact List.mem_append_left _ (g.sub p z)
    · rw [(pm.map (·.2)).mem_iff, List.map_cons]
      rw [e] at hp
      rcases List.mem_append.mp hp with z | z
      · exact List.mem_cons_of_mem _ (g.all p z)
      · rw [List.mem_singleton.mp z]; exact List.mem_cons_self
    · have := g.len
      rw [pm.length_eq, List.length_cons]
      omega
    · rw [e, List.map_append] at nd
      obtain ⟨n1, _, n3⟩ := List.nodup_append.mp nd
      rw [(pm.map (·.2)).nodup_iff, List.map_cons]
      refine List.nodup_cons.mpr ⟨fun z => ?_, g.dis n1⟩
      obtain ⟨p, hp, ep⟩ := List.mem_map.mp z
      exact n3 _ (List.mem_map.mpr ⟨p, g.sub p hp, rfl⟩) x.2 (by simp) ep
section
variable {P : Program} {w : World} {A : Around} {E : Value → Shared → Prop} {s : Shared}
theorem NK.old {h h' : Heap} {k : NestedKey} {b : Addr} (x : NK h k b) (q : ∀ c o, h.get? c = some o → h'.get? c = some o) : NK h' k b := x.keep fun c o _ _ e _ => q c o e
theorem TSet.old {h h' : Heap} {a : Addr} {L : List (Addr × NestedKey)} {es : Array (Int × Value)} {ep : Nat} {t : SetTable} (R : TSet w h a L es ep t) (ha : ∀ o, h.get? a = some o → h'.get? a = some o) (hk : ∀ p ∈ L, NK h' p.2 p.1) : TSet w h' a L es ep t := by
  obtain ⟨o, ho, r⟩ := R.obj
  exact ⟨⟨o, ha o ho, r⟩, R.vals, R.ris, R.dum, R.size, R.mask, hk, R.plain, R.led, R.room⟩
/-- a new set's object -/
abbrev newSetO (w : World) : Obj := { cls := .type "set", dict := none, data := .set #[] 0 (.fresh 0 0 (!w.params.followText "set-order")) }
theorem tset_new {h : Heap} {a : Addr} (ho : h.get? a = some (newSetO w)) : TSet w h a [] #[] 0 (.fresh 0 0 (!w.params.followText "set-order")) := by
  refine ⟨⟨_, ho, ⟨rfl, rfl, rfl⟩, rfl⟩, rfl, List.Pairwise.nil, rfl, rfl, .inl rfl, fun p hp => (by cases hp), rfl, ?_, by show 0 * 5 < 7 * 3; decide⟩
  show _ ∨ (!w.params.followText "set-order") = true
  cases w.params.followText "set-order"
  · exact .inr rfl
  · exact .inl rfl
/-- the loop that puts the items in -/
theorem put_all {I : Addr} {fp wr : List Addr} {G : Array GenState → Array GenState → Prop} {n : Nat} {Pv : Nat → Value → Prop} {St : Nat → Shared → Prop} {R : Result → Shared → Prop} (W : WalksS P w A.in1 I fp wr G n Pv St) (S : Addr) (hSf : S ∉ fp)
    (ks : List (Addr × NestedKey)) (hn : n = ks.length) (few : ks.length ≤ 100) (hval : ∀ i v, Pv i v → ∃ p, ks[i]? = some p ∧ v = .ref p.1) (h0 : Heap) (hk : ∀ p ∈ ks, NK h0 p.2 p.1) (hS0 : h0.get? S = none) (hw0 : ∀ b ∈ wr, h0.get? b = none) (hu : A.in1.units + 8 < cLine) :
    ∀ (k i : Nat) (s : Shared), n - i = k → i ≤ n → St i s → (∀ b o, h0.get? b = some o → s.heap.get? b = some o) → (∃ L es ep t, TSet w s.heap S L es ep t ∧ Kept ks i L) →
      (∀ s' L es ep t, Moved (S :: wr) G s s' → TSet w s'.heap S L es ep t → Kept ks n L → (∀ b o, h0.get? b = some o → s'.heap.get? b = some o) → R (.ok (.ret .none)) s') →
      codeAny (model P w) A (.builtin "set.update.loop" ⟨[.ref S, .ref I], []⟩) R s := by
  have nSw : S ∉ wr := fun z => hSf (W.sub _ z)
  have up : ∀ b ∈ wr, b ∈ S :: wr := fun b z => List.mem_cons_of_mem _ z
  have keep : ∀ {s s' : Shared}, Moved wr G s s' → (∀ b o, h0.get? b = some o → s.heap.get? b = some o) → ∀ b o, h0.get? b = some o → s'.heap.get? b = some o := fun m q b o e =>
    m.heap b o (fun z => by rw [hw0 b z] at e; cases e) (q b o e)
  intro k
  induction k with
  | zero =>
    intro i s hk0 hi hst old ⟨L, es, ep, t, hS, g⟩ hR
    obtain rfl : i = n := by omega
    refine codeAny_builtin F.entry_set_update_loop ?_
    rw [Around.under_plainId F.plain_set_update_loop _]
    show wpAny _ A.in1 (pyNext (.ref I) >>= _) _ _ s
    refine wpAny_bind (W.done s _ _ hst fun s' m => ?_)
    show wpAny _ A.in1 (ret Value.none) _ _ s'
    have old' := keep m old
    exact wpAny_pure (hR s' L es ep t (m.mono up) (hS.old (fun o e => m.heap S o nSw e) fun p hp => (hk p (List.mem_of_mem_take (g.sub p hp))).old old') g old')
  | succ k ih =>
    intro i s hk0 hi hst old ⟨L, es, ep, t, hS, g⟩ hR
    have lt : i < n := by omega
    refine codeAny_builtin F.entry_set_update_loop ?_
    rw [Around.under_plainId F.plain_set_update_loop _]
    show wpAny _ A.in1 (pyNext (.ref I) >>= _) _ _ s
    refine wpAny_bind (W.item i s _ _ lt hst fun v s' hP hst' m => ?_)
    obtain ⟨p, hp, rfl⟩ := hval i v hP
    have old' := keep m old
    have hS' : TSet w s'.heap S L es ep t := hS.old (fun o e => m.heap S o nSw e) fun q hq => (hk q (List.mem_of_mem_take (g.sub q hq))).old old'
    have hx : NK s'.heap p.2 p.1 := (hk p (List.mem_of_getElem? hp)).old old'
    show wpAny _ A.in1 (holding [Value.ref p.1] (setAdd S (.ref p.1)) >>= _) _ _ s'
    refine wpAny_bind (wpAny_holding ?_)
    unfold setAdd
    refine wpAny_holding (wpAny_bind ((nestedKind P w).pyHash hu ⟨hx.is, hx.dep⟩ ?_))
    refine put_in (s := { s' with toks := s'.toks + (nestedKind P w).draws p.2 }) hS' hx hu (by have := g.len; omega) _ fun b h' L' es' ep' t' sb hS2 c => ?_
    have g' := g.next hp c
    have old2 : ∀ b o, h0.get? b = some o → h'.get? b = some o := fun b o e => (sb.2 b (fun z => by rw [z, hS0] at e; cases e)).trans (old' b o e)
    refine wpAny_pure ⟨plainId_quiet F.plain_set_update_loop _, ih (i + 1) _ (by omega) lt (W.frame _ s' _ _ hst' (Nat.le_add_right _ _) fun b hb o e => ?_) old2 ⟨L', es', ep', t', hS2, g'⟩ fun s'' L2 es2 ep2 t2 m2 hS'' g'' old3 => ?_⟩
    · rw [sb.2 b (fun z : b = S => hSf (by rw [← z]; exact hb))]
      exact e
    · refine hR s'' L2 es2 ep2 t2 (Moved.trans W.gtrans ((m.mono up).then_heap (Nat.le_add_right _ _) fun b o hb e => ?_) m2) hS'' g'' old3
      rw [sb.2 b (fun z : b = S => hb (by rw [z]; exact List.mem_cons_self))]
      exact e
end
end K16
namespace K16
open PySem PySem.Spec PyProof.Rows L2
section
variable {P : Program} {w : World} {A : Around} {E : Value → Shared → Prop} {s : Shared}
/-- set(xs), xs a list of such keys -/
theorem make_set_list {l : Addr} {items : Array Value} (ks : List (Addr × NestedKey)) {Q : Value → Shared → Prop} (hh : A.handled = none) (hl : s.heap.IsList l items) (hit : items.toList = ks.map fun p => Value.ref p.1)
    (hk : ∀ p ∈ ks, NK s.heap p.2 p.1) (few : ks.length ≤ 100) (hu : A.units + 16 < cLine)
    (q : ∀ (h' : Heap) (tk : Nat) L es ep t, TSet w h' s.heap.objs.size L es ep t → Kept ks ks.length L → (∀ b o, s.heap.get? b = some o → h'.get? b = some o) → Q (.ref s.heap.objs.size) { s with heap := h', toks := tk }) :
    wpAny (model P w) A (call (.type "set") [.ref l]) Q E s := by
  have hsz : items.size = ks.length := by
    rw [← Array.length_toList, hit, List.length_map]
  obtain ⟨c, tl, hmro⟩ := F.called_set.mro
  have hmade := F.called_set.made
  have hsub := F.called_set.sub
  refine wpAny_call (codeAny_of_tree ?_)
  show wpAny _ _ (callAny (.type "set") _) _ _ _
  refine wpAny_pure ⟨Code.quiet_builtin _ (by decide +kernel), codeAny_builtin F.entry_type_call ?_⟩
  rw [Around.under_plain (weight_type_call_type "set" [.ref l] []) rfl]
  have f1 := F.called_set.notType
  have f2 := F.called_set.canCreate
  have f3 := F.typeCall_set_1 (.ref l)
  repeat (any_goals (first | assumption | wp_step))

  refine codeAny_mono (code_set_led1 (.ref l) (E := E) (Q₁ := fun obj s₁ => obj = .ref s.heap.objs.size ∧ s₁ = { s with heap := s.heap.push (newSetO w) }) ⟨rfl, rfl⟩) fun r s₁ hr => ?_
  cases r with
  | error e => exact hr
  | ok fl =>
    cases fl with
    | ret obj =>
      obtain ⟨rfl, rfl⟩ := hr
      have hS : (s.heap.push (newSetO w)).get? s.heap.objs.size = some (newSetO w) := Heap.get?_push_size _ rfl
      have hT : Shared.TypeIs { s with heap := s.heap.push (newSetO w) } (.ref s.heap.objs.size) "set" := ⟨_, hS, rfl⟩
      have g1 := F.called_set.init.lookup
      have g2 := F.called_set.init.bind (.ref s.heap.objs.size)
      repeat (any_goals (first | assumption | wp_step))

      refine codeAny_mono (codeAny_call_builtin (R := wants (fun r s₂ => r = .none ∧ ∃ h' tk L es ep t, s₂ = { s with heap := h', toks := tk } ∧ TSet w h' s.heap.objs.size L es ep t ∧ Kept ks ks.length L ∧
          (∀ b o, s.heap.get? b = some o → h'.get? b = some o)) E) F.called_set.init.plain F.entry_set_init (check_set_init_1 hT ?_)) fun r₂ s₂ hr₂ => ?_
      · have lt : l < s.heap.objs.size := (let ⟨_, e, _⟩ := hl; Heap.lt_size e)
        have hz1 : (s.heap.push (newSetO w)).objs.size = s.heap.objs.size + 1 := Heap.size_push ..
        have nI : l ≠ (s.heap.push (newSetO w)).objs.size := fun z => by
          rw [z, hz1] at lt
          exact Nat.not_lt.mpr (Nat.le_succ _) lt
        have hl1 : (s.heap.push (newSetO w)).IsList l items := (let ⟨o, e, r⟩ := hl; ⟨o, Heap.get?_push_of_some _ e, r⟩)
        obtain ⟨ol, hol, hcl, nl, hdl⟩ := id hl1
        obtain ⟨ocls, odict, odata, oslots⟩ := ol
        simp only at hcl hdl
        subst hcl
        subst hdl
        have k1 := F.sub_list_set
        have k2 := F.sub_list_frozenset
        have k3 : (Value.type "list" == Value.type "dict") = false := by decide
        unfold Builtin.«set.__init__» noKeywords Builtin.Frozenset.updateFrom
        generalize hPI : pyIter = PI
        wp_walk
        subst hPI

        refine wpAny_pyIter_list hl1 ?_
        refine wpAny_bind (wpAny_runValue ?_)
        have hh3 : A.in1.in1.in1.handled = none := by simp [hh]
        have nS : s.heap.objs.size ∉ [(s.heap.push (newSetO w)).objs.size, l] := by
          intro z
          rcases List.mem_cons.mp z with z | z
          · rw [hz1] at z
            exact Nat.ne_of_lt (Nat.lt_succ_self _) z
          · exact Nat.ne_of_gt lt (List.mem_singleton.mp z)
        have hval : ∀ (i : Nat) (v : Value), items[i]? = some v → ∃ p, ks[i]? = some p ∧ v = .ref p.1 := fun i v hv => by
          have e : items.toList[i]? = some v := by rw [Array.getElem?_toList]; exact hv
          rw [hit, List.getElem?_map] at e
          cases z : ks[i]? with
          | none => rw [z] at e; cases e
          | some p => rw [z] at e; exact ⟨p, rfl, (Option.some.inj e).symm⟩
        have out : ∀ b, s.heap.objs.size ≤ b → s.heap.get? b = none := fun b hb => by
          cases z : s.heap.get? b with
          | none => rfl
          | some o => exact absurd (Heap.lt_size z) (Nat.not_lt.mpr hb)
        refine put_all ((Walks.list hh3 _ l nI items).toS) s.heap.objs.size nS ks hsz few hval s.heap hk (out _ (Nat.le_refl _)) (fun b hb => out b (by rw [List.mem_singleton.mp hb, hz1]; exact Nat.le_succ _)) (by show A.units + 1 + 1 + 1 + 8 < cLine; omega) (items.size - 0) 0 _ (by omega) (Nat.zero_le _)
          ⟨⟨_, Heap.get?_push_size _ rfl, rfl, rfl⟩, (let ⟨o, e, r⟩ := hl1; ⟨o, Heap.get?_push_of_some _ e, r⟩)⟩ (fun b o e => Heap.get?_push_of_some _ (Heap.get?_push_of_some _ e)) ?start ?fin
        case start =>
          exact ⟨[], #[], 0, _, tset_new (Heap.get?_push_of_some _ hS), Kept.start ks⟩
        case fin =>
          intro s' L es ep t m hS' g' old
          obtain ⟨h', gg, d', tk', os'⟩ := s'
          obtain rfl : gg = s.gens := m.gens
          obtain rfl : d' = s.drawn := m.drawn
          obtain rfl : os' = s.os := m.os
          show wpAny _ _ _ _ _ _
          refine wpAny_pure ?_
          show wpAny _ _ (ret Value.none) _ _ _
          rw [hsz] at g'
          exact wpAny_pure ⟨rfl, h', tk', L, es, ep, t, rfl, hS', g', old⟩

      · cases r₂ with
        | error e => exact hr₂
        | ok fl₂ =>
          cases fl₂ with
          | ret r =>
            obtain ⟨rfl, h', tk, L, es, ep, t, rfl, hS', g', old⟩ := hr₂
            repeat (any_goals (first | assumption | wp_step))
            exact q _ _ _ _ _ _ hS' g' old
          | _ => exact hr₂.elim
    | _ => exact hr.elim
/-- set(xs), xs a tuple of such keys -/
theorem make_set_tuple {l : Addr} {items : Array Value} (ks : List (Addr × NestedKey)) {Q : Value → Shared → Prop} (hh : A.handled = none) (hl : s.heap.IsTuple l items) (hit : items.toList = ks.map fun p => Value.ref p.1)
    (hk : ∀ p ∈ ks, NK s.heap p.2 p.1) (few : ks.length ≤ 100) (hu : A.units + 16 < cLine)
    (q : ∀ (h' : Heap) (tk : Nat) L es ep t, TSet w h' s.heap.objs.size L es ep t → Kept ks ks.length L → (∀ b o, s.heap.get? b = some o → h'.get? b = some o) → Q (.ref s.heap.objs.size) { s with heap := h', toks := tk }) :
    wpAny (model P w) A (call (.type "set") [.ref l]) Q E s := by
  have hsz : items.size = ks.length := by
    rw [← Array.length_toList, hit, List.length_map]
  obtain ⟨c, tl, hmro⟩ := F.called_set.mro
  have hmade := F.called_set.made
  have hsub := F.called_set.sub
  refine wpAny_call (codeAny_of_tree ?_)
  show wpAny _ _ (callAny (.type "set") _) _ _ _
  refine wpAny_pure ⟨Code.quiet_builtin _ (by decide +kernel), codeAny_builtin F.entry_type_call ?_⟩
  rw [Around.under_plain (weight_type_call_type "set" [.ref l] []) rfl]
  have f1 := F.called_set.notType
  have f2 := F.called_set.canCreate
  have f3 := F.typeCall_set_1 (.ref l)
  repeat (any_goals (first | assumption | wp_step))

  refine codeAny_mono (code_set_led1 (.ref l) (E := E) (Q₁ := fun obj s₁ => obj = .ref s.heap.objs.size ∧ s₁ = { s with heap := s.heap.push (newSetO w) }) ⟨rfl, rfl⟩) fun r s₁ hr => ?_
  cases r with
  | error e => exact hr
  | ok fl =>
    cases fl with
    | ret obj =>
      obtain ⟨rfl, rfl⟩ := hr
      have hS : (s.heap.push (newSetO w)).get? s.heap.objs.size = some (newSetO w) := Heap.get?_push_size _ rfl
      have hT : Shared.TypeIs { s with heap := s.heap.push (newSetO w) } (.ref s.heap.objs.size) "set" := ⟨_, hS, rfl⟩
      have g1 := F.called_set.init.lookup
      have g2 := F.called_set.init.bind (.ref s.heap.objs.size)
      repeat (any_goals (first | assumption | wp_step))

      refine codeAny_mono (codeAny_call_builtin (R := wants (fun r s₂ => r = .none ∧ ∃ h' tk L es ep t, s₂ = { s with heap := h', toks := tk } ∧ TSet w h' s.heap.objs.size L es ep t ∧ Kept ks ks.length L ∧
          (∀ b o, s.heap.get? b = some o → h'.get? b = some o)) E) F.called_set.init.plain F.entry_set_init (check_set_init_1 hT ?_)) fun r₂ s₂ hr₂ => ?_
      · have lt : l < s.heap.objs.size := (let ⟨_, e, _⟩ := hl; Heap.lt_size e)
        have hz1 : (s.heap.push (newSetO w)).objs.size = s.heap.objs.size + 1 := Heap.size_push ..
        have nI : l ≠ (s.heap.push (newSetO w)).objs.size := fun z => by
          rw [z, hz1] at lt
          exact Nat.not_lt.mpr (Nat.le_succ _) lt
        have hl1 : (s.heap.push (newSetO w)).IsTuple l items := (let ⟨o, e, r⟩ := hl; ⟨o, Heap.get?_push_of_some _ e, r⟩)
        obtain ⟨ol, hol, hcl, nl, hdl⟩ := id hl1
        obtain ⟨ocls, odict, odata, oslots⟩ := ol
        simp only at hcl hdl
        subst hcl
        subst hdl
        have k1 := F.sub_tuple_set
        have k2 := F.sub_tuple_frozenset
        have k3 : (Value.type "tuple" == Value.type "dict") = false := by decide
        unfold Builtin.«set.__init__» noKeywords Builtin.Frozenset.updateFrom
        generalize hPI : pyIter = PI
        wp_walk
        subst hPI

        refine wpAny_pyIter_tuple hl1 ?_
        refine wpAny_bind (wpAny_runValue ?_)
        have hh3 : A.in1.in1.in1.handled = none := by simp [hh]
        have nS : s.heap.objs.size ∉ [(s.heap.push (newSetO w)).objs.size, l] := by
          intro z
          rcases List.mem_cons.mp z with z | z
          · rw [hz1] at z
            exact Nat.ne_of_lt (Nat.lt_succ_self _) z
          · exact Nat.ne_of_gt lt (List.mem_singleton.mp z)
        have hval : ∀ (i : Nat) (v : Value), items[i]? = some v → ∃ p, ks[i]? = some p ∧ v = .ref p.1 := fun i v hv => by
          have e : items.toList[i]? = some v := by rw [Array.getElem?_toList]; exact hv
          rw [hit, List.getElem?_map] at e
          cases z : ks[i]? with
          | none => rw [z] at e; cases e
          | some p => rw [z] at e; exact ⟨p, rfl, (Option.some.inj e).symm⟩
        have out : ∀ b, s.heap.objs.size ≤ b → s.heap.get? b = none := fun b hb => by
          cases z : s.heap.get? b with
          | none => rfl
          | some o => exact absurd (Heap.lt_size z) (Nat.not_lt.mpr hb)
        refine put_all ((Walks.tuple hh3 _ l nI items).toS) s.heap.objs.size nS ks hsz few hval s.heap hk (out _ (Nat.le_refl _)) (fun b hb => out b (by rw [List.mem_singleton.mp hb, hz1]; exact Nat.le_succ _)) (by show A.units + 1 + 1 + 1 + 8 < cLine; omega) (items.size - 0) 0 _ (by omega) (Nat.zero_le _)
          ⟨⟨_, Heap.get?_push_size _ rfl, rfl, rfl⟩, (let ⟨o, e, r⟩ := hl1; ⟨o, Heap.get?_push_of_some _ e, r⟩)⟩ (fun b o e => Heap.get?_push_of_some _ (Heap.get?_push_of_some _ e)) ?start ?fin
        case start =>
          exact ⟨[], #[], 0, _, tset_new (Heap.get?_push_of_some _ hS), Kept.start ks⟩
        case fin =>
          intro s' L es ep t m hS' g' old
          obtain ⟨h', gg, d', tk', os'⟩ := s'
          obtain rfl : gg = s.gens := m.gens
          obtain rfl : d' = s.drawn := m.drawn
          obtain rfl : os' = s.os := m.os
          show wpAny _ _ _ _ _ _
          refine wpAny_pure ?_
          show wpAny _ _ (ret Value.none) _ _ _
          rw [hsz] at g'
          exact wpAny_pure ⟨rfl, h', tk', L, es, ep, t, rfl, hS', g', old⟩

      · cases r₂ with
        | error e => exact hr₂
        | ok fl₂ =>
          cases fl₂ with
          | ret r =>
            obtain ⟨rfl, h', tk, L, es, ep, t, rfl, hS', g', old⟩ := hr₂
            repeat (any_goals (first | assumption | wp_step))
            exact q _ _ _ _ _ _ hS' g' old
          | _ => exact hr₂.elim
    | _ => exact hr.elim
end
end K16
namespace K16
open PySem PySem.Spec PyProof.Rows L2
open PySem.W (EachIs AllAlike Sortable dataLe alike alikeAll)
/-! ### markings as keys: bare, or with no words -/
structure Knd where
  here : Heap → Addr → List Int → Prop
  key : List Int → NestedKey
  enc : List Int → PyData
  mono : ∀ {h h' : Heap} {a : Addr} {m : List Int}, (∀ b o, h.get? b = some o → h'.get? b = some o) → here h a m → here h' a m
  nk : ∀ {h : Heap} {a : Addr} {m : List Int}, here h a m → NK h (key m) a
  rd : ∀ {h : Heap} {a : Addr} {m : List Int}, here h a m → Reads h (.ref a) (enc m) []
  inj : ∀ {m m' : List Int}, key m = key m' → m = m'
  low : ∀ m, (enc m).depth ≤ 8
  like : ∀ m m', alike (enc m) (enc m') = true
inductive AsInts : List Value → List Int → Prop
  | nil : AsInts [] []
  | cons (i : Int) (t : Tok) {vs : List Value} {is : List Int} : AsInts vs is → AsInts (.int i t :: vs) (i :: is)
def kM (m : List Int) : NestedKey := .tup (m.map .num)
def dM (m : List Int) : PyData := .tuple (m.map .int)
def hereM (h : Heap) (a : Addr) (m : List Int) : Prop := ∃ o vs n, h.get? a = some o ∧ o.cls = .type "tuple" ∧ o.data = .seq vs n ∧ AsInts vs.toList m
theorem AsInts.nested {h : Heap} : ∀ {vs : List Value} {is : List Int}, AsInts vs is → NestedAll h (is.map .num) vs
  | _, _, .nil => .nil
  | _, _, .cons i t r => .cons (.int i t) (AsInts.nested r)
theorem AsInts.reads {h : Heap} : ∀ {vs : List Value} {is : List Int}, AsInts vs is → ReadsAll h vs (is.map .int) []
  | _, _, .nil => .nil
  | _, _, .cons i t r => .cons (as := []) (bs := []) (.int i t) (AsInts.reads r)
theorem num_inj : ∀ {m m' : List Int}, m.map NestedKey.num = m'.map NestedKey.num → m = m'
  | [], [], _ => rfl
  | [], _ :: _, h => by cases h
  | _ :: _, [], h => by cases h
  | a :: m, b :: m', h => by
    rw [List.map_cons, List.map_cons] at h
    injection h with h1 h2
    injection h1 with h1
    rw [h1, num_inj h2]
theorem depth_nums : ∀ m : List Int, NestedKey.depthAll (m.map .num) = 0
  | [] => rfl
  | i :: m => by
    show max (NestedKey.depth (.num i)) (NestedKey.depthAll (m.map .num)) = 0
    rw [depth_nums m]
    rfl
theorem numK_M (m : List Int) : NumK (kM m) := .tup fun k hk => by
  obtain ⟨i, _, rfl⟩ := List.mem_map.mp hk
  exact .num i
theorem dM_low (m : List Int) : (dM m).depth ≤ 8 := by
  have e : PyData.depthAll (m.map .int) = 0 := PySem.W.depth_ints m
  show (PyData.tuple (m.map .int)).depth ≤ 8
  rw [PyData.depth, e]
  omega
theorem kM_low (m : List Int) : (kM m).depth = 1 := by
  show (NestedKey.tup (m.map .num)).depth = 1
  rw [NestedKey.depth, depth_nums]
def kndM : Knd where
  here := hereM
  key := kM
  enc := dM
  mono := fun q ⟨o, vs, n, h1, h2⟩ => ⟨o, vs, n, q _ _ h1, h2⟩
  nk := fun {h a m} ⟨o, vs, n, h1, h2, h3, h4⟩ => ⟨.tup h1 h2 h3 h4.nested, by rw [kM_low]; decide, numK_M m⟩
  rd := fun ⟨o, vs, n, h1, h2, h3, h4⟩ => .tuple h1 h2 h3 h4.reads
  inj := fun {m m'} e => by
    injection e with e
    exact num_inj e
  low := dM_low
  like := fun m m' => by
    show alike (.tuple (m.map .int)) (.tuple (m'.map .int)) = true
    rw [alike]
    exact PySem.W.alike_ints m m'
def kC (m : List Int) : NestedKey := .tup [kM m, .tup []]
def dC (m : List Int) : PyData := .tuple [dM m, .tuple []]
def hereC (h : Heap) (a : Addr) (m : List Int) : Prop := ∃ o n b e, h.get? a = some o ∧ o.cls = .type "tuple" ∧ o.data = .seq #[.ref b, .ref e] n ∧ hereM h b m ∧ hereM h e []
def kndC : Knd where
  here := hereC
  key := kC
  enc := dC
  mono := fun q ⟨o, n, b, e, h1, h2, h3, h4, h5⟩ => ⟨o, n, b, e, q _ _ h1, h2, h3, kndM.mono q h4, kndM.mono q h5⟩
  nk := fun {h a m} ⟨o, n, b, e, h1, h2, h3, h4, h5⟩ => by
    refine ⟨.tup h1 h2 h3 (.cons (kndM.nk h4).is (.cons (kndM.nk h5).is .nil)), ?_, .tup fun k hk => ?_⟩
    · show (NestedKey.tup [kM m, kM []]).depth ≤ 8
      rw [NestedKey.depth, NestedKey.depthAll, NestedKey.depthAll, NestedKey.depthAll, kM_low, kM_low]
      decide
    · rcases List.mem_cons.mp hk with z | z
      · rw [z]; exact numK_M m
      · rw [List.mem_singleton.mp z]; exact numK_M []
  rd := fun {h a m} ⟨o, n, b, e, h1, h2, h3, h4, h5⟩ => .tuple h1 h2 h3 (.cons (as := []) (bs := []) (kndM.rd h4) (.cons (as := []) (bs := []) (kndM.rd h5) .nil))
  inj := fun {m m'} e => by
    injection e with e
    injection e with e _
    exact kndM.inj e
  low := fun m => by
    have a : (dM m).depth ≤ 1 := by
      show (PyData.tuple (m.map .int)).depth ≤ 1
      rw [PyData.depth, show PyData.depthAll (m.map .int) = 0 from PySem.W.depth_ints m]
      omega
    show (PyData.tuple [dM m, .tuple []]).depth ≤ 8
    simp only [PyData.depth, PyData.depthAll]
    omega
  like := fun m m' => by
    show alike (.tuple [dM m, .tuple []]) (.tuple [dM m', .tuple []]) = true
    simp only [alike, alikeAll, Bool.and_true]
    exact kndM.like m m'
end K16
namespace K16
open PySem PySem.Spec PyProof.Rows L2
open PySem.W (EachIs AllAlike Sortable dataLe)
theorem perm_lift {α β : Type} (f : α → β) {l1 l2 : List β} (h : l1.Perm l2) : ∀ L : List α, l2 = L.map f → ∃ L1 : List α, L1.Perm L ∧ l1 = L1.map f := by
  induction h with
  | nil =>
    intro L e
    exact ⟨L, List.Perm.refl _, e⟩
  | cons x _ ih =>
    intro L e
    cases L with
    | nil => cases e
    | cons a L =>
      rw [List.map_cons] at e
      injection e with e1 e2
      obtain ⟨L1, p, q⟩ := ih L e2
      exact ⟨a :: L1, p.cons a, by rw [List.map_cons, e1, q]⟩
  | swap x y l =>
    intro L e
    cases L with
    | nil => cases e
    | cons a L =>
      cases L with
      | nil => cases e
      | cons b L =>
        rw [List.map_cons, List.map_cons] at e
        injection e with e1 e2
        injection e2 with e2 e3
        exact ⟨b :: a :: L, List.Perm.swap _ _ _, by rw [List.map_cons, List.map_cons, e1, e2, e3]⟩
  | trans _ _ ih1 ih2 =>
    intro L e
    obtain ⟨L2, p2, q2⟩ := ih2 L e
    obtain ⟨L1, p1, q1⟩ := ih1 L2 q2
    exact ⟨L1, p1.trans p2, q1⟩
theorem each_refs {α : Type} : ∀ bs : List (Addr × α), EachIs (fun v (b : Addr × α) => v = Value.ref b.1) (bs.map fun b => Value.ref b.1) bs
  | [] => .nil
  | b :: bs => .cons rfl (each_refs bs)
theorem refs_each {α : Type} : ∀ {vs : List Value} {bs : List (Addr × α)}, EachIs (fun v (b : Addr × α) => v = Value.ref b.1) vs bs → vs = bs.map fun b => Value.ref b.1
  | _, _, .nil => rfl
  | _, _, .cons h t => by rw [List.map_cons, h, refs_each t]
theorem each_of {α : Type} {R : Value → Addr × α → Prop} : ∀ {bs : List (Addr × α)}, (∀ b ∈ bs, R (.ref b.1) b) → EachIs R (bs.map fun b => Value.ref b.1) bs
  | [], _ => .nil
  | b :: bs, h => .cons (h b List.mem_cons_self) (each_of fun c hc => h c (List.mem_cons_of_mem _ hc))
abbrev keyed (kd : Knd) (L : List (Addr × List Int)) : List (Addr × NestedKey) := L.map fun p => (p.1, kd.key p.2)
theorem keyed_refs (kd : Knd) (L : List (Addr × List Int)) : (keyed kd L).map (fun p => Value.ref p.1) = L.map fun p => Value.ref p.1 := by
  rw [List.map_map]
  rfl
section
variable {P : Program} {w : World} {A : Around} {E : Value → Shared → Prop} {s : Shared}
/-- sorted of such a set -/
theorem sort_set {kd : Knd} {a : Addr} {L : List (Addr × List Int)} {es : Array (Int × Value)} {ep : Nat} {t : SetTable} (R : TSet w s.heap a (keyed kd L) es ep t) (hh : A.handled = none) (few : L.length ≤ 100) (here : ∀ p ∈ L, kd.here s.heap p.1 p.2)
    (srt : Sortable (L.map fun p => kd.enc p.2)) (hu : A.units + 16 < cLine) {Q : Value → Shared → Prop}
    (hQ : ∀ s' p (L' : List (Addr × List Int)) (c : Nat), (∀ b o, s.heap.get? b = some o → s'.heap.get? b = some o) → s'.gens = s.gens → s'.os = s.os → s.heap.objs.size ≤ p → s'.heap.get? p = some (seqObj "list" (L'.map fun q => Value.ref q.1).toArray c) →
      L'.Perm L → (∃ L1 : List (Addr × List Int), L1.Perm L ∧ L' = L1.mergeSort (dataLe false fun q => kd.enc q.2)) → Q (.ref p) s') :
    wpAny (model P w) A (call (.builtin "sorted") [.ref a]) Q E s := by
  obtain ⟨o, ho, hex, hd⟩ := R.obj
  have sl := vals_len R.vals
  rw [List.length_map] at sl
  refine Calls.call_function_entry kind_sorted plain_sorted entry_sorted (args_sorted1 _) ?_
  unfold Builtin.«sorted»
  refine wpAny_bind (m := checkCount "sorted" 1 1 _) (wpAny_pure ?_)
  refine wpAny_bind (collect_set (A := A.in1) hh ⟨o, ho, hex.1, hd⟩ R.fit (by unfold scanBound; omega) R.ris R.led fun s1 vs k1 z1 g1 o1 pm => ?_)
  rw [R.vals, keyed_refs] at pm
  obtain ⟨bs, pb, eb⟩ := perm_lift (fun p : Addr × List Int => Value.ref p.1) pm L rfl
  subst eb
  have lb : bs.length = L.length := pb.length_eq
  refine wpAny_bind (wpAny_newList ?_ (by rw [List.length_map, sizeLine_eq]; omega))
  have hoL : (s1.heap.push (seqObj "list" (bs.map fun p => Value.ref p.1).toArray 0)).get? s1.heap.objs.size = some (seqObj "list" (bs.map fun p => Value.ref p.1).toArray 0) := Heap.get?_push_size _ rfl
  have here1 : ∀ p ∈ bs, kd.here (s1.heap.push (seqObj "list" (bs.map fun p => Value.ref p.1).toArray 0)) p.1 p.2 := fun p hp => kd.mono (fun b o e => Heap.get?_push_of_some _ (k1 b o e)) (here p (pb.mem_iff.mp hp))
  refine wpAny_bind (wpAny_holding (PySem.W.list_sort_data (s := { s1 with heap := s1.heap.push (seqObj "list" (bs.map fun p => Value.ref p.1).toArray 0) }) (bs := bs) (enc := fun p => kd.enc p.2) hoL (each_refs bs) (each_of fun p hp => ⟨[], kd.rd (here1 p hp), List.not_mem_nil⟩) ?_ ?_ (by rw [lb, sizeLine_eq]; omega) (fun p _ => ?_) fun out _ eo => ?_))
  · intro d hd d' hd'
    obtain ⟨p, _, rfl⟩ := List.mem_map.mp hd
    obtain ⟨p', _, rfl⟩ := List.mem_map.mp hd'
    exact kd.like _ _
  · have pe := pb.map fun p : Addr × List Int => kd.enc p.2
    rcases srt with h | h
    · exact .inl fun d hd => h d (pe.mem_iff.mp hd)
    · exact .inr fun d hd => h d (pe.mem_iff.mp hd)
  · have := kd.low p.2
    show A.units + 1 + 1 + _ < cLine
    omega
  have eo' := refs_each eo
  subst eo'
  obtain ⟨c, hc⟩ := sortedHeap_at (vs := bs.map fun p => Value.ref p.1) (out := ((bs.mergeSort (dataLe false fun p => kd.enc p.2)).map fun b => Value.ref b.1).toArray) hoL
  refine wpAny_pure ⟨_, rfl, hQ _ s1.heap.objs.size (bs.mergeSort (dataLe false fun p => kd.enc p.2)) c (fun b u e => ?_) g1 o1 z1 hc ((List.mergeSort_perm _ _).trans pb) ⟨bs, pb, rfl⟩⟩
  have q := k1 b u e
  have lt := Heap.lt_size q
  show (sortedHeap (s1.heap.push _) s1.heap.objs.size _ _).get? b = some u
  rw [sortedHeap_old (Nat.ne_of_lt lt) (by rw [size_push']; exact Nat.lt_succ_of_lt lt)]
  exact Heap.get?_push_of_some _ q
end
end K16
namespace K16
open PySem PySem.Spec PyProof.Rows L2
open PySem.W (EachIs AllAlike Sortable dataLe)
/-- the set at a, without the tuples themselves -/
def TS0 (w : World) (h : Heap) (a : Addr) (L : List (Addr × NestedKey)) : Prop := ∃ (es : Array (Int × Value)) (ep : Nat) (t : SetTable), (∃ o, h.get? a = some o ∧ o.ExactSet ∧ o.data = .set es ep t) ∧ es.toList.map (·.2) = L.map (fun p => Value.ref p.1) ∧
  Ris t.place.toList ∧ t.dummies = #[] ∧ t.place.size = es.size ∧ Mok t.mask ∧ t.plain = true ∧ (w.params.followText "set-order" = true ∨ t.led = true) ∧ L.length * 5 < t.mask * 3
def SetK (w : World) (a : Addr) (L : List (Addr × NestedKey)) : HO := .ext fun h => TS0 w h a L
theorem TSet.bare {w : World} {h : Heap} {a : Addr} {L : List (Addr × NestedKey)} {es : Array (Int × Value)} {ep : Nat} {t : SetTable} (R : TSet w h a L es ep t) : TS0 w h a L := ⟨es, ep, t, R.obj, R.vals, R.ris, R.dum, R.size, R.mask, R.plain, R.led, R.room⟩
theorem TS0.whole {w : World} {h : Heap} {a : Addr} {L : List (Addr × NestedKey)} (R : TS0 w h a L) (hk : ∀ p ∈ L, NK h p.2 p.1) : ∃ es ep t, TSet w h a L es ep t := by
  obtain ⟨es, ep, t, h1, h2, h3, h4, h5, h6, h7, h8, h9⟩ := R
  exact ⟨es, ep, t, h1, h2, h3, h4, h5, h6, hk, h7, h8, h9⟩
theorem setK_ok {P : Program} {w : World} {H : Hp} {h : Heap} {a : Addr} {L : List (Addr × NestedKey)} (R : TS0 w h a L) : ObjOk P w H h a (SetK w a L) := by
  obtain ⟨es, ep, t, ⟨o, ho, r⟩, q⟩ := id R
  refine ⟨R, ⟨o, ho⟩, fun h1 h2 p k => ?_⟩
  obtain ⟨es', ep', t', ⟨o', ho', r'⟩, q'⟩ := (show TS0 w h1 a L from p)
  exact ⟨es', ep', t', ⟨o', k o' ho', r'⟩, q'⟩
/-- how a kind is seen through the hand layer's heap -/
structure KdH (kd : Knd) (Vl : Hp → Addr → List Int → Prop) : Prop where
  see : ∀ {X : Cx} {pins : List (Addr × Obj)} {σ : L2.St} {H : Hp} {s : Shared} {a : Addr} {m : List Int}, Inv X pins σ H s → Vl H a m → kd.here s.heap a m
theorem asInts_of : ∀ {m : List Int} {us : List Value}, Vals (m.map V.int) us → AsInts us m
  | [], _, .nil => .nil
  | i :: m, _, .cons r t => by
    obtain ⟨tk, rfl⟩ := r
    exact .cons i tk (asInts_of t)
theorem see_M {X : Cx} {pins : List (Addr × Obj)} {σ : L2.St} {H : Hp} {s : Shared} {a : Addr} {m : List Int} (I : Inv X pins σ H s) (h : Tu H a m) : hereM s.heap a m := by
  obtain ⟨its, r, ⟨o, ho, hc, n, hd⟩, _⟩ := I.tuple (SqT.of h)
  exact ⟨o, its.toArray, n, ho, hc, hd, by simpa using asInts_of r⟩
theorem kdM : KdH kndM Tu := ⟨fun I h => see_M I h⟩
theorem kdC : KdH kndC Cfg := ⟨fun {X pins σ H s a m} I h => by
  obtain ⟨b, e, h1, h2, h3⟩ := h
  obtain ⟨its, r, ⟨o, ho, hc, n, hd⟩, _⟩ := I.tuple (SqT.of h1)
  cases r with
  | @cons _ u1 _ us r1 t1 =>
    cases t1 with
    | @cons _ u2 _ us2 r2 t2 =>
      cases t2
      cases r1
      cases r2
      exact ⟨o, n, b, e, ho, hc, hd, see_M I h2, see_M I (m := []) h3⟩⟩
theorem refs_vals {α : Type} : ∀ {ks : List (Addr × α)} {us : List Value}, Vals (refs ks) us → us = ks.map fun p => Value.ref p.1
  | [], _, .nil => rfl
  | p :: ks, _, .cons r t => by
    cases r
    rw [refs_vals t]
    rfl
theorem vals_refs' {α : Type} : ∀ (ks : List (Addr × α)), Vals (refs ks) (ks.map fun p => Value.ref p.1)
  | [] => .nil
  | p :: ks => .cons rfl (vals_refs' ks)
/-- what was kept, unkeyed -/
theorem unkey {kd : Knd} {ks : List (Addr × List Int)} : ∀ {L : List (Addr × NestedKey)}, (∀ p ∈ L, p ∈ keyed kd ks) → ∃ L1 : List (Addr × List Int), L = keyed kd L1 ∧ ∀ p ∈ L1, p ∈ ks
  | [], _ => ⟨[], rfl, fun p h => absurd h List.not_mem_nil⟩
  | x :: L, h => by
    obtain ⟨L1, e, hs⟩ := unkey (L := L) fun p hp => h p (List.mem_cons_of_mem _ hp)
    obtain ⟨y, hy, ey⟩ := List.mem_map.mp (h x List.mem_cons_self)
    refine ⟨y :: L1, by rw [keyed, List.map_cons, ey, ← keyed, ← e], fun p hp => ?_⟩
    rcases List.mem_cons.mp hp with z | z
    · rw [z]; exact hy
    · exact hs p z
section
variable {X : Cx}
/-- set(xs) -/
def rSetK (kd : Knd) (Vl : Hp → Addr → List Int → Prop) (K : PySem.W.Frag) (w : World) : List V → Hp → VK → Prop := fun xs H Q => ∃ (l : Addr) (ks : List (Addr × List Int)), xs = [V.ref l] ∧ (SqL K H l (refs ks) ∨ SqT K H l (refs ks)) ∧ (∀ p ∈ ks, Vl H p.1 p.2) ∧ ks.length ≤ 100 ∧
  ∀ (a : Addr) (L : List (Addr × List Int)), H a = none → (∀ p ∈ L, p ∈ ks) → (∀ p ∈ ks, p.2 ∈ L.map (·.2)) → ((ks.map (·.2)).Nodup → (L.map (·.2)).Nodup) → L.length ≤ ks.length → Q (.ref a) (upd H a (SetK w a (keyed kd L)))
theorem cr_setK {kd : Knd} {Vl : Hp → Addr → List Int → Prop} (kh : KdH kd Vl) (hc : X.calm = true) (hu : X.A.units + 64 < cLine) : CallR X (.type "set") (rSetK kd Vl X.K X.w) := by
  intro pins s σ H xs us Q I r h
  obtain ⟨l, ks, rfl, hl, hk, few, q⟩ := h
  rw [Vals.ref1 r]
  have hn : H s.heap.objs.size = none := I.hok.fresh (Nat.le_refl _)
  have keys : ∀ p ∈ keyed kd ks, NK s.heap p.2 p.1 := fun p hp => by
    obtain ⟨y, hy, rfl⟩ := List.mem_map.mp hp
    exact kd.nk (kh.see I (hk y hy))
  have fin : ∀ (h' : Heap) (tk : Nat) L es ep t, TSet X.w h' s.heap.objs.size L es ep t → Kept (keyed kd ks) (keyed kd ks).length L → (∀ b o, s.heap.get? b = some o → h'.get? b = some o) → ∃ y H', Inv X pins σ H' { s with heap := h', toks := tk } ∧ RelV y (.ref s.heap.objs.size) ∧ Q y H' := fun h' tk L es ep t R g k => by
    obtain ⟨L1, rfl, hs⟩ := unkey (kd := kd) (ks := ks) fun p hp => List.mem_of_mem_take (g.sub p hp)
    have snd : ∀ L : List (Addr × List Int), (keyed kd L).map (·.2) = (L.map (·.2)).map kd.key := fun L => by
      rw [List.map_map, List.map_map]
      rfl
    have ll : (keyed kd L1).length = L1.length := List.length_map _
    have lk : (keyed kd ks).length = ks.length := List.length_map _
    refine ⟨.ref s.heap.objs.size, upd H s.heap.objs.size (SetK X.w s.heap.objs.size (keyed kd L1)), I.laid (t' := tk) k (Nat.le_refl _) (setK_ok R.bare), rfl, q _ L1 hn hs (fun p hp => ?_) (fun nd => ?_) (by have := g.len; omega)⟩
    · have z := g.all (p.1, kd.key p.2) (by rw [List.take_length]; exact List.mem_map.mpr ⟨p, hp, rfl⟩)
      rw [snd] at z
      obtain ⟨m, hm, em⟩ := List.mem_map.mp z
      rw [← kd.inj em]
      exact hm
    · have z := g.dis (by
        rw [List.take_length, snd]
        exact List.pairwise_map.mpr (nd.imp fun ne e => ne (kd.inj e)))
      rw [snd] at z
      exact nodup_of_map z
  rcases hl with hl | hl
  · obtain ⟨its, rv, pl, hz⟩ := I.list hl
    exact make_set_list (P := X.prog) (w := X.w) (keyed kd ks) (I.ok.hd hc) pl.isList (by rw [keyed_refs]; simpa using refs_vals rv) keys (by rw [keyed, List.length_map]; exact few) (by omega) fin
  · obtain ⟨its, rv, pl, hz⟩ := I.tuple hl
    exact make_set_tuple (P := X.prog) (w := X.w) (keyed kd ks) (I.ok.hd hc) pl (by rw [keyed_refs]; simpa using refs_vals rv) keys (by rw [keyed, List.length_map]; exact few) (by omega) fin
/-- sorted(set) -/
def rSortK (kd : Knd) (Vl : Hp → Addr → List Int → Prop) (w : World) : List V → Hp → VK → Prop := fun vs H Q => ∃ (a : Addr) (L : List (Addr × List Int)), vs = [V.ref a] ∧ H a = some (SetK w a (keyed kd L)) ∧ (∀ p ∈ L, Vl H p.1 p.2) ∧ L.length ≤ 100 ∧ Sortable (L.map fun p => kd.enc p.2) ∧
  ∀ (p : Addr) (L' : List (Addr × List Int)), L'.Perm L → (∃ L1 : List (Addr × List Int), L1.Perm L ∧ L' = L1.mergeSort (dataLe false fun q => kd.enc q.2)) → H p = none → Q (.ref p) (upd H p (.lst (refs L')))
theorem cr_sortK {kd : Knd} {Vl : Hp → Addr → List Int → Prop} (kh : KdH kd Vl) (hc : X.calm = true) (hu : X.A.units + 64 < cLine) : CallR X (.builtin "sorted") (rSortK kd Vl X.w) := by
  intro pins s σ H vs us Q I r h
  obtain ⟨a, L, rfl, ha, hk, few, srt, q⟩ := h
  rw [Vals.ref1 r]
  have R0 : TS0 X.w s.heap a (keyed kd L) := (I.hok a _ ha).1
  have here : ∀ p ∈ L, kd.here s.heap p.1 p.2 := fun p hp => kh.see I (hk p hp)
  obtain ⟨es, ep, t, R⟩ := R0.whole fun p hp => by
    obtain ⟨y, hy, rfl⟩ := List.mem_map.mp hp
    exact kd.nk (here y hy)
  refine sort_set R (I.ok.hd hc) few here srt (by omega) fun s' p L' c k g o hp hg pm ms => ?_
  have hlen : (refs L').length ≤ sizeLine := by rw [len_ref, pm.length_eq, sizeLine_eq]; omega
  have hn : H p = none := I.hok.fresh hp
  have J : Inv X pins σ (upd H p (.lst (refs L'))) { s with heap := s'.heap, gens := s'.gens, drawn := s'.drawn, toks := s'.toks } :=
    I.call (ch := []) (Un.laid k hp hn) (I.hok.laid k hp ⟨hlen, L'.map (fun q => Value.ref q.1), c, vals_refs' L', hg⟩) (by rw [g]; exact I.bare) (fun _ z => nomatch z)
  have e : s' = { s with heap := s'.heap, gens := s'.gens, drawn := s'.drawn, toks := s'.toks } := by
    obtain ⟨_, _, _, _, os'⟩ := s'
    obtain ⟨_, _, _, _, os⟩ := s
    cases o
    rfl
  rw [e]
  exact ⟨.ref p, _, J, rfl, q p L' pm ms hn⟩
end
/-! ### the order -/
theorem dataLe_M : (dataLe false fun q : Addr × List Int => kndM.enc q.2) = fun p q => decide (p.2 ≤ q.2) := by
  funext p q
  show (!PySem.W.dataLt (.tuple (q.2.map .int)) (.tuple (p.2.map .int))) = _
  rw [PySem.W.dataLt_tuple]
  show (!PySem.W.rowLt (q.2.map .int) (p.2.map .int)) = _
  rw [PySem.W.dataLt_ints]
  by_cases h : q.2 < p.2
  · rw [decide_eq_true h, decide_eq_false (fun r => List.not_lt.mpr r h)]
    rfl
  · rw [decide_eq_false h, decide_eq_true (List.not_lt.mp h)]
    rfl
theorem sorted_M {L : List (Addr × List Int)} : (L.mergeSort (dataLe false fun q => kndM.enc q.2)).Pairwise fun p q => p.2 ≤ q.2 := by
  rw [dataLe_M]
  have z := List.pairwise_mergeSort (le := fun p q : Addr × List Int => decide (p.2 ≤ q.2)) (fun a b c h1 h2 => by
    rw [decide_eq_true_eq] at *
    exact List.le_trans h1 h2) (fun a b => by
    rw [Bool.or_eq_true, decide_eq_true_eq, decide_eq_true_eq]
    exact List.le_total a.2 b.2) L
  exact z.imp fun h => of_decide_eq_true h
end K16
namespace K16
open PySem L2
theorem dpAll_ints {K : PySem.W.Frag} {H : Hp} : ∀ m : List Int, DpAll K H (m.map V.int) (m.map PyData.int)
  | [] => .nil
  | i :: m => .cons (.int i) (dpAll_ints m)
theorem dp_tu {K : PySem.W.Frag} {H : Hp} {a : Addr} {m : List Int} (h : Tu H a m) : Dp K H (.ref a) (dM m) := .tup (SqT.of h) (dpAll_ints m)
theorem dpAll_tus {K : PySem.W.Frag} {H : Hp} : ∀ {ks : List (Addr × List Int)}, Tus H ks → DpAll K H (refs ks) (ks.map fun p => dM p.2)
  | [], _ => .nil
  | p :: ks, h => .cons (dp_tu (h p List.mem_cons_self)) (dpAll_tus fun q hq => h q (List.mem_cons_of_mem _ hq))
def dL (ks : List (Addr × List Int)) : PyData := .list (ks.map fun p => dM p.2)
theorem dp_list {K : PySem.W.Frag} {H : Hp} {l : Addr} {ks : List (Addr × List Int)} (hl : H l = some (.lst (refs ks))) (hk : Tus H ks) : Dp K H (.ref l) (dL ks) := .lst (SqL.of hl) (dpAll_tus hk)
theorem lay_ints : ∀ m : List Int, PyData.canLayAll0 (m.map PyData.int) = true
  | [] => by simp [PyData.canLayAll0]
  | i :: m => by simp [PyData.canLayAll0, PyData.canLay0, lay_ints m]
theorem lay_M (m : List Int) : (dM m).canLay0 = true := by
  have := lay_ints m
  simp [dM, PyData.canLay0, this]
theorem dM_deep (m : List Int) : (dM m).depth = 1 := by
  show (PyData.tuple (m.map .int)).depth = 1
  rw [PyData.depth, show PyData.depthAll (m.map .int) = 0 from PySem.W.depth_ints m]
theorem shaped_M (m : List Int) : SeqAt.shaped (dM m) = true := by
  unfold SeqAt.shaped
  rw [lay_M, dM_deep]
  rfl
theorem lay_all : ∀ ks : List (Addr × List Int), PyData.canLayAll0 (ks.map fun p => dM p.2) = true
  | [] => by simp [PyData.canLayAll0]
  | p :: ks => by simp [PyData.canLayAll0, lay_M, lay_all ks]
theorem deep_all : ∀ ks : List (Addr × List Int), PyData.depthAll (ks.map fun p => dM p.2) ≤ 1
  | [] => by simp [PyData.depthAll]
  | p :: ks => by
    rw [List.map_cons, PyData.depthAll, dM_deep]
    have := deep_all ks
    omega
theorem shaped_L (ks : List (Addr × List Int)) : SeqAt.shaped (dL ks) = true := by
  have e : (dL ks).canLay0 = true := by
    have := lay_all ks
    simp [dL, PyData.canLay0, this]
  have d : (dL ks).depth ≤ 64 := by
    have := deep_all ks
    show (PyData.list _).depth ≤ 64
    rw [PyData.depth]
    omega
  unfold SeqAt.shaped
  rw [e, decide_eq_true d]
  rfl
theorem eqv_ints : ∀ x y : List Int, PyData.eqvAll (x.map PyData.int) (y.map PyData.int) = decide (x = y)
  | [], [] => by simp [PyData.eqvAll]
  | [], _ :: _ => by simp [PyData.eqvAll]
  | _ :: _, [] => by simp [PyData.eqvAll]
  | a :: x, b :: y => by
    simp only [List.map_cons, PyData.eqvAll, PyData.eqv, eqv_ints x y]
    by_cases h1 : a = b <;> by_cases h2 : x = y <;> simp [h1, h2]
theorem eqv_M (x y : List Int) : PyData.eqv (dM x) (dM y) = decide (x = y) := by
  show PyData.eqv (.tuple _) (.tuple _) = _
  rw [PyData.eqv, eqv_ints]
theorem eqv_all : ∀ x y : List (Addr × List Int), PyData.eqvAll (x.map fun p => dM p.2) (y.map fun p => dM p.2) = decide (x.map (·.2) = y.map (·.2))
  | [], [] => by simp [PyData.eqvAll]
  | [], _ :: _ => by simp [PyData.eqvAll]
  | _ :: _, [] => by simp [PyData.eqvAll]
  | a :: x, b :: y => by
    simp only [List.map_cons, PyData.eqvAll, eqv_M, eqv_all x y]
    by_cases h1 : a.2 = b.2 <;> by_cases h2 : x.map (·.2) = y.map (·.2) <;> simp [h1, h2]
theorem eqv_L (x y : List (Addr × List Int)) : PyData.eqv (dL x) (dL y) = decide (x.map (·.2) = y.map (·.2)) := by
  show PyData.eqv (.list _) (.list _) = _
  rw [PyData.eqv, eqv_all]
theorem op_neDK {X : Cx} {K : PySem.W.Frag} (h : X.K = K) (hu : X.A.units + 64 < cLine) : OpR X (compareOp .NotEq) (rNeD K) := by
  subst h
  exact op_neD hu
theorem hu64_of {A : Around} {k : Nat} (hr : Room k A) : A.units + 64 < cLine := by
  have := hr.un
  omega
theorem sortable_M {L : List (Addr × List Int)} (h : ∀ p ∈ L, 1 ≤ p.2.length) : PySem.W.Sortable (L.map fun p => kndM.enc p.2) := .inl fun d hd => by
  obtain ⟨p, hp, rfl⟩ := List.mem_map.mp hd
  have := h p hp
  obtain ⟨a, m⟩ := p
  cases m with
  | nil => exact absurd (show 1 ≤ 0 from this) (by decide)
  | cons i m => exact ⟨_, _, rfl⟩
theorem sortable_C {L : List (Addr × List Int)} : PySem.W.Sortable (L.map fun p => kndC.enc p.2) := .inl fun d hd => by
  obtain ⟨p, hp, rfl⟩ := List.mem_map.mp hd
  exact ⟨_, _, rfl⟩
end K16
namespace K16
open PySem L2
theorem tus_alloc {H : Hp} {p : Addr} {o : HO} {ks : List (Addr × List Int)} (h : Tus H ks) (n : H p = none) : Tus (upd H p o) ks := h.up (same_new n o)
/-- the least members, in the tuples' order -/
def sp_basis_of : Sp := fun vs H Q _ => ∃ (l : Addr) (ks : List (Addr × List Int)) (n : Nat), vs = [.ref l] ∧ (H l = some (.lst (refs ks)) ∨ H l = some (.tup (refs ks))) ∧ Tus H ks ∧ ks.length ≤ 100 ∧ 1 ≤ n ∧ n ≤ 1000 ∧ (∀ p ∈ ks, p.2.length = n) ∧
  ∀ (r : Addr) (B : List (Addr × List Int)) (H' : Hp), Same H H' → H r = none → H' r = some (.lst (refs B)) → Tus H' B → (∀ p ∈ B, p ∈ ks) → IsBasis (B.map (·.2)) (ks.map (·.2)) → B.length ≤ ks.length → Q (.ref r) H'
theorem cr_setW {X : Cx} {kd : Knd} {Vl : Hp → Addr → List Int → Prop} {w : World} (h : X.w = w) (kh : KdH kd Vl) (hc : X.calm = true) (hu : X.A.units + 64 < cLine) : CallR X (.type "set") (rSetK kd Vl X.K w) := by
  subst h
  exact cr_setK kh hc hu
theorem cr_sortW {X : Cx} {kd : Knd} {Vl : Hp → Addr → List Int → Prop} {w : World} (h : X.w = w) (kh : KdH kd Vl) (hc : X.calm = true) (hu : X.A.units + 64 < cLine) : CallR X (.builtin "sorted") (rSortK kd Vl w) := by
  subst h
  exact cr_sortK kh hc hu
/-- of an ascending list with no member above another: the same -/
def sp_Lleast : Sp := fun vs H Q _ => ∃ (l : Addr) (ks : List (Addr × List Int)) (n : Nat), vs = [.ref l] ∧ H l = some (.tup (refs ks)) ∧ Tus H ks ∧ ks.length ≤ 100 ∧ 1 ≤ n ∧ n ≤ 1000 ∧ (∀ p ∈ ks, p.2.length = n) ∧ (ks.map (·.2)).Pairwise (· < ·) ∧
  (∀ b ∈ ks.map (·.2), ∀ b' ∈ ks.map (·.2), b ≠ b' → cov b b' = false) ∧ ∀ (r : Addr) (R : List (Addr × List Int)) (H' : Hp), Same H H' → H r = none → H' r = some (.lst (refs R)) → Tus H' R → R.map (·.2) = ks.map (·.2) → Q (.ref r) H'
section
variable {P : Program} {w : World} {K : PySem.W.Frag} {mg : Str → Option Value} {base : Heap} {f : Addr} {fd : FuncData}
theorem sc_basis_of : FnScope ["members", "found", "member", "least", "other"] ["members"] (defScope sbasis_of) := ⟨rfl, rfl, rfl, by decide +kernel, rfl, by decide +kernel, by decide +kernel⟩
theorem ok_basis_of (F : Stands K mg "basis_of" sbasis_of ["members"] f fd) (T : Blt mg) (Ccovers : Has P w K mg base "covers" ["first", "second"] 1 spCovers) : Has P w K mg base "basis_of" ["members"] 2 sp_basis_of := by
  obtain ⟨_, _, Gcovers, mcovers, kcovers, bcovers⟩ := Ccovers
  refine ⟨f, fd, F.1.ok sc_basis_of (fun vs H Q E h => ?_) (fun cdv A outer s H vs Q E hr h => ?_), F.2.1, F.1.kp, F.2.2⟩
  · obtain ⟨l, ks, n, rfl, _⟩ := h
    rfl
  obtain ⟨l, ks, n, rfl, hl, hk, few, n1, n2, hn, q⟩ := h
  have hu64 := hu64_of hr
  refine ⟨_, pss_cons (ps_set (i := 1) sc_basis_of.nd rfl (.inl rfl) (pe_lst pa_nil))
    (pss_cons (ps_for PassesOwn.never rfl (pi_list (pe_callB (cr_sortW (w := w) rfl kdM rfl hu64) rfl T.sorted (by decide +kernel) (pa_cons (pe_callTy (cr_setW (w := w) rfl kdM rfl hu64) rfl T.set (by decide +kernel) (pa_cons (pv 0) pa_nil)) pa_nil))) (pg_name (i := 2) sc_basis_of.nd rfl (.inl rfl))
      (pss_cons (ps_set (i := 3) sc_basis_of.nd rfl (.inl rfl) pe_bl)
      (pss_cons (ps_for PassesOwn.never rfl (pi_list (pv 1)) (pg_name (i := 4) sc_basis_of.nd rfl (.inl rfl))
        (pss_one (ps_set (i := 3) sc_basis_of.nd rfl (.inl rfl) (pe_and (pv 3) (pe_one (pe_not (pe_call Gcovers hr rfl mcovers kcovers bcovers .nil pass0 (pa_cons (pv 2) (pa_cons (pv 4) pa_nil)))))))))
      (pss_one (ps_if (pt_val (pv 3))
        (pss_one (ps_expr (pe_bm PySem.F.plainAttrs_list PySem.F.slot_list_append PySem.F.type_list_append mt_append (pv 1) (pa_cons (pv 2) pa_nil)))) pss_nil)))))
    (pss_one (ps_ret (pv 1)))), ?_⟩
  refine ⟨by show 0 ≤ sizeLine; exact Nat.zero_le _, fun F hF => ?_⟩
  have sF := same_new hF (.lst [])
  have hF1 : upd H F (.lst []) F = some (.lst []) := upd_same
  generalize upd H F (.lst []) = H1 at sF hF1
  have hl1 : SqL K H1 l (refs ks) ∨ SqT K H1 l (refs ks) := by
    rcases hl with z | z
    · exact .inl (SqL.of (sF _ _ z))
    · exact .inr (SqT.of (sF _ _ z))
  refine ⟨_, rfl, l, ks, rfl, hl1, hk.up sF, few, fun a L ha hs hall _ hlen => ?_⟩
  have sa := same_new ha (SetK w a (keyed kndM L))
  have hL : Tus (upd H1 a (SetK w a (keyed kndM L))) L := fun p hp => ((hk.up sF) p (hs p hp)).up sa
  refine ⟨a, L, rfl, upd_same, hL, by omega, sortable_M fun p hp => by rw [hn p (hs p hp)]; exact n1, fun p S pm hso hp => ?_⟩
  have sp := same_new hp (.lst (refs S))
  have hS1 : Tus (upd (upd H1 a (SetK w a (keyed kndM L))) p (.lst (refs S))) S := fun y hy => (hL y (pm.mem_iff.mp hy)).up sp
  have hF3 : upd (upd H1 a (SetK w a (keyed kndM L))) p (.lst (refs S)) F = some (.lst []) := sp _ _ (sa _ _ hF1)
  have s3 : Same H (upd (upd H1 a (SetK w a (keyed kndM L))) p (.lst (refs S))) := sF.trans (sa.trans sp)
  have hp3 : upd (upd H1 a (SetK w a (keyed kndM L))) p (.lst (refs S)) p = some (.lst (refs S)) := upd_same
  generalize upd (upd H1 a (SetK w a (keyed kndM L))) p (.lst (refs S)) = H3 at hS1 hF3 s3 hp3
  have nFp : F ≠ p := fun e => by
    rw [e] at hF1
    rw [sa _ _ hF1] at hp
    cases hp
  have asc : S.Pairwise fun x y => x.2 ≤ y.2 := by
    obtain ⟨L1, _, e⟩ := hso
    rw [e]
    exact sorted_M
  have inS : ∀ y ∈ S, y ∈ ks := fun y hy => hs y (pm.mem_iff.mp hy)
  have lenS : S.length ≤ ks.length := by rw [pm.length_eq]; exact hlen
  refine ⟨p, rfl, ⟨_, SqL.of hp3⟩, for_list (K := K) (a := p) (xs := refs S) (fun i σ H' => ∃ (B : List (Addr × List Int)) (v2 v3 v4 : Option V), σ = [some (.ref l), some (.ref F), v2, v3, v4] ∧ Same H H' ∧ H' p = some (.lst (refs S)) ∧ H' F = some (.lst (refs B)) ∧ Tus H' S ∧ (∀ y ∈ B, y ∈ S.take i) ∧ B.length ≤ i ∧ IsBasis (B.map (·.2)) ((S.take i).map (·.2))) ⟨[], none, none, none, rfl, s3, hp3, hF3, hS1, fun y hy => absurd hy List.not_mem_nil, Nat.le_refl 0, IsBasis.nil⟩ (fun i σ H' _ h => ?_) (fun i v σ H4 hx h => ?_) fun σ H' h => ?_⟩
  · obtain ⟨_, _, _, _, _, _, e, _⟩ := h
    exact SqL.of e
  · obtain ⟨B, v2, v3, v4, rfl, s4, hp4, hF4, hS4, hB, lB, bas⟩ := h
    obtain ⟨x, ex, rfl⟩ := ref_at hx
    have xm := List.mem_of_getElem? ex
    have li := (List.getElem?_eq_some_iff.mp ex).1
    have xn : x.2.length = n := hn x (inS x xm)
    have inB : ∀ y ∈ B, y ∈ S := fun y hy => List.mem_of_mem_take (hB y hy)
    refine ⟨_, rfl, F, rfl, ⟨_, SqL.of hF4⟩, for_list (K := K) (a := F) (xs := refs B) (fun j σ H' => ∃ v4, σ = [some (.ref l), some (.ref F), some (.ref x.1), some (.bl (!inC ((B.take j).map (·.2)) x.2)), v4] ∧ H' = H4) ⟨_, rfl, rfl⟩ (fun j σ H' _ h => ?_) (fun j v σ H' hv h => ?_) fun σ H' h => ?_⟩
    · obtain ⟨_, _, rfl⟩ := h
      exact SqL.of hF4
    · obtain ⟨v4, rfl, rfl⟩ := h
      obtain ⟨y, ey, rfl⟩ := ref_at hv
      have ym := inB y (List.mem_of_getElem? ey)
      have yn : y.2.length = n := hn y (inS y ym)
      have step : inC ((B.take (j + 1)).map (·.2)) x.2 = (inC ((B.take j).map (·.2)) x.2 || cov x.2 y.2) := by
        rw [take_succ' ey, List.map_append]
        exact inC_snoc
      refine ⟨_, rfl, _, rfl, ?_⟩
      cases c : inC ((B.take j).map (·.2)) x.2 with
      | true =>
        refine iteF ⟨some (.ref y.1), ?_, rfl⟩
        rw [step, c]
        rfl
      | false =>
        refine iteT ⟨_, rfl, _, rfl, x.1, y.1, x.2, y.2, rfl, hS4 x xm, hS4 y ym, by omega, by omega, ?_⟩
        refine ⟨_, rfl, some (.ref y.1), ?_, rfl⟩
        rw [step, c, Bool.false_or]
        rfl
    · obtain ⟨v4, rfl, rfl⟩ := h
      rw [len_ref, List.take_length]
      refine ⟨_, rfl, _, rfl, ?_⟩
      have tk := take_succ' ex
      cases c : inC (B.map (·.2)) x.2 with
      | true =>
        refine iteF ⟨B, _, _, _, rfl, s4, hp4, hF4, hS4, fun y hy => ?_, by omega, ?_⟩
        · rw [tk]; exact List.mem_append_left _ (hB y hy)
        · rw [tk, List.map_append]
          exact bas.skip (inC_iff.mp c)
      | false =>
        refine iteT ⟨_, rfl, .inl ⟨rfl, _, SqL.of hF4⟩, _, rfl, F, _, _, rfl, rfl, hF4, by rw [len_ref, line_eq]; omega, ?_⟩
        refine ⟨B ++ [x], _, _, _, rfl, same_mut s4 hF, ?_, ?_, fun y hy => ?_, fun y hy => ?_, by rw [List.length_append]; exact Nat.succ_le_succ lB, ?_⟩
        · rw [upd_ne nFp.symm]
          exact hp4
        · rw [upd_same, refs, refs, List.map_append]
          rfl
        · exact (hS4 y hy).mut hF4 (by intro _ z; cases z)
        · rw [tk]
          rcases List.mem_append.mp hy with z | z
          · exact List.mem_append_left _ (hB y z)
          · exact List.mem_append_right _ z
        · rw [tk, List.map_append, List.map_append]
          have no : ∀ o ∈ B.map (·.2), cov x.2 o = false := fun o ho => by
            cases e : cov x.2 o with
            | false => rfl
            | true => rw [inC_iff.mpr ⟨o, ho, e⟩] at c; cases c
          refine bas.keep (n := n) (fun m hm => ?_) xn no
          obtain ⟨y, hy, rfl⟩ := List.mem_map.mp hm
          have ys : y ∈ S := List.mem_of_mem_take hy
          have yn : y.2.length = n := hn y (inS y ys)
          have le : y.2 ≤ x.2 := by
            obtain ⟨k, hk⟩ := List.mem_iff_getElem?.mp hy
            have kl : k < i := by
              have := (List.getElem?_eq_some_iff.mp hk).1
              rw [List.length_take] at this
              omega
            rw [List.getElem?_take_of_lt kl] at hk
            have lk := (List.getElem?_eq_some_iff.mp hk).1
            have z := List.pairwise_iff_getElem.mp asc k i lk li kl
            rw [(List.getElem?_eq_some_iff.mp hk).2, (List.getElem?_eq_some_iff.mp ex).2] at z
            exact z
          refine ⟨?_, yn⟩
          by_cases z : y.2 < x.2
          · exact z
          · have z := List.le_antisymm le (List.not_lt.mp z)
            obtain ⟨o, ho, co⟩ := bas.gen y.2 (List.mem_map.mpr ⟨y, hy, rfl⟩)
            rw [z, no o ho] at co
            cases co
  · obtain ⟨B, v2, v3, v4, rfl, s4, hp4, hF4, hS4, hB, lB, bas⟩ := h
    rw [len_ref, List.take_length] at bas
    rw [len_ref] at lB
    refine ⟨_, rfl, q F B H' s4 hF hF4 (fun y hy => hS4 y (List.mem_of_mem_take (hB y hy))) (fun y hy => inS y (List.mem_of_mem_take (hB y hy))) (bas.congr fun m => ?_) (by omega)⟩
    constructor
    · intro hm
      obtain ⟨y, hy, rfl⟩ := List.mem_map.mp hm
      exact List.mem_map.mpr ⟨y, inS y hy, rfl⟩
    · intro hm
      obtain ⟨y, hy, rfl⟩ := List.mem_map.mp hm
      obtain ⟨z, hz, ez⟩ := List.mem_map.mp (hall y hy)
      exact List.mem_map.mpr ⟨z, pm.mem_iff.mpr hz, ez⟩
theorem sc_Lleast : FnScope ["_law_members", "_law_found", "_law_member", "_law_smaller", "_law_other"] ["_law_members"] (defScope sLleast) := ⟨rfl, rfl, rfl, by decide +kernel, rfl, by decide +kernel, by decide +kernel⟩
theorem ok_Lleast (F : Stands K mg "_law_least" sLleast ["_law_members"] f fd) (T : Blt mg) (CLcovers : Has P w K mg base "_law_covers" ["_law_first", "_law_second"] 1 spCovers) : Has P w K mg base "_law_least" ["_law_members"] 2 sp_Lleast := by
  obtain ⟨_, _, GLcovers, mLcovers, kLcovers, bLcovers⟩ := CLcovers
  refine ⟨f, fd, F.1.ok sc_Lleast (fun vs H Q E h => ?_) (fun cdv A outer s H vs Q E hr h => ?_), F.2.1, F.1.kp, F.2.2⟩
  · obtain ⟨l, ks, n, rfl, _⟩ := h
    rfl
  obtain ⟨l, ks, n, rfl, hl, hk, few, n1, n2, hn, hasc, hanti, q⟩ := h
  have hu64 := hu64_of hr
  refine ⟨_, pss_cons (ps_set (i := 1) sc_Lleast.nd rfl (.inl rfl) (pe_lst pa_nil))
    (pss_cons (ps_for PassesOwn.never rfl (pi_list (pe_callB (cr_sortW (w := w) rfl kdM rfl hu64) rfl T.sorted (by decide +kernel) (pa_cons (pe_callTy (cr_setW (w := w) rfl kdM rfl hu64) rfl T.set (by decide +kernel) (pa_cons (pv 0) pa_nil)) pa_nil))) (pg_name (i := 2) sc_Lleast.nd rfl (.inr rfl))
      (pss_cons (ps_setLc (i := 3) (own := [("_law_other", 4)]) (g := gName 4) rfl sc_Lleast.nd rfl rfl rfl (pi_tup (pv 0)) (blkOk_by (own := [("_law_other", 4)]) (N := ["_law_members", "_law_found", "_law_member", "_law_smaller", "_law_other"]) (sc := defScope sLleast) (by decide +kernel)) (fun _ _ _ _ _ => pg_name (i := 4) sc_Lleast.nd rfl (Or.inl rfl)) (fun _ _ _ _ _ => pts_one (PW.pt (pw_and (pt_cmpR (op_neDK (K := K) rfl hu64) (pv 4) (pv 2) (nomark _)) (pw_and1 (pt_val (pe_call GLcovers hr rfl mLcovers kLcovers bLcovers .nil pass0 (pa_cons (pv 2) (pa_cons (pv 4) pa_nil)))))))) (fun _ _ _ _ _ => (pv 4)))
      (pss_one (ps_if (pt_cmpR op_eq (pe_callB call_len_seq rfl T.len PySem.boot_len (pa_cons (pv 3) pa_nil)) pe_int (nomark _))
        (pss_one (ps_expr (pe_bm PySem.F.plainAttrs_list PySem.F.slot_list_append PySem.F.type_list_append mt_append (pv 1) (pa_cons (pv 2) pa_nil)))) pss_nil))))
    (pss_one (ps_ret (pv 1)))), ?_⟩
  refine ⟨by show 0 ≤ sizeLine; exact Nat.zero_le _, fun F hF => ?_⟩
  have sF := same_new hF (.lst [])
  have hF1 : upd H F (.lst []) F = some (.lst []) := upd_same
  generalize upd H F (.lst []) = H1 at sF hF1
  refine ⟨_, rfl, l, ks, rfl, .inr (SqT.of (sF _ _ hl)), hk.up sF, few, fun a L ha hs hall hdis hlen => ?_⟩
  have sa := same_new ha (SetK w a (keyed kndM L))
  have hL : Tus (upd H1 a (SetK w a (keyed kndM L))) L := fun p hp => ((hk.up sF) p (hs p hp)).up sa
  refine ⟨a, L, rfl, upd_same, hL, by omega, sortable_M fun p hp => by rw [hn p (hs p hp)]; exact n1, fun p S pm hso hp => ?_⟩
  have sp := same_new hp (.lst (refs S))
  have hS1 : Tus (upd (upd H1 a (SetK w a (keyed kndM L))) p (.lst (refs S))) S := fun y hy => (hL y (pm.mem_iff.mp hy)).up sp
  have hF3 : upd (upd H1 a (SetK w a (keyed kndM L))) p (.lst (refs S)) F = some (.lst []) := sp _ _ (sa _ _ hF1)
  have s3 : Same H (upd (upd H1 a (SetK w a (keyed kndM L))) p (.lst (refs S))) := sF.trans (sa.trans sp)
  have hp3 : upd (upd H1 a (SetK w a (keyed kndM L))) p (.lst (refs S)) p = some (.lst (refs S)) := upd_same
  have nFp : F ≠ p := fun e => by
    rw [e] at hF1
    rw [sa _ _ hF1] at hp
    cases hp
  generalize upd (upd H1 a (SetK w a (keyed kndM L))) p (.lst (refs S)) = H3 at hS1 hF3 s3 hp3
  have asc : (S.map (·.2)).Pairwise (· ≤ ·) := by
    obtain ⟨L1, _, e⟩ := hso
    rw [e, List.pairwise_map]
    exact sorted_M
  have nd : (S.map (·.2)).Nodup := (pm.map (·.2)).nodup_iff.mpr (hdis (asc_nodup hasc))
  have inS : ∀ y ∈ S, y ∈ ks := fun y hy => hs y (pm.mem_iff.mp hy)
  have lenS : S.length ≤ ks.length := by rw [pm.length_eq]; exact hlen
  have same : S.map (·.2) = ks.map (·.2) := by
    refine asc_unique ?_ hasc fun m => ⟨fun hm => ?_, fun hm => ?_⟩
    · refine (List.Pairwise.and asc nd).imp fun {x y} h => ?_
      by_cases z : x < y
      · exact z
      · exact absurd (List.le_antisymm h.1 (List.not_lt.mp z)) h.2
    · obtain ⟨y, hy, rfl⟩ := List.mem_map.mp hm
      exact List.mem_map.mpr ⟨y, inS y hy, rfl⟩
    · obtain ⟨y, hy, rfl⟩ := List.mem_map.mp hm
      obtain ⟨z, hz, ez⟩ := List.mem_map.mp (hall y hy)
      exact List.mem_map.mpr ⟨z, pm.mem_iff.mpr hz, ez⟩
  refine ⟨p, rfl, ⟨_, SqL.of hp3⟩, for_list (K := K) (a := p) (xs := refs S) (fun i σ H' => ∃ (v2 v3 v4 : Option V), σ = [some (.ref l), some (.ref F), v2, v3, v4] ∧ Same H H' ∧ H' p = some (.lst (refs S)) ∧ H' F = some (.lst (refs (S.take i))) ∧ Tus H' S) ⟨none, none, none, rfl, s3, hp3, hF3, hS1⟩ (fun i σ H' _ h => ?_) (fun i v σ H4 hx h => ?_) fun σ H' h => ?_⟩
  · obtain ⟨_, _, _, _, _, e, _⟩ := h
    exact SqL.of e
  · obtain ⟨v2, v3, v4, rfl, s4, hp4, hF4, hS4⟩ := h
    obtain ⟨x, ex, rfl⟩ := ref_at hx
    have xm := List.mem_of_getElem? ex
    have li := (List.getElem?_eq_some_iff.mp ex).1
    have xk := inS x xm
    have xn : x.2.length = n := hn x xk
    have xT := hS4 x xm
    have hk4 := hk.up s4
    refine ⟨_, rfl, l, rfl, ⟨_, SqT.of (s4 _ _ hl)⟩, fun D hD => lc_tup (K := K) (a := l) (xs := refs ks) (fun j H' => Same H4 H' ∧ H' D = some (.lst [])) ⟨same_new hD _, upd_same⟩ (fun j H' _ h => SqT.of (h.1 _ _ (s4 _ _ hl))) (fun j v H' hv h => ?_) fun H' h => ?_⟩
    · obtain ⟨s5, hD5⟩ := h
      obtain ⟨y, ey, rfl⟩ := ref_at hv
      have ym := List.mem_of_getElem? ey
      have yn : y.2.length = n := hn y ym
      refine ⟨rfl, ?_⟩
      refine ⟨_, rfl, _, rfl, dM y.2, dM x.2, dp_tu ((hk4 y ym).up s5), dp_tu (xT.up s5), shaped_M _, shaped_M _, _, rfl, ?_⟩
      rw [eqv_M]
      by_cases e : y.2 = x.2
      · rw [decide_eq_true e]
        exact iteF (iteF ⟨s5, hD5⟩)
      · rw [decide_eq_false e]
        refine iteT ⟨_, rfl, _, rfl, x.1, y.1, x.2, y.2, rfl, xT.up s5, (hk4 y ym).up s5, by omega, by omega, _, rfl, ?_⟩
        rw [hanti x.2 (List.mem_map.mpr ⟨x, xk, rfl⟩) y.2 (List.mem_map.mpr ⟨y, ym, rfl⟩) (fun z => e z.symm)]
        exact iteF ⟨s5, hD5⟩
    · obtain ⟨s5, hD5⟩ := h
      have hF5 : H' F = some (.lst (refs (S.take i))) := s5 _ _ hF4
      refine ⟨_, rfl, D, _, rfl, .inl (SqL.of hD5), rfl, _, rfl, iteT ?_⟩
      refine ⟨_, rfl, .inl ⟨rfl, _, SqL.of hF5⟩, _, rfl, F, _, _, rfl, rfl, hF5, by rw [len_ref, line_eq, List.length_take]; omega, ?_⟩
      refine ⟨_, _, _, rfl, same_mut (s4.trans s5) hF, ?_, ?_, fun y hy => ?_⟩
      · rw [upd_ne nFp.symm]
        exact s5 _ _ hp4
      · rw [upd_same, take_succ' ex, refs, refs, List.map_append]
        rfl
      · exact ((hS4 y hy).up s5).mut hF5 (by intro _ z; cases z)
  · obtain ⟨v2, v3, v4, rfl, s4, hp4, hF4, hS4⟩ := h
    rw [len_ref, List.take_length] at hF4
    exact ⟨_, rfl, q F S H' s4 hF hF4 hS4 same⟩
end
end K16
namespace K16
open PySem L2
theorem join_v {K : PySem.W.Frag} {H1 : Hp} {a c : Addr} {xs ys : List V} {R : VK} (ha : H1 a = some (.tup xs)) (hc : H1 c = some (.tup ys)) (hs : xs.length + ys.length ≤ 5000) (r : ∀ (u : Addr) (H2 : Hp), Same H1 H2 → H2 u = some (.tup (xs ++ ys)) → R (.ref u) H2) : rCatA K (.ref a) (.ref c) H1 R := by
  refine ⟨a, c, _, _, rfl, rfl, SqT.of ha, SqT.of hc, by rw [line_eq]; omega, fun e => ?_, fun _ e => ?_, fun _ _ p hp => ?_⟩
  · subst e
    exact r c H1 (Same.refl H1) hc
  · subst e
    refine r a H1 (Same.refl H1) ?_
    rw [List.append_nil]
    exact ha
  · exact r p _ (same_new hp _) upd_same
abbrev Row := List Int × List (List Int)
/-- a row of the law's tree: a marking, and the markings ahead of it -/
def RowAt (H : Hp) (a : Addr) (r : Row) : Prop := ∃ (c p : Addr) (ps : List (Addr × List Int)), H a = some (.tup [.ref c, .ref p]) ∧ Cfg H c r.1 ∧ H p = some (.tup (refs ps)) ∧ Cfgs H ps ∧ ps.map (·.2) = r.2
theorem Kid.mono {n : Nat} {ts : List Tr} {R R' : List Row} {r : Row} (h : ∀ (k : Nat) (t : Tr), ts[k]? = some t → ∀ x, IsPred n t r.1 x → (∃ y ∈ r.2 ++ [r.1], cov x y = true) ∨ (x, r.2 ++ [r.1]) ∈ R) (s : ∀ y ∈ R, y ∈ R') : ∀ (k : Nat) (t : Tr), ts[k]? = some t → ∀ x, IsPred n t r.1 x → (∃ y ∈ r.2 ++ [r.1], cov x y = true) ∨ (x, r.2 ++ [r.1]) ∈ R' := fun k t e x p => by
  rcases h k t e x p with z | z
  · exact .inl z
  · exact .inr (s _ z)
theorem RowAt.up {H H' : Hp} {a : Addr} {r : Row} (h : RowAt H a r) (s : Same H H') : RowAt H' a r := by
  obtain ⟨c, p, ps, h1, h2, h3, h4, h5⟩ := h
  exact ⟨c, p, ps, s _ _ h1, h2.up s, s _ _ h3, h4.up s, h5⟩
theorem tup_mut {H : Hp} {b : Addr} {o o' : HO} (e : H b = some o) (n : ∀ xs, o ≠ .tup xs) {c : Addr} {xs : List V} (h : H c = some (.tup xs)) : upd H b o' c = some (.tup xs) := by
  rw [upd_ne]
  · exact h
  · intro q
    rw [q, e] at h
    exact n _ (Option.some.inj h)
theorem Cfg.mut {H : Hp} {a b : Addr} {m : List Int} {o o' : HO} (h : Cfg H a m) (e : H b = some o) (n : ∀ xs, o ≠ .tup xs) : Cfg (upd H b o') a m := by
  obtain ⟨u, v, h1, h2, h3⟩ := h
  exact ⟨u, v, tup_mut e n h1, tup_mut e n h2, tup_mut e n h3⟩
theorem RowAt.mut {H : Hp} {a b : Addr} {r : Row} {o o' : HO} (h : RowAt H a r) (e : H b = some o) (n : ∀ xs, o ≠ .tup xs) : RowAt (upd H b o') a r := by
  obtain ⟨c, p, ps, h1, h2, h3, h4, h5⟩ := h
  exact ⟨c, p, ps, tup_mut e n h1, h2.mut e n, tup_mut e n h3, fun q hq => (h4 q hq).mut e n, h5⟩
def Rows (H : Hp) (rs : List (Addr × Row)) : Prop := ∀ r ∈ rs, RowAt H r.1 r.2
theorem Rows.up {H H' : Hp} {rs : List (Addr × Row)} (h : Rows H rs) (s : Same H H') : Rows H' rs := fun r hr => (h r hr).up s
theorem Rows.push {H : Hp} {W a : Addr} {xs ys : List V} {r : Row} {rs : List (Addr × Row)} (h : Rows H rs) (e : H W = some (.lst xs)) (ha : RowAt H a r) : Rows (upd H W (.lst ys)) (rs ++ [(a, r)]) := fun q hq => by
  rcases List.mem_append.mp hq with z | z
  · exact (h q z).mut e (by intro _ z; cases z)
  · rw [List.mem_singleton.mp z]
    exact ha.mut e (by intro _ z; cases z)
/-- rows of markings that may be looked at -/
def Fit (n : Nat) (r : Row) : Prop := r.1.length = n ∧ (∀ i, i < n → 0 ≤ gt r.1 i) ∧ r.2.length ≤ 24 ∧ ∀ y ∈ r.2, y.length = n
/-- a row's followers stand among the rows -/
def Kid (n : Nat) (ts : List Tr) (R : List Row) (r : Row) : Prop := ∀ (k : Nat) (t : Tr), ts[k]? = some t → ∀ x, IsPred n t r.1 x → (∃ y ∈ r.2 ++ [r.1], cov x y = true) ∨ (x, r.2 ++ [r.1]) ∈ R
def sp_Lsmall : Sp := fun vs H Q _ => ∃ (l al g : Addr) (ks : List (Addr × Tr)) (as : List (Addr × Unit)) (gs : List (Addr × List Int)) (n : Nat), vs = [.ref l, .ref al, .ref g] ∧ H l = some (.lst (refs ks)) ∧ Trs H ks ∧ TrsOk n (ks.map (·.2)) ∧ n ≤ 4 ∧ ks.length ≤ 4 ∧
  H al = some (.lst (refs as)) ∧ (∀ a ∈ as, NoMail H a.1) ∧ as.length = ks.length ∧ H g = some (.lst (refs gs)) ∧ Cfgs H gs ∧ gs.length ≤ 3 ∧ (∀ p ∈ gs, p.2.length = n ∧ ∀ i, i < n → 0 ≤ gt p.2 i) ∧
  ∀ (b : Bool) (H' : Hp), Same H H' → (b = true → ∃ R, Tree n (ks.map (·.2)) (gs.map (·.2)) R) → Q (.bl b) H'
section
variable {P : Program} {w : World} {K : PySem.W.Frag} {mg : Str → Option Value} {base : Heap} {f : Addr} {fd : FuncData}
theorem sc_Lsmall : FnScope ["_law_transitions", "_law_actions", "_law_goals", "_law_rows", "_law_goal", "_law_at", "_law_config", "_law_path", "_law_word", "_law_k", "_law_before"] ["_law_transitions", "_law_actions", "_law_goals"] (defScope sLsmall) := ⟨rfl, rfl, rfl, by decide +kernel, rfl, by decide +kernel, by decide +kernel⟩
theorem ok_Lsmall (F : Stands K mg "_law_small" sLsmall ["_law_transitions", "_law_actions", "_law_goals"] f fd) (T : Blt mg) (CLmail_back : Has P w K mg base "_law_mail_back" ["_law_transition_here", "_law_action", "_law_config"] 2 sp_Lmail_back) (CLways_back : Has P w K mg base "_law_ways_back" ["_law_transition_here", "_law_marking_here"] 1 sp_Lways_back) (CLconfig_inside : Has P w K mg base "_law_config_inside" ["_law_members", "_law_config"] 3 sp_Lconfig_inside) : Has P w K mg base "_law_small" ["_law_transitions", "_law_actions", "_law_goals"] 4 sp_Lsmall := by
  obtain ⟨_, _, GLmail_back, mLmail_back, kLmail_back, bLmail_back⟩ := CLmail_back
  obtain ⟨_, _, GLways_back, mLways_back, kLways_back, bLways_back⟩ := CLways_back
  obtain ⟨_, _, GLconfig_inside, mLconfig_inside, kLconfig_inside, bLconfig_inside⟩ := CLconfig_inside
  refine ⟨f, fd, F.1.ok sc_Lsmall (fun vs H Q E h => ?_) (fun cdv A outer s H vs Q E hr h => ?_), F.2.1, F.1.kp, F.2.2⟩
  · obtain ⟨l, al, g, ks, as, gs, n, rfl, _⟩ := h
    rfl
  obtain ⟨l, al, g, ks, as, gs, n, rfl, hl, hk, ok, h4, k4, hal, has, eas, hg, hgs, few, hz, q⟩ := h
  have hu64 := hu64_of hr
  refine ⟨_, pss_cons (ps_setLc (i := 3) (own := [("_law_goal", 4)]) (g := gName 4) (tt := tYes) rfl sc_Lsmall.nd rfl rfl rfl (pi_list (pe_callB (cr_sortW (w := w) rfl kdC rfl hu64) rfl T.sorted (by decide +kernel) (pa_cons (pe_callTy (cr_setW (w := w) rfl kdC rfl hu64) rfl T.set (by decide +kernel) (pa_cons (pv 2) pa_nil)) pa_nil))) (blkOk_by (own := [("_law_goal", 4)]) (N := ["_law_transitions", "_law_actions", "_law_goals", "_law_rows", "_law_goal", "_law_at", "_law_config", "_law_path", "_law_word", "_law_k", "_law_before"]) (sc := defScope sLsmall) (by decide +kernel)) (fun _ _ _ _ _ => pg_name (i := 4) sc_Lsmall.nd rfl (Or.inl rfl)) (fun _ _ _ _ _ => pts_nil) (fun _ _ _ _ _ => (pe_tup (pa_cons (pv 4) (pa_cons (pe_tup pa_nil) pa_nil)))))
    (pss_cons (ps_for PassesOwn.never rfl (pi_range1 rfl T.range (pa_cons pe_int pa_nil)) (pg_name (i := 5) sc_Lsmall.nd rfl (.inl rfl))
      (pss_cons (ps_if (pt_cmpR op_eq (pv 5) (pe_callB call_len_seq rfl T.len PySem.boot_len (pa_cons (pv 3) pa_nil)) (nomark _))
        (pss_one (ps_ret pe_bl)) pss_nil)
      (pss_cons (ps_asg (pe_ix ix_list (pv 3) (pv 5) (fun _ _ => rfl)) (pg_tup rfl (pgs_cons (pg_name (i := 6) sc_Lsmall.nd rfl (.inl rfl)) (pgs_cons (pg_name (i := 7) sc_Lsmall.nd rfl (.inl rfl)) pgs_nil))))
      (pss_cons (ps_set (i := 7) sc_Lsmall.nd rfl (.inl rfl) (pe_op op_catA (pv 7) (pe_tup (pa_cons (pv 6) pa_nil))))
      (pss_cons (ps_if (PW.pt (pw_or (pt_cmpR op_gt (pe_callB call_len_seq rfl T.len PySem.boot_len (pa_cons (pv 3) pa_nil)) pe_int (nomark _)) (pw_or (pt_cmpR op_gt (pe_callB call_len_seq rfl T.len PySem.boot_len (pa_cons (pv 7) pa_nil)) pe_int (nomark _)) (pw_or1 (pt_cmpR op_gt (pe_op op_add (pe_callB (cr_sumT rfl) rfl T.sum (by decide +kernel) (pa_cons (pe_ix ix_tup (pv 6) pe_int (fun _ _ => rfl)) pa_nil)) (pe_callB (cr_sum rfl) rfl T.sum (by decide +kernel) (pa_cons (pe_lc (own := [("_law_word", 8)]) (g := gName 8) (tt := tYes) rfl sc_Lsmall.nd (pi_tup (pe_ix ix_tup (pv 6) pe_int (fun _ _ => rfl))) (blkOk_by (own := [("_law_word", 8)]) (N := ["_law_transitions", "_law_actions", "_law_goals", "_law_rows", "_law_goal", "_law_at", "_law_config", "_law_path", "_law_word", "_law_k", "_law_before"]) (sc := defScope sLsmall) (by decide +kernel)) (fun _ _ _ _ _ => pg_name (i := 8) sc_Lsmall.nd rfl (Or.inl rfl)) (fun _ _ _ _ _ => pts_nil) (fun _ _ _ _ _ => (pe_callB (call_lenK (K := K) rfl) rfl T.len PySem.boot_len (pa_cons (pv 8) pa_nil)))) pa_nil))) pe_int (nomark _))))))
        (pss_one (ps_ret pe_bl)) pss_nil)
      (pss_one (ps_for PassesOwn.never rfl (pi_range1 rfl T.range (pa_cons (pe_callB call_len_seq rfl T.len PySem.boot_len (pa_cons (pv 0) pa_nil)) pa_nil)) (pg_name (i := 9) sc_Lsmall.nd rfl (.inl rfl))
        (pss_cons (ps_if (pt_cmpR op_gt (pe_call GLways_back (hr.mono (by decide)) rfl mLways_back kLways_back bLways_back .nil pass0 (pa_cons (pe_ix ix_list (pv 0) (pv 9) (fun _ _ => rfl)) (pa_cons (pe_ix ix_tup (pv 6) pe_int (fun _ _ => rfl)) pa_nil))) pe_int (nomark _))
          (pss_one (ps_ret pe_bl)) pss_nil)
        (pss_one (ps_for PassesOwn.never rfl (pi_list (pe_call GLmail_back (hr.mono (by decide)) rfl mLmail_back kLmail_back bLmail_back .nil pass0 (pa_cons (pe_ix ix_list (pv 0) (pv 9) (fun _ _ => rfl)) (pa_cons (pe_ix ix_list (pv 1) (pv 9) (fun _ _ => rfl)) (pa_cons (pv 6) pa_nil))))) (pg_name (i := 10) sc_Lsmall.nd rfl (.inl rfl))
          (pss_one (ps_if (pt_not (pt_val (pe_call GLconfig_inside hr rfl mLconfig_inside kLconfig_inside bLconfig_inside .nil pass0 (pa_cons (pv 7) (pa_cons (pv 10) pa_nil)))))
            (pss_one (ps_expr (pe_bm PySem.F.plainAttrs_list PySem.F.slot_list_append PySem.F.type_list_append mt_append (pv 3) (pa_cons (pe_tup (pa_cons (pv 10) (pa_cons (pv 7) pa_nil))) pa_nil)))) pss_nil))))))))))))
    (pss_one (ps_ret pe_bl))), ?_⟩
  refine ⟨_, rfl, g, gs, rfl, .inl (SqL.of hg), hgs, by omega, fun a L ha hs hall _ hlen => ?_⟩
  have sa := same_new ha (SetK w a (keyed kndC L))
  have hL : Cfgs (upd H a (SetK w a (keyed kndC L))) L := fun p hp => (hgs p (hs p hp)).up sa
  refine ⟨a, L, rfl, upd_same, hL, by omega, sortable_C, fun p S pm _ hp => ?_⟩
  have sp := same_new hp (.lst (refs S))
  have hS1 : Cfgs (upd (upd H a (SetK w a (keyed kndC L))) p (.lst (refs S))) S := fun y hy => (hL y (pm.mem_iff.mp hy)).up sp
  have s3 : Same H (upd (upd H a (SetK w a (keyed kndC L))) p (.lst (refs S))) := sa.trans sp
  have hp3 : upd (upd H a (SetK w a (keyed kndC L))) p (.lst (refs S)) p = some (.lst (refs S)) := upd_same
  generalize upd (upd H a (SetK w a (keyed kndC L))) p (.lst (refs S)) = H3 at hS1 s3 hp3
  have inS : ∀ y ∈ S, y ∈ gs := fun y hy => hs y (pm.mem_iff.mp hy)
  have allS : ∀ y ∈ gs, y.2 ∈ S.map (·.2) := fun y hy => (pm.map (·.2)).mem_iff.mpr (hall y hy)
  have lenS : S.length ≤ 3 := by rw [pm.length_eq]; omega
  refine ⟨p, rfl, ⟨_, SqL.of hp3⟩, fun W hW => lc_list (K := K) (a := p) (xs := refs S) (fun i H' => Same H3 H' ∧ ∃ rs : List (Addr × Row), H' W = some (.lst (refs rs)) ∧ Rows H' rs ∧ rs.map (·.2) = (S.take i).map fun y => (y.2, [])) ⟨same_new hW _, [], upd_same, fun r hr => absurd hr List.not_mem_nil, rfl⟩ (fun i H' _ h => SqL.of (h.1 _ _ hp3)) (fun i v H' hv h => ?_) fun H' h => ?_⟩
  · obtain ⟨s4, rs, hW4, hr4, er⟩ := h
    obtain ⟨y, ey, rfl⟩ := ref_at hv
    have ym := List.mem_of_getElem? ey
    have li := (List.getElem?_eq_some_iff.mp ey).1
    have lr : rs.length ≤ 3 := by
      have e := congrArg List.length er
      rw [List.length_map, List.length_map, List.length_take] at e
      omega
    refine ⟨rfl, ?_⟩
    refine ⟨_, rfl, by show 0 ≤ sizeLine; exact Nat.zero_le _, fun e he => ?_⟩
    have s5 := same_new he (.tup [])
    have he5 : upd H' e (.tup []) e = some (.tup []) := upd_same
    refine ⟨by show 2 ≤ sizeLine; rw [line_eq]; omega, fun c hc => ?_⟩
    have s6 := same_new hc (.tup [V.ref y.1, V.ref e])
    have hc6 : upd (upd H' e (.tup [])) c (.tup [V.ref y.1, V.ref e]) c = some (.tup [V.ref y.1, V.ref e]) := upd_same
    generalize upd H' e (.tup []) = H5 at s5 he5 s6 hc6
    generalize upd H5 c (.tup [V.ref y.1, V.ref e]) = H6 at s6 hc6
    have hW6 : H6 W = some (.lst (refs rs)) := s6 _ _ (s5 _ _ hW4)
    have row : RowAt H6 c (y.2, []) := ⟨y.1, e, [], hc6, (hS1 y ym).up (s4.trans (s5.trans s6)), s6 _ _ he5, fun p hp => absurd hp List.not_mem_nil, rfl⟩
    refine ⟨_, hW6, by rw [len_ref, line_eq]; omega, same_mut (s4.trans (s5.trans s6)) hW, rs ++ [(c, (y.2, []))], by rw [upd_same, refs, refs, List.map_append]; rfl, (hr4.up (s5.trans s6)).push hW6 row, ?_⟩
    rw [take_succ' ey, List.map_append, List.map_append, er]
    rfl
  obtain ⟨s4, rs0, hW4, hr4, er0⟩ := h
  rw [len_ref, List.take_length] at er0
  have nW : H W = none := s3.free hW
  have s04 : Same H H' := s3.trans s4
  have l0 : rs0.length = S.length := by
    have e := congrArg List.length er0
    rw [List.length_map, List.length_map] at e
    exact e
  have roots : ∀ m ∈ gs.map (·.2), (m, []) ∈ rs0.map (·.2) := fun m hm => by
    obtain ⟨y, hy, rfl⟩ := List.mem_map.mp hm
    obtain ⟨z, hzz, ez⟩ := List.mem_map.mp (allS y hy)
    rw [er0, ← ez]
    exact List.mem_map.mpr ⟨z, hzz, rfl⟩
  have fit0 : ∀ r ∈ rs0.map (·.2), Fit n r := fun r hr => by
    rw [er0] at hr
    obtain ⟨y, hy, rfl⟩ := List.mem_map.mp hr
    have := hz y (inS y hy)
    exact ⟨this.1, this.2, Nat.zero_le _, fun z hz => absurd hz List.not_mem_nil⟩
  refine ⟨_, rfl, by decide, by decide, ?_⟩
  refine for_range (lo := 0) (n := 81) (fun i σ H' => ∃ (rs : List (Addr × Row)) (v4 v5 v6 v7 v8 v9 v10 : Option V), σ = [some (.ref l), some (.ref al), some (.ref g), some (.ref W), v4, v5, v6, v7, v8, v9, v10] ∧ Same H H' ∧ H' W = some (.lst (refs rs)) ∧ Rows H' rs ∧ i ≤ rs.length ∧ (∀ m ∈ gs.map (·.2), (m, []) ∈ rs.map (·.2)) ∧ (∀ r ∈ rs.map (·.2), Fit n r) ∧ rs.length ≤ 200000 ∧ ∀ r ∈ (rs.map (·.2)).take i, r.1.sum ≤ 12 ∧ Kid n (ks.map (·.2)) (rs.map (·.2)) r)
    ⟨rs0, none, none, none, none, none, none, none, rfl, s04, hW4, hr4, Nat.zero_le _, roots, fit0, by omega, fun r hr => absurd hr List.not_mem_nil⟩ ?_ ?_
  · rintro i σ H1 hi ⟨rs, v4, v5, v6, v7, v8, v9, v10, rfl, s1, hW1, hr1, hlen, hroot, hfit, hbig, hdone⟩
    rw [Int.zero_add]
    refine ⟨_, rfl, _, rfl, W, _, rfl, .inl (SqL.of hW1), rfl, _, rfl, ?_⟩
    rw [len_ref]
    refine ite2 (fun c => ?_) (fun c => ?_)
    · have ei : i = rs.length := by
        have z : V.int (i : Int) = V.int (rs.length : Int) := of_decide_eq_true c
        injection z with z
        exact Int.ofNat_inj.mp z
      have all : ∀ r ∈ rs.map (·.2), r.1.sum ≤ 12 ∧ Kid n (ks.map (·.2)) (rs.map (·.2)) r := fun r hr => hdone r (by
        rw [List.take_of_length_le (by rw [List.length_map]; omega)]
        exact hr)
      exact q true H1 s1 fun _ => ⟨rs.map (·.2), hroot, by rw [List.length_map]; omega, fun c p h => (all (c, p) h).1, fun c p h k t e x pr => (all (c, p) h).2 k t e x pr⟩
    have lt : i < rs.length := by
      rcases Nat.lt_or_eq_of_le hlen with z | z
      · exact z
      · exact absurd (by rw [z, decide_eq_true_eq]) c
    have ex : rs[i]? = some rs[i] := get_some lt
    have xm := List.getElem_mem lt
    generalize rs[i] = x at ex xm
    obtain ⟨ca, pa, ps, r1, r2, r3, r4, r5⟩ := hr1 x xm
    have xf := hfit x.2 (List.mem_map.mpr ⟨x, xm, rfl⟩)
    have lps : ps.length ≤ 24 := by
      have e := congrArg List.length r5
      rw [List.length_map] at e
      have := xf.2.2.1
      omega
    refine ⟨_, rfl, _, rfl, W, _, _, _, rfl, rfl, SqL.of hW1, at_ref ex, x.1, _, rfl, SqT.of r1, rfl, _, _, rfl, _, _, rfl, rfl, ?_⟩
    refine ⟨_, rfl, _, rfl, by show 1 ≤ sizeLine; rw [line_eq]; omega, fun u hu => ?_⟩
    have s2 := same_new hu (.tup [V.ref ca])
    refine join_v (s2 _ _ r3) upd_same (by rw [len_ref]; show _ + 1 ≤ _; omega) fun pp H3 s3 hpp => ?_
    have s13 : Same H1 H3 := s2.trans s3
    have hW3 := s13 _ _ hW1
    have r2' := r2.up s13
    obtain ⟨b1, b2, d1, d2, d3⟩ := id r2'
    -- the limits
    refine ⟨_, rfl, W, _, rfl, .inl (SqL.of hW3), _, _, rfl, rfl, _, rfl, ?_⟩
    rw [len_ref]
    refine ite2 (fun c1 => ?_) (fun c1 => ?_)
    · exact q false H3 (s1.trans s13) (fun z => Bool.noConfusion z)
    have few1 : rs.length ≤ 80 := by
      have : ¬ (80 : Int) < (rs.length : Int) := fun z => c1 (decide_eq_true z)
      omega
    refine ⟨_, rfl, pp, _, rfl, .inr (SqT.of hpp), _, _, rfl, rfl, _, rfl, ?_⟩
    refine ite2 (fun c2 => ?_) (fun c2 => ?_)
    · exact q false H3 (s1.trans s13) (fun z => Bool.noConfusion z)
    have few2 : ps.length + 1 ≤ 24 := by
      have : ¬ (24 : Int) < ((refs ps ++ [V.ref ca]).length : Int) := fun z => c2 (decide_eq_true z)
      rw [List.length_append, len_ref] at this
      have e : [V.ref ca].length = 1 := rfl
      omega
    refine ⟨_, rfl, ca, _, _, _, rfl, rfl, SqT.of d1, rfl, b1, x.2.1, rfl, SqT.of d2, ?_⟩
    refine ⟨_, rfl, ca, _, _, _, rfl, rfl, SqT.of d1, rfl, b2, rfl, ⟨_, SqT.of d3⟩, fun D hD => lc_tup (K := K) (a := b2) (xs := []) (fun j H' => Same H3 H' ∧ H' D = some (.lst [])) ⟨same_new hD _, upd_same⟩ (fun j H' _ h => SqT.of (h.1 _ _ d3)) (fun j v H' hv h => absurd hv (by simp)) fun H4 h => ?_⟩
    obtain ⟨s4, hD4⟩ := h
    refine ⟨D, [], rfl, SqL.of hD4, _, _, rfl, rfl, _, _, rfl, rfl, _, rfl, ?_⟩
    have s14 : Same H1 H4 := s13.trans s4
    refine ite2 (fun c3 => ?_) (fun c3 => ?_)
    · exact q false H4 (s1.trans s14) (fun z => Bool.noConfusion z)
    have low : x.2.1.sum ≤ 12 := by
      have : ¬ (12 : Int) < x.2.1.sum + ([] : List Int).sum := fun z => c3 (decide_eq_true z)
      have e : ([] : List Int).sum = 0 := rfl
      omega
    have up12 : ∀ j, j < n → gt x.2.1 j ≤ 12 := fun j hj => by
      have := le_sum xf.1 xf.2.1 hj
      omega
    have hr4 := hr1.up s14
    have hW4 := s14 _ _ hW1
    -- each transition
    refine ⟨_, rfl, l, _, rfl, .inl (SqL.of (s14 _ _ (s1 _ _ hl))), _, rfl, by omega, by rw [len_ref]; omega, ?_⟩
    rw [len_ref]
    have eqs : (ps ++ [(ca, x.2.1)]).map (·.2) = x.2.2 ++ [x.2.1] := by
      rw [List.map_append, r5]
      rfl
    have lqs : (ps ++ [(ca, x.2.1)]).length ≤ 24 := by
      rw [List.length_append]
      exact few2
    have hpp4 : H4 pp = some (.tup (refs (ps ++ [(ca, x.2.1)]))) := by
      rw [refs, List.map_append]
      exact s4 _ _ hpp
    have hqs4 : Cfgs H4 (ps ++ [(ca, x.2.1)]) := fun p hp => by
      rcases List.mem_append.mp hp with z | z
      · exact (r4 p z).up s14
      · rw [List.mem_singleton.mp z]
        exact r2'.up s4
    have nqs : ∀ p ∈ ps ++ [(ca, x.2.1)], p.2.length = n := fun p hp => by
      have z : p.2 ∈ x.2.2 ++ [x.2.1] := by rw [← eqs]; exact List.mem_map.mpr ⟨p, hp, rfl⟩
      rcases List.mem_append.mp z with y | y
      · exact xf.2.2.2 _ y
      · rw [List.mem_singleton.mp y]; exact xf.1
    generalize ps ++ [(ca, x.2.1)] = qs at eqs lqs hpp4 hqs4 nqs
    refine for_range (lo := 0) (n := ks.length) (fun k σ H' => ∃ (rs' : List (Addr × Row)) (v9 v10 : Option V), σ = [some (.ref l), some (.ref al), some (.ref g), some (.ref W), v4, some (.int (i : Int)), some (.ref ca), some (.ref pp), v8, v9, v10] ∧ Same H H' ∧ Cfg H' ca x.2.1 ∧ H' pp = some (.tup (refs qs)) ∧ Cfgs H' qs ∧ H' W = some (.lst (refs rs')) ∧ Rows H' rs' ∧ (∃ more, rs' = rs ++ more) ∧ rs'.length ≤ 80 + k * 28561 ∧ (∀ r ∈ rs'.map (·.2), Fit n r) ∧ ∀ j, j < k → ∀ t, (ks.map (·.2))[j]? = some t → ∀ y, IsPred n t x.2.1 y → (∃ z ∈ x.2.2 ++ [x.2.1], cov y z = true) ∨ (y, x.2.2 ++ [x.2.1]) ∈ rs'.map (·.2))
      ⟨rs, _, _, rfl, s1.trans s14, r2'.up s4, hpp4, hqs4, hW4, hr4, ⟨[], (List.append_nil rs).symm⟩, by omega, hfit, fun j hj => absurd hj (Nat.not_lt_zero _)⟩ ?_ ?_
    · rintro k σ H5 hk' ⟨rs', v9, v10, rfl, s5, g1, g2, g3, hW5, hr5, ⟨more, em⟩, len5, fit5, kid5⟩
      rw [Int.zero_add]
      obtain ⟨c1', c2', e1, e2, e3⟩ := id g1
      have ek : ks[k]? = some ks[k] := get_some hk'
      have km := List.getElem_mem hk'
      have et : (ks.map (·.2))[k]? = some (ks[k]).2 := snd_get ek
      have okt := ok.at et
      have mi := miss_12 okt xf.1 up12
      have hl5 : H5 l = some (.lst (refs ks)) := s5 _ _ hl
      refine ⟨_, rfl, _, rfl, l, _, _, _, rfl, rfl, SqL.of hl5, at_ref ek, _, rfl, ca, _, _, _, rfl, rfl, SqT.of e1, rfl, _, _, (ks[k]).2, x.2.1, n, rfl, (hk _ km).up s5, e2, okt, xf.1, by omega, fun r => Int.le_trans (mi r) (by decide), fun v H6 s6 => ?_⟩
      refine ⟨_, _, rfl, rfl, _, rfl, ?_⟩
      refine ite2 (fun c4 => ?_) (fun c4 => ?_)
      · exact q false H6 (s5.trans s6) (fun z => Bool.noConfusion z)
      have s06 := s5.trans s6
      have ea : as[k]? = some as[k] := get_some (by omega)
      have am := List.getElem_mem (show k < as.length by omega)
      refine ⟨_, rfl, _, rfl, l, _, _, _, rfl, rfl, SqL.of (s06 _ _ hl), at_ref ek, _, rfl, _, rfl, al, _, _, _, rfl, rfl, SqL.of (s06 _ _ hal), at_ref ea, _, rfl, _, _, _, (ks[k]).2, x.2.1, n, rfl, (hk _ km).up s06, ?_, g1.up s6, okt, h4, xf.1, up12, fun r bs H7 s7 nr hr7 tb hb lb => ?_⟩
      · obtain ⟨u1, u2, w0, w1, w2⟩ := has _ am
        exact ⟨u1, u2, s06 _ _ w0, s06 _ _ w1, s06 _ _ w2⟩
      have s57 := s6.trans s7
      have s07 := s5.trans s57
      have nrW : r ≠ W := fun e => by
        rw [e, s6 _ _ hW5] at nr
        cases nr
      have bsn : ∀ b ∈ bs, IsPred n (ks[k]).2 x.2.1 b.2 := fun b hm => (hb b.2).mp (List.mem_map.mpr ⟨b, hm, rfl⟩)
      refine ⟨r, rfl, ⟨_, SqL.of hr7⟩, for_list (K := K) (a := r) (xs := refs bs) (fun j σ H' => ∃ (rs2 : List (Addr × Row)) (v10 : Option V), σ = [some (.ref l), some (.ref al), some (.ref g), some (.ref W), v4, some (.int (i : Int)), some (.ref ca), some (.ref pp), v8, some (.int (k : Int)), v10] ∧ Same H H' ∧ Cfg H' ca x.2.1 ∧ H' pp = some (.tup (refs qs)) ∧ Cfgs H' qs ∧ H' r = some (.lst (refs bs)) ∧ Cfgs H' bs ∧ H' W = some (.lst (refs rs2)) ∧ Rows H' rs2 ∧ (∃ more, rs2 = rs' ++ more) ∧ rs2.length ≤ 80 + k * 28561 + j ∧ (∀ r ∈ rs2.map (·.2), Fit n r) ∧ ∀ b ∈ bs.take j, (∃ z ∈ x.2.2 ++ [x.2.1], cov b.2 z = true) ∨ (b.2, x.2.2 ++ [x.2.1]) ∈ rs2.map (·.2))
        ⟨rs', _, rfl, s07, g1.up s57, s57 _ _ g2, fun p hp => (g3 p hp).up s57, hr7, tb, s57 _ _ hW5, hr5.up s57, ⟨[], (List.append_nil rs').symm⟩, by omega, fit5, fun b hb => absurd hb List.not_mem_nil⟩ (fun j σ H' _ h => ?_) (fun j v σ H8 hv h => ?_) fun σ H' h => ?_⟩
      · obtain ⟨_, _, _, _, _, _, _, e, _⟩ := h
        exact SqL.of e
      · obtain ⟨rs2, v10, rfl, s8, f1, f2, f3, f4, f5, hW8, hr8, ⟨more2, em2⟩, len8, fit8, kid8⟩ := h
        obtain ⟨b, eb, rfl⟩ := ref_at hv
        have bm := List.mem_of_getElem? eb
        have bj := (List.getElem?_eq_some_iff.mp eb).1
        have bp := bsn b bm
        have bn : b.2.length = n := bp.len
        refine ⟨_, rfl, _, rfl, pp, b.1, qs, b.2, rfl, f2, f3, f5 b bm, fun p hp => by rw [nqs p hp, bn], by omega, _, rfl, ?_⟩
        have tkb := take_succ' eb
        cases ci : inC (qs.map (·.2)) b.2 with
        | true =>
          refine iteF ⟨rs2, _, rfl, s8, f1, f2, f3, f4, f5, hW8, hr8, ⟨more2, em2⟩, by omega, fit8, fun b' hb' => ?_⟩
          rw [tkb] at hb'
          rcases List.mem_append.mp hb' with z | z
          · exact kid8 b' z
          · rw [List.mem_singleton.mp z]
            obtain ⟨y, hy, cy⟩ := inC_iff.mp ci
            rw [eqs] at hy
            exact .inl ⟨y, hy, cy⟩
        | false =>
          refine iteT ⟨_, rfl, .inl ⟨rfl, _, SqL.of hW8⟩, _, rfl, _, rfl, by show 2 ≤ sizeLine; rw [line_eq]; omega, fun u hu => ?_⟩
          have s9 := same_new hu (.tup [V.ref b.1, V.ref pp])
          have hu9 : upd H8 u (.tup [V.ref b.1, V.ref pp]) u = some (.tup [V.ref b.1, V.ref pp]) := upd_same
          generalize upd H8 u (.tup [V.ref b.1, V.ref pp]) = H9 at s9 hu9
          have hW9 := s9 _ _ hW8
          have k3 : k ≤ 3 := by omega
          have lb2 : j < bs.length := bj
          refine ⟨W, _, _, rfl, rfl, hW9, by rw [len_ref, line_eq]; omega, ?_⟩
          have row : RowAt H9 u (b.2, x.2.2 ++ [x.2.1]) := ⟨b.1, pp, qs, hu9, (f5 b bm).up s9, s9 _ _ f2, fun p hp => (f3 p hp).up s9, eqs⟩
          have nl : ∀ xs, HO.lst (refs rs2) ≠ .tup xs := by intro _ z; cases z
          have bfit : Fit n (b.2, x.2.2 ++ [x.2.1]) := by
            refine ⟨bn, fun i' hi' => ?_, ?_, fun y hy => ?_⟩
            · have t1 := bp.ge i' hi'
              have t2 := (okt.ptk i' hi').1
              show 0 ≤ gt b.2 i'
              omega
            · show (x.2.2 ++ [x.2.1]).length ≤ 24
              rw [← eqs, List.length_map]
              exact lqs
            · have z : y ∈ qs.map (·.2) := by rw [eqs]; exact hy
              obtain ⟨p, hp, rfl⟩ := List.mem_map.mp z
              exact nqs p hp
          refine ⟨rs2 ++ [(u, (b.2, x.2.2 ++ [x.2.1]))], _, rfl, same_mut (s8.trans s9) nW, (f1.up s9).mut hW9 nl, tup_mut hW9 nl (s9 _ _ f2), fun p hp => ((f3 p hp).up s9).mut hW9 nl, ?_, fun p hp => ((f5 p hp).up s9).mut hW9 nl, ?_, (hr8.up s9).push hW9 row, ⟨more2 ++ [(u, (b.2, x.2.2 ++ [x.2.1]))], by rw [em2, List.append_assoc]⟩, by rw [List.length_append]; show rs2.length + 1 ≤ _; omega, fun r' hr' => ?_, fun b' hb' => ?_⟩
          · rw [upd_ne nrW]
            exact s9 _ _ f4
          · rw [upd_same, refs, refs, List.map_append]
            rfl
          · rw [List.map_append] at hr'
            rcases List.mem_append.mp hr' with z | z
            · exact fit8 r' z
            · have e : r' = (b.2, x.2.2 ++ [x.2.1]) := List.mem_singleton.mp z
              rw [e]
              exact bfit
          · rw [List.map_append]
            rw [tkb] at hb'
            rcases List.mem_append.mp hb' with z | z
            · rcases kid8 b' z with w | w
              · exact .inl w
              · exact .inr (List.mem_append_left _ w)
            · rw [List.mem_singleton.mp z]
              exact .inr (List.mem_append_right _ (List.mem_singleton.mpr rfl))
      · obtain ⟨rs2, v10, rfl, s8, f1, f2, f3, f4, f5, hW8, hr8, ⟨more2, em2⟩, len8, fit8, kid8⟩ := h
        rw [len_ref] at len8 kid8
        rw [List.take_length] at kid8
        have sub : ∀ y ∈ rs'.map (·.2), y ∈ rs2.map (·.2) := fun y hy => by
          rw [em2, List.map_append]
          exact List.mem_append_left _ hy
        refine ⟨rs2, _, _, rfl, s8, f1, f2, f3, hW8, hr8, ⟨more ++ more2, by rw [em2, em, List.append_assoc]⟩, by omega, fit8, fun j hj t e y pr => ?_⟩
        by_cases z : j < k
        · rcases kid5 j z t e y pr with w | w
          · exact .inl w
          · exact .inr (sub _ w)
        · have ejk : j = k := by omega
          subst ejk
          rw [et] at e
          cases e
          obtain ⟨b, hbm, rfl⟩ := List.mem_map.mp ((hb y).mpr pr)
          exact kid8 b hbm
    · rintro σ H5 ⟨rs', v9, v10, rfl, s5, g1, g2, g3, hW5, hr5, ⟨more, em⟩, len5, fit5, kid5⟩
      have sub : ∀ y ∈ rs.map (·.2), y ∈ rs'.map (·.2) := fun y hy => by
        rw [em, List.map_append]
        exact List.mem_append_left _ hy
      have tk : (rs'.map (·.2)).take (i + 1) = (rs.map (·.2)).take i ++ [x.2] := by
        have z : (rs.map (·.2))[i]? = some x.2 := snd_get ex
        rw [em, List.map_append, List.take_append_of_le_length (by rw [List.length_map]; omega), take_succ' z]
      refine ⟨rs', _, _, _, _, _, _, _, rfl, s5, hW5, hr5, by rw [em, List.length_append]; omega, fun m hm => sub _ (hroot m hm), fit5, by omega, fun r hr => ?_⟩
      rw [tk] at hr
      rcases List.mem_append.mp hr with z | z
      · exact ⟨(hdone r z).1, Kid.mono (hdone r z).2 sub⟩
      · rw [List.mem_singleton.mp z]
        refine ⟨low, fun j t e y pr => ?_⟩
        have lj : j < ks.length := by
          have := (List.getElem?_eq_some_iff.mp e).1
          rw [List.length_map] at this
          exact this
        exact kid5 j lj t e y pr
  · rintro σ H1 ⟨rs, v4, v5, v6, v7, v8, v9, v10, rfl, s1, _⟩
    exact q false H1 s1 (fun z => Bool.noConfusion z)
end
end K16
namespace K16
open PySem L2
/-- transitions with which the saturation stays small -/
def sp_Ltame : Sp := fun vs H Q _ => ∃ (l g : Addr) (ks : List (Addr × Tr)) (gs : List (Addr × List Int)) (n : Nat), vs = [.ref l, .ref g] ∧ H l = some (.lst (refs ks)) ∧ Trs H ks ∧ TrsOk n (ks.map (·.2)) ∧ n ≤ 4 ∧ 1 ≤ ks.length ∧ ks.length ≤ 4 ∧
  H g = some (.lst (refs gs)) ∧ Tus H gs ∧ gs.length ≤ 3 ∧ (∀ p ∈ gs, p.2.length = n ∧ ∀ i, i < n → 0 ≤ gt p.2 i ∧ gt p.2 i ≤ 3) ∧
  ∀ (l' : Addr) (ks' : List (Addr × Tr)) (H' : Hp), Same H H' → H' l' = some (.lst (refs ks')) → Trs H' ks' → TrsOk n (ks'.map (·.2)) → 1 ≤ ks'.length → ks'.length ≤ 4 → Bnd n (ks'.map (·.2)) (gs.map (·.2)) → Q (.ref l') H'
theorem NoMail.mut {H : Hp} {a b : Addr} {o o' : HO} (h : NoMail H a) (e : H b = some o) (n : ∀ xs, o ≠ .tup xs) : NoMail (upd H b o') a := by
  obtain ⟨u, v, h1, h2, h3⟩ := h
  exact ⟨u, v, tup_mut e n h1, tup_mut e n h2, tup_mut e n h3⟩
theorem NoMail.up {H H' : Hp} {a : Addr} (h : NoMail H a) (s : Same H H') : NoMail H' a := by
  obtain ⟨u, v, h1, h2, h3⟩ := h
  exact ⟨u, v, s _ _ h1, s _ _ h2, s _ _ h3⟩
section
variable {P : Program} {w : World} {K : PySem.W.Frag} {mg : Str → Option Value} {base : Heap} {f : Addr} {fd : FuncData}
theorem sc_Ltame : FnScope ["_law_transitions", "_law_goals", "_law_plain", "_law_transition_here", "_law_goal"] ["_law_transitions", "_law_goals"] (defScope sLtame) := ⟨rfl, rfl, rfl, by decide +kernel, rfl, by decide +kernel, by decide +kernel⟩
theorem ok_Ltame (F : Stands K mg "_law_tame" sLtame ["_law_transitions", "_law_goals"] f fd) (T : Blt mg) (CLsmall : Has P w K mg base "_law_small" ["_law_transitions", "_law_actions", "_law_goals"] 4 sp_Lsmall) (CLcalm : Has P w K mg base "_law_calm" ["_law_transition_here"] 1 sp_Lcalm) : Has P w K mg base "_law_tame" ["_law_transitions", "_law_goals"] 5 sp_Ltame := by
  obtain ⟨_, _, GLsmall, mLsmall, kLsmall, bLsmall⟩ := CLsmall
  obtain ⟨_, _, GLcalm, mLcalm, kLcalm, bLcalm⟩ := CLcalm
  refine ⟨f, fd, F.1.ok sc_Ltame (fun vs H Q E h => ?_) (fun cdv A outer s H vs Q E hr h => ?_), F.2.1, F.1.kp, F.2.2⟩
  · obtain ⟨l, g, ks, gs, n, rfl, _⟩ := h
    rfl
  obtain ⟨l, g, ks, gs, n, rfl, hl, hk, ok, h4, k1, k4, hg, hgs, few, hz, q⟩ := h
  refine ⟨_, pss_cons (ps_setLc (i := 2) (own := [("_law_transition_here", 3)]) (g := gName 3) (tt := tYes) rfl sc_Ltame.nd rfl rfl rfl (pi_list (pv 0)) (blkOk_by (own := [("_law_transition_here", 3)]) (N := ["_law_transitions", "_law_goals", "_law_plain", "_law_transition_here", "_law_goal"]) (sc := defScope sLtame) (by decide +kernel)) (fun _ _ _ _ _ => pg_name (i := 3) sc_Ltame.nd rfl (Or.inl rfl)) (fun _ _ _ _ _ => pts_nil) (fun _ _ _ _ _ => (pe_tup (pa_cons (pe_tup pa_nil) (pa_cons (pe_tup pa_nil) pa_nil)))))
    (pss_cons (ps_if (pt_val (pe_call GLsmall hr rfl mLsmall kLsmall bLsmall .nil pass0 (pa_cons (pv 0) (pa_cons (pv 2) (pa_cons (pe_lc (own := [("_law_goal", 4)]) (g := gName 4) (tt := tYes) rfl sc_Ltame.nd (pi_list (pv 1)) (blkOk_by (own := [("_law_goal", 4)]) (N := ["_law_transitions", "_law_goals", "_law_plain", "_law_transition_here", "_law_goal"]) (sc := defScope sLtame) (by decide +kernel)) (fun _ _ _ _ _ => pg_name (i := 4) sc_Ltame.nd rfl (Or.inl rfl)) (fun _ _ _ _ _ => pts_nil) (fun _ _ _ _ _ => (pe_tup (pa_cons (pv 4) (pa_cons (pe_tup pa_nil) pa_nil))))) pa_nil)))))
      (pss_one (ps_ret (pv 0))) pss_nil)
    (pss_one (ps_ret (pe_lst (pa_cons (pe_call GLcalm (hr.mono (by decide)) rfl mLcalm kLcalm bLcalm .nil pass0 (pa_cons (pe_ix ix_list (pv 0) pe_int (fun _ _ => rfl)) pa_nil)) pa_nil))))), ?_⟩
  have nol : ∀ ys xs, HO.lst ys ≠ .tup xs := by intro _ _ z; cases z
  refine ⟨_, rfl, l, rfl, ⟨_, SqL.of hl⟩, fun D hD => lc_list (K := K) (a := l) (xs := refs ks) (fun i H' => Same H H' ∧ ∃ as : List (Addr × Unit), H' D = some (.lst (refs as)) ∧ (∀ a ∈ as, NoMail H' a.1) ∧ as.length = i) ⟨same_new hD _, [], upd_same, fun r hr => absurd hr List.not_mem_nil, rfl⟩ (fun i H' _ h => SqL.of (h.1 _ _ hl)) (fun i v H' hv h => ?_) fun H1 h => ?_⟩
  · obtain ⟨s1, as, hD1, ha1, la⟩ := h
    obtain ⟨y, ey, rfl⟩ := ref_at hv
    have li := (List.getElem?_eq_some_iff.mp ey).1
    refine ⟨rfl, ?_⟩
    refine ⟨by show 0 ≤ sizeLine; exact Nat.zero_le _, fun e1 he1 => ?_⟩
    have s2 := same_new he1 (.tup [])
    have t1 : upd H' e1 (.tup []) e1 = some (.tup []) := upd_same
    generalize upd H' e1 (.tup []) = H2 at s2 t1
    refine ⟨by show 0 ≤ sizeLine; exact Nat.zero_le _, fun e2 he2 => ?_⟩
    have s3 := same_new he2 (.tup [])
    have t2 : upd H2 e2 (.tup []) e2 = some (.tup []) := upd_same
    generalize upd H2 e2 (.tup []) = H3 at s3 t2
    refine ⟨by show 2 ≤ sizeLine; rw [line_eq]; omega, fun c hc => ?_⟩
    have s4 := same_new hc (.tup [V.ref e1, V.ref e2])
    have t3 : upd H3 c (.tup [V.ref e1, V.ref e2]) c = some (.tup [V.ref e1, V.ref e2]) := upd_same
    generalize upd H3 c (.tup [V.ref e1, V.ref e2]) = H4 at s4 t3
    have s14 := s2.trans (s3.trans s4)
    have hD4 := s14 _ _ hD1
    refine ⟨_, hD4, by rw [len_ref, line_eq]; omega, same_mut (s1.trans s14) hD, as ++ [(c, ())], by rw [upd_same, refs, refs, List.map_append]; rfl, fun a ham => ?_, by rw [List.length_append, la]; rfl⟩
    rcases List.mem_append.mp ham with z | z
    · exact ((ha1 a z).up s14).mut hD4 (nol _)
    · rw [List.mem_singleton.mp z]
      exact NoMail.mut ⟨e1, e2, t3, s4 _ _ (s3 _ _ t1), s4 _ _ t2⟩ hD4 (nol _)
  obtain ⟨s1, as, hD1, ha1, la⟩ := h
  rw [len_ref] at la
  refine ⟨_, rfl, _, rfl, _, rfl, g, rfl, ⟨_, SqL.of (s1 _ _ hg)⟩, fun G hG => lc_list (K := K) (a := g) (xs := refs gs) (fun i H' => Same H1 H' ∧ ∃ cs : List (Addr × List Int), H' G = some (.lst (refs cs)) ∧ Cfgs H' cs ∧ cs.map (·.2) = (gs.take i).map (·.2)) ⟨same_new hG _, [], upd_same, fun r hr => absurd hr List.not_mem_nil, rfl⟩ (fun i H' _ h => SqL.of (h.1 _ _ (s1 _ _ hg))) (fun i v H' hv h => ?_) fun H2 h => ?_⟩
  · obtain ⟨s2, cs, hG2, hc2, ec⟩ := h
    obtain ⟨y, ey, rfl⟩ := ref_at hv
    have ym := List.mem_of_getElem? ey
    have li := (List.getElem?_eq_some_iff.mp ey).1
    have lc : cs.length ≤ 3 := by
      have e := congrArg List.length ec
      rw [List.length_map, List.length_map, List.length_take] at e
      omega
    refine ⟨rfl, ?_⟩
    refine ⟨_, rfl, by show 0 ≤ sizeLine; exact Nat.zero_le _, fun e he => ?_⟩
    have s3 := same_new he (.tup [])
    have t1 : upd H' e (.tup []) e = some (.tup []) := upd_same
    generalize upd H' e (.tup []) = H3 at s3 t1
    refine ⟨by show 2 ≤ sizeLine; rw [line_eq]; omega, fun c hc => ?_⟩
    have s4 := same_new hc (.tup [V.ref y.1, V.ref e])
    have t2 : upd H3 c (.tup [V.ref y.1, V.ref e]) c = some (.tup [V.ref y.1, V.ref e]) := upd_same
    generalize upd H3 c (.tup [V.ref y.1, V.ref e]) = H4 at s4 t2
    have s24 := s3.trans s4
    have hG4 := s24 _ _ hG2
    refine ⟨_, hG4, by rw [len_ref, line_eq]; omega, same_mut (s2.trans s24) hG, cs ++ [(c, y.2)], by rw [upd_same, refs, refs, List.map_append]; rfl, fun a ham => ?_, by rw [take_succ' ey, List.map_append, List.map_append, ec]; rfl⟩
    rcases List.mem_append.mp ham with z | z
    · exact ((hc2 a z).up s24).mut hG4 (nol _)
    · rw [List.mem_singleton.mp z]
      exact Cfg.mut ⟨y.1, e, t2, (hgs y ym).up (s1.trans (s2.trans s24)), s4 _ _ t1⟩ hG4 (nol _)
  obtain ⟨s2, cs, hG2, hc2, ec⟩ := h
  rw [len_ref, List.take_length] at ec
  have s12 := s1.trans s2
  have lc : cs.length = gs.length := by
    have e := congrArg List.length ec
    rw [List.length_map, List.length_map] at e
    exact e
  have nG : H1 G = none := hG
  have hDD : H2 D = some (.lst (refs as)) := s2 _ _ hD1
  refine ⟨l, D, G, ks, as, cs, n, rfl, s12 _ _ hl, hk.up s12, ok, h4, k4, hDD, fun a ha => (ha1 a ha).up s2, la, hG2, hc2, by omega, fun p hp => ?_, fun b H3 s3 hb => ?_⟩
  · have z : p.2 ∈ gs.map (·.2) := by rw [← ec]; exact List.mem_map.mpr ⟨p, hp, rfl⟩
    obtain ⟨y, hy, ey⟩ := List.mem_map.mp z
    rw [← ey]
    exact ⟨(hz y hy).1, fun i hi => ((hz y hy).2 i hi).1⟩
  have s03 := s12.trans s3
  rw [ec] at hb
  refine ⟨_, rfl, ?_⟩
  cases b with
  | true =>
    refine iteT ?_
    obtain ⟨R, T⟩ := hb rfl
    exact ⟨_, rfl, q l ks H3 s03 (s03 _ _ hl) (hk.up s03) ok k1 k4 T.bnd⟩
  | false =>
    refine iteF ?_
    have e0 : ks[0]? = some ks[0] := get_some k1
    have km := List.getElem_mem (show 0 < ks.length from k1)
    have okt := ok.at (snd_get e0)
    refine ⟨_, rfl, l, _, _, _, rfl, rfl, SqL.of (s03 _ _ hl), at_ref (i := 0) e0, _, (ks[0]).2, n, rfl, (hk _ km).up s03, okt, by omega, fun c u H4 s4 tc cal low => ?_⟩
    refine ⟨by show 1 ≤ sizeLine; rw [line_eq]; omega, fun r hr => ?_⟩
    have s5 := same_new hr (.lst [V.ref c])
    refine q r [(c, u)] _ (s03.trans (s4.trans s5)) upd_same (fun p hp => by rw [List.mem_singleton.mp hp]; exact tc.up s5) ⟨fun t ht => ?_⟩ (Nat.le_refl 1) (by show 1 ≤ 4; omega) ?_
    · have e : t = u := List.mem_singleton.mp ht
      rw [e]
      exact cal.ok
    · refine calm_bnd h4 cal low (by rw [List.length_map]; exact few) fun m hm => ?_
      obtain ⟨y, hy, rfl⟩ := List.mem_map.mp hm
      exact hz y hy
end
end K16
namespace K16
open PySem L2
structure SatC (K : PySem.W.Frag) (C : Addr) : Prop where
  cl : Cls K C
  nN : NoAttr K C "net"
  nF : NoAttr K C "found"
  nG : NoAttr K C "following"
theorem sNF : ¬ (("net" : Str) = "found") := by decide +kernel
theorem sNG : ¬ (("net" : Str) = "following") := by decide +kernel
theorem sFG : ¬ (("found" : Str) = "following") := by decide +kernel
def satF (net fa ga : Addr) : List (Str × V) := putF "following" (.ref ga) (putF "found" (.ref fa) (putF "net" (.ref net) []))
theorem satF_net (net fa ga : Addr) : (satF net fa ga).lookup ("net" : Str) = some (.ref net) := by
  unfold satF
  rw [lookup_putF, if_neg sNG, lookup_putF, if_neg sNF, lookup_putF, if_pos rfl]
theorem satF_found (net fa ga : Addr) : (satF net fa ga).lookup ("found" : Str) = some (.ref fa) := by
  unfold satF
  rw [lookup_putF, if_neg sFG, lookup_putF, if_pos rfl]
theorem satF_following (net fa ga : Addr) : (satF net fa ga).lookup ("following" : Str) = some (.ref ga) := by
  unfold satF
  rw [lookup_putF, if_pos rfl]
theorem satF_no (net fa ga : Addr) {m : Str} (h1 : ¬ m = "net") (h2 : ¬ m = "found") (h3 : ¬ m = "following") : (satF net fa ga).lookup m = none := by
  unfold satF
  rw [lookup_putF, if_neg h3, lookup_putF, if_neg h2, lookup_putF, if_neg h1]
  rfl
def FolIs (H : Hp) : Fol → V → Prop
  | none, v => v = .non
  | some (k, j), v => ∃ a : Addr, v = .ref a ∧ H a = some (.tup [.int (k : Int), .int (j : Int)])
theorem FolIs.tups {H H' : Hp} {g : Fol} {v : V} (h : FolIs H g v) (s : ∀ a xs, H a = some (.tup xs) → H' a = some (.tup xs)) : FolIs H' g v := by
  cases g with
  | none => exact h
  | some q =>
    obtain ⟨k, j⟩ := q
    obtain ⟨a, e, ha⟩ := h
    exact ⟨a, e, s _ _ ha⟩
/-- a saturation as an object -/
structure SatAt (C : Addr) (H : Hp) (p net fa ga : Addr) (fs : List (Addr × List Int)) (gs : List Fol) : Prop where
  obj : ∃ dx, H p = some (.ins C dx (satF net fa ga))
  fnd : H fa = some (.lst (refs fs))
  its : Tus H fs
  fol : ∃ vs, H ga = some (.lst vs) ∧ vs.length = gs.length ∧ ∀ (i : Nat) (v : V) (g : Fol), vs[i]? = some v → gs[i]? = some g → FolIs H g v
  ne : fa ≠ ga
theorem SatAt.up {C : Addr} {H H' : Hp} {p net fa ga : Addr} {fs : List (Addr × List Int)} {gs : List Fol} (S : SatAt C H p net fa ga fs gs) (s : Same H H') : SatAt C H' p net fa ga fs gs := by
  obtain ⟨⟨dx, h1⟩, h2, h3, ⟨vs, h4, h5, h6⟩, h7⟩ := S
  exact ⟨⟨dx, s _ _ h1⟩, s _ _ h2, h3.up s, ⟨vs, s _ _ h4, h5, fun i v g a b => (h6 i v g a b).tups fun a xs e => s _ _ e⟩, h7⟩
/-- all but the two lists as it was -/
def But2 (fa ga : Addr) (H H' : Hp) : Prop := ∀ b o, H b = some o → b ≠ fa → b ≠ ga → H' b = some o
theorem But2.refl (fa ga : Addr) (H : Hp) : But2 fa ga H H := fun _ _ e _ _ => e
theorem But2.trans {fa ga : Addr} {H H1 H2 : Hp} (a : But2 fa ga H H1) (b : But2 fa ga H1 H2) : But2 fa ga H H2 := fun c o e n m => b c o (a c o e n m) n m
theorem But2.new {fa ga : Addr} {H H1 H2 : Hp} (a : But2 fa ga H H1) (b : Same H1 H2) : But2 fa ga H H2 := fun c o e n m => b c o (a c o e n m)
theorem same_but2 {fa ga : Addr} {H H1 : Hp} (b : Same H H1) : But2 fa ga H H1 := fun c o e _ _ => b c o e
/-- one more, if it is not covered -/
def sp_Sat_add (C : Addr) : Sp := fun vs H Q _ => ∃ (p a net fa ga : Addr) (v : V) (fs : List (Addr × List Int)) (gs : List Fol) (x : List Int) (g : Fol) (n : Nat), vs = [.ref p, .ref a, v] ∧ SatAt C H p net fa ga fs gs ∧ Tu H a x ∧ FolIs H g v ∧ x.length = n ∧ n ≤ 1000 ∧ (∀ y ∈ fs, y.2.length = n) ∧ fs.length ≤ 1000 ∧ gs.length = fs.length ∧
  ∀ (fs' : List (Addr × List Int)) (gs' : List Fol) (H' : Hp), But2 fa ga H H' → SatAt C H' p net fa ga fs' gs' → ((fs' = fs ∧ gs' = gs ∧ inC (fs.map (·.2)) x = true) ∨ (fs' = fs ++ [(a, x)] ∧ gs' = gs ++ [g] ∧ inC (fs.map (·.2)) x = false)) → Q .non H'
theorem But2.keep {fa ga : Addr} {H H' : Hp} (s : But2 fa ga H H') {xs ys : List V} (h1 : H fa = some (.lst xs)) (h2 : H ga = some (.lst ys)) {b : Addr} {o : HO} (e : H b = some o) (nl : ∀ zs, o ≠ .lst zs) : H' b = some o := s b o e
  (fun z => by
    rw [z, h1] at e
    exact nl _ (Option.some.inj e).symm)
  (fun z => by
    rw [z, h2] at e
    exact nl _ (Option.some.inj e).symm)
theorem SatAt.lists {C : Addr} {H : Hp} {p net fa ga : Addr} {fs : List (Addr × List Int)} {gs : List Fol} (S : SatAt C H p net fa ga fs gs) : ∃ xs ys, H fa = some (.lst xs) ∧ H ga = some (.lst ys) := by
  obtain ⟨vs, h, _⟩ := S.fol
  exact ⟨_, vs, S.fnd, h⟩
theorem NetAt.but {CN : Addr} {H H' : Hp} {net : Addr} {n : Nat} {ts : List Tr} (N : NetAt CN H net n ts) (s : ∀ b o, H b = some o → (∀ zs, o ≠ .lst zs) → H' b = some o) : NetAt CN H' net n ts := by
  obtain ⟨dx, tt, ks, h1, h2, h3, h4⟩ := N
  have t : ∀ {b xs}, H b = some (.tup xs) → H' b = some (.tup xs) := fun {b xs} e => s b _ e (by intro _ z; cases z)
  refine ⟨dx, tt, ks, s _ _ h1 (by intro _ z; cases z), t h2, fun x hx => ?_, h4⟩
  obtain ⟨a1, a2, a3, g0, g1, g2, g3⟩ := h3 x hx
  exact ⟨a1, a2, a3, t g0, t g1, t g2, t g3⟩
/-- the saturation of the goals -/
def sp_Sat_init (C CN : Addr) : Sp := fun vs H Q _ => ∃ (p dx net g : Addr) (gs : List (Addr × List Int)) (ts : List Tr) (n : Nat), vs = [.ref p, .ref net, .ref g] ∧ H p = some (.ins C dx []) ∧ NetAt CN H net n ts ∧ net ≠ p ∧ H g = some (.lst (refs gs)) ∧ Tus H gs ∧ gs.length ≤ 100 ∧
  1 ≤ n ∧ n ≤ 4 ∧ TrsOk n ts ∧ ts.length ≤ 100 ∧ (∀ y ∈ gs, y.2.length = n ∧ ∀ i, i < n → 0 ≤ gt y.2 i) ∧ Bnd n ts (gs.map (·.2)) ∧
  ∀ (fa ga : Addr) (fs : List (Addr × List Int)) (G : List Fol) (H' : Hp), (∀ b o, H b = some o → b ≠ p → H' b = some o) → SatAt C H' p net fa ga fs G → Sat n ts (gs.map (·.2)) (fs.map (·.2)) G → Done n ts (fs.map (·.2)) fs.length → (∀ x ∈ gs.map (·.2), inC (fs.map (·.2)) x = true) → Q .non H'
/-- a run that leads from what is covered to what covers a goal -/
def sp_Sat_way (C : Addr) : Sp := fun vs H Q _ => ∃ (p m net fa ga : Addr) (fs : List (Addr × List Int)) (G : List Fol) (ts : List Tr) (goals : List (List Int)) (n : Nat) (x : List Int), vs = [.ref p, .ref m] ∧ SatAt C H p net fa ga fs G ∧ Sat n ts goals (fs.map (·.2)) G ∧ TrsOk n ts ∧ Tu H m x ∧ x.length = n ∧ n ≤ 1000 ∧ fs.length ≤ 1000 ∧ inC (fs.map (·.2)) x = true ∧
  ∀ (r : Addr) (run : List Nat) (y : List Int) (H' : Hp), Same H H' → H r = none → H' r = some (.lst ((run.map Int.ofNat).map V.int)) → (∀ k ∈ run, k < ts.length) → runM ts x run = some y → y.length = n → inC goals y = true → run.length ≤ 1000 → Q (.ref r) H'
section
variable {P : Program} {w : World} {K : PySem.W.Frag} {mg : Str → Option Value} {base : Heap} {f : Addr} {fd : FuncData}
theorem sc_Saturation_add : FnScope ["self", "marking", "following"] ["self", "marking", "following"] (defScope sSaturation_add) := ⟨rfl, rfl, rfl, by decide +kernel, rfl, by decide +kernel, by decide +kernel⟩
theorem ok_Saturation_add {C : Addr} (F : Fun K "add" "Saturation.add" sSaturation_add f fd) (SC : SatC K C) (Cin_closed : Has P w K mg base "in_closed" ["members", "marking"] 2 (spInside K)) : FnOk P w K mg base CX0 3 f fd ["self", "marking", "following"] (sp_Sat_add C) := by
  obtain ⟨_, _, Gin_closed, min_closed, kin_closed, bin_closed⟩ := Cin_closed
  refine F.ok sc_Saturation_add (fun vs H Q E h => ?_) (fun cdv A outer s H vs Q E hr h => ?_)
  · obtain ⟨p, a, net, fa, ga, v, fs, gs, x, g, n, rfl, _⟩ := h
    rfl
  obtain ⟨p, a, net, fa, ga, v, fs, gs, x, g, n, rfl, S, hx, hg, xn, n1, hn, few, lg, q⟩ := h
  refine ⟨_, pss_one (ps_if (pt_not (pt_val (pe_call Gin_closed hr rfl min_closed kin_closed bin_closed .nil pass0 (pa_cons (pe_fld (pv 0) rfl) (pa_cons (pv 1) pa_nil)))))
      (pss_cons (ps_expr (pe_bm PySem.F.plainAttrs_list PySem.F.slot_list_append PySem.F.type_list_append mt_append (pe_fld (pv 0) rfl) (pa_cons (pv 1) pa_nil)))
      (pss_one (ps_expr (pe_bm PySem.F.plainAttrs_list PySem.F.slot_list_append PySem.F.type_list_append mt_append (pe_fld (pv 0) rfl) (pa_cons (pv 2) pa_nil))))) pss_nil), ?_⟩
  obtain ⟨⟨dx, h1⟩, h2, h3, ⟨us, h4, h5, h6⟩, h7⟩ := id S
  have npf : p ≠ fa := ne_of h1 h2 (by intro z; cases z)
  have npg : p ≠ ga := ne_of h1 h4 (by intro z; cases z)
  refine ⟨_, rfl, p, C, dx, _, _, rfl, h1, SC.cl, SC.nF, satF_found _ _ _, _, rfl, fa, a, fs, x, rfl, .inl (SqL.of h2), h3, hx, fun y hy => by rw [hn y hy, xn], by omega, _, rfl, ?_⟩
  cases c : inC (fs.map (·.2)) x with
  | true => exact iteF (q fs gs H (But2.refl fa ga H) S (.inl ⟨rfl, rfl, c⟩))
  | false =>
    refine iteT ?_
    refine ⟨_, rfl, p, C, dx, _, _, rfl, h1, SC.cl, SC.nF, satF_found _ _ _, .inl ⟨rfl, _, SqL.of h2⟩, _, rfl, fa, _, _, rfl, rfl, h2, by rw [len_ref, line_eq]; omega, ?_⟩
    have nol : ∀ ys xs, HO.lst ys ≠ .tup xs := by intro _ _ z; cases z
    have e1 : upd H fa (.lst (refs fs ++ [V.ref a])) p = some (.ins C dx (satF net fa ga)) := by rw [upd_ne npf]; exact h1
    have e4 : upd H fa (.lst (refs fs ++ [V.ref a])) ga = some (.lst us) := by rw [upd_ne h7.symm]; exact h4
    have t1 : ∀ b xs, H b = some (.tup xs) → upd H fa (.lst (refs fs ++ [V.ref a])) b = some (.tup xs) := fun b xs e => tup_mut h2 (nol _) e
    have e2 : upd H fa (.lst (refs fs ++ [V.ref a])) fa = some (.lst (refs (fs ++ [(a, x)]))) := by
      rw [upd_same, refs, refs, List.map_append]
      rfl
    have b1 : ∀ b o, H b = some o → b ≠ fa → upd H fa (.lst (refs fs ++ [V.ref a])) b = some o := fun b o e m => by rw [upd_ne m]; exact e
    generalize upd H fa (.lst (refs fs ++ [V.ref a])) = H1 at e1 e4 t1 e2 b1
    refine ⟨_, rfl, p, C, dx, _, _, rfl, e1, SC.cl, SC.nG, satF_following _ _ _, .inl ⟨rfl, _, SqL.of e4⟩, _, rfl, ga, _, _, rfl, rfl, e4, by rw [h5, lg, line_eq]; omega, ?_⟩
    have t2 : ∀ b xs, H b = some (.tup xs) → upd H1 ga (.lst (us ++ [v])) b = some (.tup xs) := fun b xs e => tup_mut e4 (nol _) (t1 b xs e)
    refine q (fs ++ [(a, x)]) (gs ++ [g]) _ (fun b o e m1 m2 => ?_) ⟨⟨dx, ?_⟩, ?_, fun y hy => ?_, ⟨us ++ [v], upd_same, by rw [List.length_append, List.length_append, h5]; rfl, fun i v' g' hv hg' => ?_⟩, h7⟩ (.inr ⟨rfl, rfl, c⟩)
    · rw [upd_ne m2]
      exact b1 b o e m1
    · rw [upd_ne npg]
      exact e1
    · rw [upd_ne h7]
      exact e2
    · rcases List.mem_append.mp hy with z | z
      · exact t2 _ _ (h3 y z)
      · rw [List.mem_singleton.mp z]
        exact t2 _ _ hx
    · rcases get_snoc hv with z | ⟨z, e⟩
      · rcases get_snoc hg' with y | ⟨y, e'⟩
        · exact (h6 i v' g' z y).tups t2
        · have := (List.getElem?_eq_some_iff.mp z).1
          omega
      · rcases get_snoc hg' with y | ⟨y, e'⟩
        · have := (List.getElem?_eq_some_iff.mp y).1
          omega
        · rw [e, e']
          exact hg.tups t2
theorem sc_Saturation_init : FnScope ["self", "net", "goals", "goal", "at", "index", "marking"] ["self", "net", "goals"] (defScope sSaturation_init) := ⟨rfl, rfl, rfl, by decide +kernel, rfl, by decide +kernel, by decide +kernel⟩
theorem ok_Saturation_init {C CN fA : Addr} {fdA : FuncData} (F : Fun K "__init__" "Saturation.__init__" sSaturation_init f fd) (T : Blt mg) (SC : SatC K C) (NC : NetC K CN) (GA : FnOk P w K mg base CX0 3 fA fdA ["self", "marking", "following"] (sp_Sat_add C)) (mA : Meth K C "add" fA) (bA : Binds K fdA ["self", "marking", "following"] []) (Cbasis_of : Has P w K mg base "basis_of" ["members"] 2 sp_basis_of) (Cpredecessors : Has P w K mg base "predecessors" ["transition", "member"] 6 sp_predecessors) : FnOk P w K mg base CX0 7 f fd ["self", "net", "goals"] (sp_Sat_init C CN) := by
  obtain ⟨_, _, Gbasis_of, mbasis_of, kbasis_of, bbasis_of⟩ := Cbasis_of
  obtain ⟨_, _, Gpredecessors, mpredecessors, kpredecessors, bpredecessors⟩ := Cpredecessors
  refine F.ok sc_Saturation_init (fun vs H Q E h => ?_) (fun cdv A outer s H vs Q E hr h => ?_)
  · obtain ⟨p, dx, net, g, gs, ts, n, rfl, _⟩ := h
    rfl
  obtain ⟨p, dx, net, g, gs, ts, n, rfl, hp, hnet, nnp, hg, hgs, few, n1, n4, ok, tfew, hz, bnd, q⟩ := h
  refine ⟨_, pss_cons (ps_fld (pv 0) (pv 1) rfl)
    (pss_cons (ps_fld (pv 0) (pe_lst pa_nil) rfl)
    (pss_cons (ps_fld (pv 0) (pe_lst pa_nil) rfl)
    (pss_cons (ps_for PassesOwn.never rfl (pi_list (pe_call Gbasis_of (hr.mono (by decide)) rfl mbasis_of kbasis_of bbasis_of .nil pass0 (pa_cons (pv 2) pa_nil))) (pg_name (i := 3) sc_Saturation_init.nd rfl (.inl rfl))
      (pss_one (ps_expr (pe_meth (pv 0) SC.cl mA GA (hr.mono (by decide)) bA .nil pass0 (pa_cons (pv 3) (pa_cons pe_non pa_nil))))))
    (pss_cons (ps_set (i := 4) sc_Saturation_init.nd rfl (.inl rfl) pe_int)
    (pss_one (ps_while PassesOwn.never (pt_cmpR op_lt (pv 4) (pe_callB call_len_seq rfl T.len PySem.boot_len (pa_cons (pe_fld (pv 0) rfl) pa_nil)) (nomark _))
      (pss_cons (ps_for PassesOwn.never rfl (pi_range1 rfl T.range (pa_cons (pe_callB call_len_seq rfl T.len PySem.boot_len (pa_cons (pe_fld (pv 1) rfl) pa_nil)) pa_nil)) (pg_name (i := 5) sc_Saturation_init.nd rfl (.inl rfl))
        (pss_one (ps_for PassesOwn.never rfl (pi_list (pe_call Gpredecessors hr rfl mpredecessors kpredecessors bpredecessors .nil pass0 (pa_cons (pe_ix ix_tup (pe_fld (pv 1) rfl) (pv 5) (fun _ _ => rfl)) (pa_cons (pe_ix ix_list (pe_fld (pv 0) rfl) (pv 4) (fun _ _ => rfl)) pa_nil)))) (pg_name (i := 6) sc_Saturation_init.nd rfl (.inl rfl))
          (pss_one (ps_expr (pe_meth (pv 0) SC.cl mA GA (hr.mono (by decide)) bA .nil pass0 (pa_cons (pv 6) (pa_cons (pe_tup (pa_cons (pv 5) (pa_cons (pv 4) pa_nil))) pa_nil))))))))
      (pss_one (ps_aug (i := 4) sc_Saturation_init.nd rfl (.inl rfl) pe_int ip_add))))))))), ?_⟩
  have nol : ∀ ys xs, HO.lst ys ≠ .tup xs := by intro _ _ z; cases z
  refine ⟨_, rfl, _, rfl, p, C, dx, _, rfl, hp, SC.cl, SC.nN, (by show 0 < 1000; decide), ?_⟩
  have k1 : upd H p (.ins C dx (putF "net" (.ref net) [])) p = some (.ins C dx (putF "net" (.ref net) [])) := upd_same
  have o1 : ∀ b o, H b = some o → b ≠ p → upd H p (.ins C dx (putF "net" (.ref net) [])) b = some o := fun b o e m => by rw [upd_ne m]; exact e
  generalize upd H p (.ins C dx (putF "net" (.ref net) [])) = H1 at k1 o1
  refine ⟨by show 0 ≤ sizeLine; exact Nat.zero_le _, fun fa hfa => ?_⟩
  have sfa := same_new hfa (.lst [])
  have npf : p ≠ fa := ne_of_none k1 hfa
  have m1 : (putF "net" (V.ref net) ([] : List (Str × V))).length < 1000 := by
    have := length_putF ("net" : Str) (V.ref net) []
    rw [List.length_nil] at this
    omega
  have m2 : (putF "found" (V.ref fa) (putF "net" (V.ref net) ([] : List (Str × V)))).length < 1000 := by
    have a1 := length_putF ("net" : Str) (V.ref net) []
    have a2 := length_putF ("found" : Str) (V.ref fa) (putF "net" (V.ref net) [])
    rw [List.length_nil] at a1
    omega
  refine ⟨_, rfl, p, C, dx, _, rfl, sfa _ _ k1, SC.cl, SC.nF, m1, ?_⟩
  have k2 : upd (upd H1 fa (.lst [])) p (.ins C dx (putF "found" (.ref fa) (putF "net" (.ref net) []))) p = some (.ins C dx (putF "found" (.ref fa) (putF "net" (.ref net) []))) := upd_same
  have o2 : ∀ b o, H b = some o → b ≠ p → upd (upd H1 fa (.lst [])) p (.ins C dx (putF "found" (.ref fa) (putF "net" (.ref net) []))) b = some o := fun b o e m => by rw [upd_ne m]; exact sfa _ _ (o1 b o e m)
  have f2 : upd (upd H1 fa (.lst [])) p (.ins C dx (putF "found" (.ref fa) (putF "net" (.ref net) []))) fa = some (.lst []) := by rw [upd_ne npf.symm, upd_same]
  generalize upd (upd H1 fa (.lst [])) p (.ins C dx (putF "found" (.ref fa) (putF "net" (.ref net) []))) = H2 at k2 o2 f2
  refine ⟨by show 0 ≤ sizeLine; exact Nat.zero_le _, fun ga hga => ?_⟩
  have sga := same_new hga (.lst [])
  have npg : p ≠ ga := ne_of_none k2 hga
  have nfg : fa ≠ ga := ne_of_none f2 hga
  refine ⟨_, rfl, p, C, dx, _, rfl, sga _ _ k2, SC.cl, SC.nG, m2, ?_⟩
  have k3 : upd (upd H2 ga (.lst [])) p (.ins C dx (putF "following" (.ref ga) (putF "found" (.ref fa) (putF "net" (.ref net) [])))) p = some (.ins C dx (satF net fa ga)) := upd_same
  have o3 : ∀ b o, H b = some o → b ≠ p → upd (upd H2 ga (.lst [])) p (.ins C dx (putF "following" (.ref ga) (putF "found" (.ref fa) (putF "net" (.ref net) [])))) b = some o := fun b o e m => by rw [upd_ne m]; exact sga _ _ (o2 b o e m)
  have f3 : upd (upd H2 ga (.lst [])) p (.ins C dx (putF "following" (.ref ga) (putF "found" (.ref fa) (putF "net" (.ref net) [])))) fa = some (.lst []) := by rw [upd_ne npf.symm]; exact sga _ _ f2
  have g3 : upd (upd H2 ga (.lst [])) p (.ins C dx (putF "following" (.ref ga) (putF "found" (.ref fa) (putF "net" (.ref net) [])))) ga = some (.lst []) := by rw [upd_ne npg.symm, upd_same]
  generalize upd (upd H2 ga (.lst [])) p (.ins C dx (putF "following" (.ref ga) (putF "found" (.ref fa) (putF "net" (.ref net) [])))) = H3 at k3 o3 f3 g3
  have gnp : g ≠ p := ne_of hg hp (by intro z; cases z)
  have tnp : ∀ {b xs}, H b = some (.tup xs) → b ≠ p := fun h => ne_of h hp (by intro z; cases z)
  have nfa : H fa = none := by
    cases e : H fa with
    | none => rfl
    | some o => rw [o1 _ _ e npf.symm] at hfa; cases hfa
  have nga : H ga = none := by
    cases e : H ga with
    | none => rfl
    | some o => rw [o2 _ _ e npg.symm] at hga; cases hga
  have hg3 : H3 g = some (.lst (refs gs)) := o3 _ _ hg gnp
  have hgs3 : Tus H3 gs := fun y hy => o3 _ _ (hgs y hy) (tnp (hgs y hy))
  have gfa : g ≠ fa := ne_of_none hg nfa
  have gga : g ≠ ga := ne_of_none hg nga
  have net3 : NetAt CN H3 net n ts := by
    obtain ⟨dn, tt, ks, w1, w2, w3, w4⟩ := hnet
    refine ⟨dn, tt, ks, o3 _ _ w1 nnp, o3 _ _ w2 (tnp w2), fun x hx => ?_, w4⟩
    obtain ⟨a1, a2, a3, v0, v1, v2, v3⟩ := w3 x hx
    exact ⟨a1, a2, a3, o3 _ _ v0 (tnp v0), o3 _ _ v1 (tnp v1), o3 _ _ v2 (tnp v2), o3 _ _ v3 (tnp v3)⟩
  have S3 : SatAt C H3 p net fa ga [] [] := ⟨⟨dx, k3⟩, f3, fun y hy => absurd hy List.not_mem_nil, ⟨[], g3, rfl, fun i v g a => absurd a (by simp)⟩, nfg⟩
  -- what stays right from here on
  have out : ∀ {H' : Hp}, But2 fa ga H3 H' → ∀ b o, H b = some o → b ≠ p → H' b = some o := fun s b o e m => s b o (o3 b o e m) (ne_of_none e nfa) (ne_of_none e nga)
  refine ⟨_, rfl, g, gs, n, rfl, .inl hg3, hgs3, few, n1, by omega, fun y hy => (hz y hy).1, fun r B H4 s4 nr hr4 tB inB bas lB => ?_⟩
  have S4 := S3.up s4
  have rfa : r ≠ fa := (ne_of_none f3 nr).symm
  have rga : r ≠ ga := (ne_of_none g3 nr).symm
  refine ⟨r, rfl, ⟨_, SqL.of hr4⟩, for_list (K := K) (a := r) (xs := refs B) (fun i σ H' => ∃ (fs : List (Addr × List Int)) (G : List Fol) (v3 : Option V), σ = [some (.ref p), some (.ref net), some (.ref g), v3, none, none, none] ∧ But2 fa ga H4 H' ∧ SatAt C H' p net fa ga fs G ∧ Sat n ts (gs.map (·.2)) (fs.map (·.2)) G ∧ ∀ y ∈ B.take i, inC (fs.map (·.2)) y.2 = true)
    ⟨[], [], none, rfl, But2.refl fa ga H4, S4, Sat.nil n ts _, fun y hy => absurd hy List.not_mem_nil⟩ (fun i σ H' _ h => ?_) (fun i v σ H5 hv h => ?_) fun σ H5 h => ?_⟩
  · obtain ⟨_, _, _, _, b, _⟩ := h
    exact SqL.of (b _ _ hr4 rfa rga)
  · obtain ⟨fs, G, v3, rfl, b5, S5, sat5, cov5⟩ := h
    obtain ⟨y, ey, rfl⟩ := ref_at hv
    have ym := List.mem_of_getElem? ey
    have yg := inB y ym
    obtain ⟨dy, h1⟩ := S5.obj
    obtain ⟨xs, ys, L1, L2⟩ := S4.lists
    have ty : Tu H5 y.1 y.2 := b5.keep L1 L2 (tB y ym) (by intro _ z; cases z)
    have bd := bnd _ _ sat5
    have l80 : fs.length ≤ 80 := by
      have := bd.1
      rw [List.length_map] at this
      exact this
    have lG : G.length = fs.length := by rw [sat5.len, List.length_map]
    have lens : ∀ z ∈ fs, z.2.length = n := fun z hzz => (sat5.size z.2 (List.mem_map.mpr ⟨z, hzz, rfl⟩)).1
    refine ⟨_, rfl, p, dy, _, rfl, h1, satF_no _ _ _ (by decide +kernel) (by decide +kernel) (by decide +kernel), _, rfl, p, y.1, net, fa, ga, .non, fs, G, y.2, none, n, rfl, S5, ty, rfl, (hz y yg).1, by omega, lens, by omega, lG, fun fs' G' H6 b6 S6 c => ?_⟩
    have tk := take_succ' ey
    rcases c with ⟨rfl, rfl, c⟩ | ⟨rfl, rfl, c⟩
    · refine ⟨fs', G', _, rfl, b5.trans b6, S6, sat5, fun z hzz => ?_⟩
      rw [tk] at hzz
      rcases List.mem_append.mp hzz with w | w
      · exact cov5 z w
      · rw [List.mem_singleton.mp w]; exact c
    · refine ⟨fs ++ [(y.1, y.2)], G ++ [none], _, rfl, b5.trans b6, S6, ?_, fun z hzz => ?_⟩
      · rw [List.map_append]
        exact sat5.add (hz y yg).1 (hz y yg).2 (List.mem_map.mpr ⟨y, yg, rfl⟩) c
      · rw [List.map_append]
        rw [tk] at hzz
        rcases List.mem_append.mp hzz with w | w
        · exact inC_up (fun u hu => List.mem_append_left _ hu) (cov5 z w)
        · rw [List.mem_singleton.mp w]
          exact inC_iff.mpr ⟨y.2, List.mem_append_right _ (List.mem_singleton.mpr rfl), cov_refl y.2⟩
  · obtain ⟨fs, G, v3, rfl, b5, S5, sat5, cov5⟩ := h
    rw [len_ref, List.take_length] at cov5
    have goalsIn : ∀ {F : List (List Int)}, (∀ u ∈ fs.map (·.2), u ∈ F) → ∀ x ∈ gs.map (·.2), inC F x = true := fun {F} sub x hx => by
      obtain ⟨b, hb, cb⟩ := bas.gen x hx
      obtain ⟨y, hy, rfl⟩ := List.mem_map.mp hb
      obtain ⟨u, hu, cu⟩ := inC_iff.mp (cov5 y hy)
      obtain ⟨y0, hy0, e0⟩ := List.mem_map.mp hx
      have lx : x.length = n := by rw [← e0]; exact (hz y0 hy0).1
      exact inC_iff.mpr ⟨u, sub u hu, cov_trans (lx.trans (hz y (inB y hy)).1.symm) cb cu⟩
    have b35 : But2 fa ga H3 H5 := (same_but2 s4).trans b5
    -- the closing
    refine ⟨fun m σ H' => ∃ (at_ : Nat) (fs' : List (Addr × List Int)) (G' : List Fol) (v5 v6 : Option V), σ = [some (.ref p), some (.ref net), some (.ref g), v3, some (.int (at_ : Int)), v5, v6] ∧ But2 fa ga H3 H' ∧ SatAt C H' p net fa ga fs' G' ∧ Sat n ts (gs.map (·.2)) (fs'.map (·.2)) G' ∧ (∀ u ∈ fs.map (·.2), u ∈ fs'.map (·.2)) ∧ at_ ≤ fs'.length ∧ Done n ts (fs'.map (·.2)) at_ ∧ m = 81 - at_,
      ⟨_, 0, fs, G, none, none, rfl, b35, S5, sat5, fun u hu => hu, Nat.zero_le _, fun j y hj => absurd hj (Nat.not_lt_zero _), rfl⟩, fun m σ H6 h => ?_⟩
    obtain ⟨at_, fs6, G6, v5, v6, rfl, b6, S6, sat6, sub6, lat, done6, rfl⟩ := h
    have bd := bnd _ _ sat6
    have l80 : fs6.length ≤ 80 := by
      have := bd.1
      rw [List.length_map] at this
      exact this
    obtain ⟨dy, h1⟩ := S6.obj
    refine ⟨_, rfl, _, rfl, p, C, dy, _, _, rfl, h1, SC.cl, SC.nF, satF_found _ _ _, fa, _, rfl, .inl (SqL.of S6.fnd), _, _, rfl, rfl, _, rfl, ?_⟩
    rw [len_ref]
    refine ite2 (fun c => ?_) (fun c => ?_)
    · have lt : at_ < fs6.length := by
        have z : (at_ : Int) < (fs6.length : Int) := of_decide_eq_true c
        omega
      have ey : fs6[at_]? = some fs6[at_] := get_some lt
      have ym := List.getElem_mem lt
      generalize fs6[at_] = y at ey ym
      have ymm : y.2 ∈ fs6.map (·.2) := List.mem_map.mpr ⟨y, ym, rfl⟩
      have yn := (sat6.size y.2 ymm).1
      have y12 := bd.2 y.2 ymm
      have net6 : NetAt CN H6 net n ts := net3.but fun b o e nl => b6.keep f3 g3 e nl
      obtain ⟨dn, tt, ks, w1, w2, w3, w4⟩ := id net6
      have lks : ks.length = ts.length := by rw [← w4, List.length_map]
      refine ⟨fun σ' H' => ∃ (fs' : List (Addr × List Int)) (G' : List Fol) (v5 v6 : Option V), σ' = [some (.ref p), some (.ref net), some (.ref g), v3, some (.int ((at_ + 1 : Nat) : Int)), v5, v6] ∧ But2 fa ga H3 H' ∧ SatAt C H' p net fa ga fs' G' ∧ Sat n ts (gs.map (·.2)) (fs'.map (·.2)) G' ∧ (∀ u ∈ fs.map (·.2), u ∈ fs'.map (·.2)) ∧ at_ + 1 ≤ fs'.length ∧ Done n ts (fs'.map (·.2)) (at_ + 1),
        fun σ' H' ⟨fs', G', v5, v6, a1, a2, a3, a4, a5, a6, a7⟩ => ⟨81 - (at_ + 1), by omega, at_ + 1, fs', G', v5, v6, a1, a2, a3, a4, a5, a6, a7, rfl⟩, ?_⟩
      refine ⟨_, rfl, net, CN, dn, _, _, rfl, w1, NC.cl, NC.nT, netF_transitions _ _, tt, _, rfl, .inr (SqT.of w2), _, rfl, by omega, by rw [len_ref]; omega, ?_⟩
      rw [len_ref]
      refine for_range (lo := 0) (n := ks.length) (fun k σ H' => ∃ (fs' : List (Addr × List Int)) (G' : List Fol) (v5 v6 : Option V), σ = [some (.ref p), some (.ref net), some (.ref g), v3, some (.int (at_ : Int)), v5, v6] ∧ But2 fa ga H3 H' ∧ SatAt C H' p net fa ga fs' G' ∧ Sat n ts (gs.map (·.2)) (fs'.map (·.2)) G' ∧ (∃ more, fs' = fs6 ++ more) ∧ ∀ j, j < k → ∀ t, ts[j]? = some t → ∀ x, IsPred n t y.2 x → inC (fs'.map (·.2)) x = true)
        ⟨fs6, G6, v5, v6, rfl, b6, S6, sat6, ⟨[], (List.append_nil fs6).symm⟩, fun j hj => absurd hj (Nat.not_lt_zero _)⟩ ?_ ?_
      · rintro k σ H7 hk ⟨fs7, G7, v5, v6, rfl, b7, S7, sat7, ⟨more7, em7⟩, kid7⟩
        rw [Int.zero_add]
        obtain ⟨dn', tt', ks', w1', w2', w3', w4'⟩ := (show NetAt CN H7 net n ts from net3.but fun b o e nl => b7.keep f3 g3 e nl)
        have lks' : ks'.length = ts.length := by rw [← w4', List.length_map]
        have hk' : k < ks'.length := by omega
        have ek : ks'[k]? = some ks'[k] := get_some hk'
        have km := List.getElem_mem hk'
        generalize ks'[k] = tr at ek km
        have et : ts[k]? = some tr.2 := by rw [← w4']; exact snd_get ek
        have okt := ok.at et
        obtain ⟨dy7, h7⟩ := S7.obj
        have ey7 : fs7[at_]? = some y := by rw [em7, List.getElem?_append_left lt]; exact ey
        have ty7 : Tu H7 y.1 y.2 := S7.its y (List.mem_of_getElem? ey7)
        refine ⟨_, rfl, net, CN, dn', _, _, rfl, w1', NC.cl, NC.nT, netF_transitions _ _, _, rfl, tt', _, _, _, rfl, rfl, SqT.of w2', at_ref ek, ?_⟩
        refine ⟨_, rfl, p, C, dy7, _, _, rfl, h7, SC.cl, SC.nF, satF_found _ _ _, _, rfl, fa, _, _, _, rfl, rfl, SqL.of S7.fnd, at_ref ey7, ?_⟩
        refine ⟨tr.1, y.1, tr.2, y.2, n, rfl, w3' tr km, ty7, okt, n4, yn, y12, fun r2 ps H8 nr2 g8 eps => ?_⟩
        obtain ⟨xs7, ys7, L1, L2⟩ := S7.lists
        have n2f : r2 ≠ fa := (ne_of_none L1 nr2).symm
        have n2g : r2 ≠ ga := (ne_of_none L2 nr2).symm
        have S8 := S7.up g8.same
        obtain ⟨xs8, ys8, M1, M2⟩ := S8.lists
        have psn : ∀ x ∈ ps, IsPred n tr.2 y.2 x.2 := fun x hx => (preds_mem okt yn).mp (by rw [← eps]; exact List.mem_map.mpr ⟨x, hx, rfl⟩)
        refine ⟨r2, rfl, ⟨_, SqL.of g8.lst⟩, for_list (K := K) (a := r2) (xs := refs ps) (fun z σ H' => ∃ (fs' : List (Addr × List Int)) (G' : List Fol) (v6 : Option V), σ = [some (.ref p), some (.ref net), some (.ref g), v3, some (.int (at_ : Int)), some (.int (k : Int)), v6] ∧ But2 fa ga H8 H' ∧ SatAt C H' p net fa ga fs' G' ∧ Sat n ts (gs.map (·.2)) (fs'.map (·.2)) G' ∧ (∃ more, fs' = fs7 ++ more) ∧ ∀ x ∈ ps.take z, inC (fs'.map (·.2)) x.2 = true)
          ⟨fs7, G7, v6, rfl, But2.refl fa ga H8, S8, sat7, ⟨[], (List.append_nil fs7).symm⟩, fun x hx => absurd hx List.not_mem_nil⟩ (fun z σ H' _ h => ?_) (fun z v σ H9 hv h => ?_) fun σ H9 h => ?_⟩
        · obtain ⟨_, _, _, _, b, _⟩ := h
          exact SqL.of (b _ _ g8.lst n2f n2g)
        · obtain ⟨fs9, G9, v6, rfl, b9, S9, sat9, ⟨more9, em9⟩, in9⟩ := h
          obtain ⟨x, exx, rfl⟩ := ref_at hv
          have xm := List.mem_of_getElem? exx
          have xp := psn x xm
          have xpos : ∀ i, i < n → 0 ≤ gt x.2 i := fun i hi => by
            have t1 := xp.ge i hi
            have t2 := (okt.ptk i hi).1
            omega
          have tx : Tu H9 x.1 x.2 := b9.keep M1 M2 (g8.its x xm) (by intro _ z; cases z)
          have bd9 := bnd _ _ sat9
          have l9 : fs9.length ≤ 80 := by
            have := bd9.1
            rw [List.length_map] at this
            exact this
          have lG : G9.length = fs9.length := by rw [sat9.len, List.length_map]
          have lens : ∀ u ∈ fs9, u.2.length = n := fun u hu => (sat9.size u.2 (List.mem_map.mpr ⟨u, hu, rfl⟩)).1
          obtain ⟨dy9, h9⟩ := S9.obj
          refine ⟨_, rfl, p, dy9, _, rfl, h9, satF_no _ _ _ (by decide +kernel) (by decide +kernel) (by decide +kernel), _, rfl, _, rfl, _, rfl, by show 2 ≤ sizeLine; rw [line_eq]; omega, fun u hu => ?_⟩
          have su := same_new hu (.tup [V.int (k : Int), V.int (at_ : Int)])
          refine ⟨p, x.1, net, fa, ga, .ref u, fs9, G9, x.2, some (k, at_), n, rfl, S9.up su, tx.up su, ⟨u, rfl, upd_same⟩, xp.len, by omega, lens, by omega, lG, fun fs' G' H10 b10 S10 c => ?_⟩
          have b810 : But2 fa ga H8 H10 := (b9.new su).trans b10
          have tk := take_succ' exx
          rcases c with ⟨rfl, rfl, c⟩ | ⟨rfl, rfl, c⟩
          · refine ⟨fs', G', _, rfl, b810, S10, sat9, ⟨more9, em9⟩, fun u hu => ?_⟩
            rw [tk] at hu
            rcases List.mem_append.mp hu with w | w
            · exact in9 u w
            · rw [List.mem_singleton.mp w]; exact c
          · refine ⟨fs9 ++ [(x.1, x.2)], G9 ++ [some (k, at_)], _, rfl, b810, S10, ?_, ⟨more9 ++ [(x.1, x.2)], by rw [em9, List.append_assoc]⟩, fun u hu => ?_⟩
            · rw [List.map_append]
              have ey9 : fs9[at_]? = some y := by
                rw [em9, List.getElem?_append_left (by rw [em7, List.length_append]; omega)]
                exact ey7
              have la : at_ < fs9.length := (List.getElem?_eq_some_iff.mp ey9).1
              exact sat9.add xp.len xpos ⟨by rw [List.length_map]; exact la, tr.2, y.2, et, snd_get ey9, xp⟩ c
            · rw [List.map_append]
              rw [tk] at hu
              rcases List.mem_append.mp hu with w | w
              · exact inC_up (fun q hq => List.mem_append_left _ hq) (in9 u w)
              · rw [List.mem_singleton.mp w]
                exact inC_iff.mpr ⟨x.2, List.mem_append_right _ (List.mem_singleton.mpr rfl), cov_refl x.2⟩
        · obtain ⟨fs9, G9, v6, rfl, b9, S9, sat9, ⟨more9, em9⟩, in9⟩ := h
          rw [len_ref, List.take_length] at in9
          refine ⟨fs9, G9, _, _, rfl, (b7.new g8.same).trans b9, S9, sat9, ⟨more7 ++ more9, by rw [em9, em7, List.append_assoc]⟩, fun j hj t e x pr => ?_⟩
          by_cases z : j < k
          · refine inC_up (fun q hq => ?_) (kid7 j z t e x pr)
            rw [em9, List.map_append]
            exact List.mem_append_left _ hq
          · have ejk : j = k := by omega
            subst ejk
            rw [et] at e
            cases e
            have xi : x ∈ ps.map (·.2) := by rw [eps]; exact (preds_mem okt yn).mpr pr
            obtain ⟨u, hu, rfl⟩ := List.mem_map.mp xi
            exact in9 u hu
      · rintro σ H7 ⟨fs7, G7, v5, v6, rfl, b7, S7, sat7, ⟨more7, em7⟩, kid7⟩
        have ey7 : fs7[at_]? = some y := by rw [em7, List.getElem?_append_left lt]; exact ey
        refine ⟨_, rfl, _, _, rfl, rfl, ?_⟩
        refine ⟨fs7, G7, _, _, rfl, b7, S7, sat7, fun u hu => ?_, by rw [em7, List.length_append]; omega, fun j u hj eu k t et x pr => ?_⟩
        · rw [em7, List.map_append]
          exact List.mem_append_left _ (sub6 u hu)
        · by_cases z : j < at_
          · have eu6 : (fs6.map (·.2))[j]? = some u := by
              rw [em7, List.map_append, List.getElem?_append_left (by rw [List.length_map]; omega)] at eu
              exact eu
            refine inC_up (fun q hq => ?_) (done6 j u z eu6 k t et x pr)
            rw [em7, List.map_append]
            exact List.mem_append_left _ hq
          · have ej : j = at_ := by omega
            subst ej
            rw [snd_get ey7] at eu
            cases eu
            have lk : k < ks.length := by
              have := (List.getElem?_eq_some_iff.mp et).1
              omega
            exact kid7 k lk t et x pr
    · have e : at_ = fs6.length := by
        have z : ¬ (at_ : Int) < (fs6.length : Int) := fun z => c (decide_eq_true z)
        omega
      subst e
      exact q fa ga fs6 G6 H6 (out b6) S6 sat6 done6 (goalsIn sub6)
theorem sc_Saturation_way : FnScope ["self", "marking", "at", "run", "index"] ["self", "marking"] (defScope sSaturation_way) := ⟨rfl, rfl, rfl, by decide +kernel, rfl, by decide +kernel, by decide +kernel⟩
theorem ok_Saturation_way {C : Addr} (F : Fun K "way" "Saturation.way" sSaturation_way f fd) (SC : SatC K C) (Cin_closed : Has P w K mg base "in_closed" ["members", "marking"] 2 (spInside K)) : FnOk P w K mg base CX0 3 f fd ["self", "marking"] (sp_Sat_way C) := by
  obtain ⟨_, _, Gin_closed, min_closed, kin_closed, bin_closed⟩ := Cin_closed
  refine F.ok sc_Saturation_way (fun vs H Q E h => ?_) (fun cdv A outer s H vs Q E hr h => ?_)
  · obtain ⟨p, m, net, fa, ga, fs, G, ts, goals, n, x, rfl, _⟩ := h
    rfl
  obtain ⟨p, m, net, fa, ga, fs, G, ts, goals, n, x, rfl, S, sat, ok, hx, xn, n1, few, hin, q⟩ := h
  refine ⟨_, pss_cons (ps_if (pt_not (pt_val (pe_call Gin_closed hr rfl min_closed kin_closed bin_closed .nil pass0 (pa_cons (pe_fld (pv 0) rfl) (pa_cons (pv 1) pa_nil)))))
      (pss_one (ps_ret pe_non)) pss_nil)
    (pss_cons (ps_set (i := 2) sc_Saturation_way.nd rfl (.inl rfl) pe_int)
    (pss_cons (ps_while PassesOwn.never (pt_not (pt_val (pe_call Gin_closed hr rfl min_closed kin_closed bin_closed .nil pass0 (pa_cons (pe_lst (pa_cons (pe_ix ix_list (pe_fld (pv 0) rfl) (pv 2) (fun _ _ => rfl)) pa_nil)) (pa_cons (pv 1) pa_nil)))))
      (pss_one (ps_aug (i := 2) sc_Saturation_way.nd rfl (.inl rfl) pe_int ip_add)))
    (pss_cons (ps_set (i := 3) sc_Saturation_way.nd rfl (.inl rfl) (pe_lst pa_nil))
    (pss_cons (ps_while PassesOwn.never (pt_cmpR op_notN (pe_ix ix_list (pe_fld (pv 0) rfl) (pv 2) (fun _ _ => rfl)) pe_non (nomark _))
      (pss_cons (ps_asg (pe_ix ix_list (pe_fld (pv 0) rfl) (pv 2) (fun _ _ => rfl)) (pg_tup rfl (pgs_cons (pg_name (i := 4) sc_Saturation_way.nd rfl (.inl rfl)) (pgs_cons (pg_name (i := 2) sc_Saturation_way.nd rfl (.inl rfl)) pgs_nil))))
      (pss_one (ps_expr (pe_bm PySem.F.plainAttrs_list PySem.F.slot_list_append PySem.F.type_list_append mt_append (pv 3) (pa_cons (pv 4) pa_nil))))))
    (pss_one (ps_ret (pv 3))))))), ?_⟩
  obtain ⟨⟨dx, h1⟩, h2, h3, ⟨us, h4, h5, h6⟩, h7⟩ := id S
  have lens : ∀ u ∈ fs, u.2.length = n := fun u hu => (sat.size u.2 (List.mem_map.mpr ⟨u, hu, rfl⟩)).1
  have lG : G.length = fs.length := by rw [sat.len, List.length_map]
  refine ⟨_, rfl, p, C, dx, _, _, rfl, h1, SC.cl, SC.nF, satF_found _ _ _, _, rfl, fa, m, fs, x, rfl, .inl (SqL.of h2), h3, hx, fun y hy => by rw [lens y hy, xn], by omega, _, rfl, ?_⟩
  rw [hin]
  refine iteF ?_
  -- the first that it covers
  refine ⟨fun k σ H' => ∃ at_ : Nat, σ = [some (.ref p), some (.ref m), some (.int (at_ : Int)), none, none] ∧ Same H H' ∧ at_ < fs.length ∧ (∃ j, at_ ≤ j ∧ ∃ u, fs[j]? = some u ∧ cov x u.2 = true) ∧ k = fs.length - at_, ⟨_, 0, rfl, Same.refl H, ?_, ?_, rfl⟩, fun k σ H1 h => ?_⟩
  · obtain ⟨u, hu, _⟩ := inC_iff.mp hin
    obtain ⟨y, hy, _⟩ := List.mem_map.mp hu
    exact List.length_pos_of_mem hy
  · obtain ⟨u, hu, cu⟩ := inC_iff.mp hin
    obtain ⟨y, hy, rfl⟩ := List.mem_map.mp hu
    obtain ⟨j, hj⟩ := List.mem_iff_getElem?.mp hy
    exact ⟨j, Nat.zero_le _, y, hj, cu⟩
  obtain ⟨at_, rfl, s1, lt, ⟨j, hj, u, eu, cu⟩, rfl⟩ := h
  have ey : fs[at_]? = some fs[at_] := get_some lt
  have ym := List.getElem_mem lt
  generalize fs[at_] = y at ey ym
  refine ⟨_, rfl, p, C, dx, _, _, rfl, s1 _ _ h1, SC.cl, SC.nF, satF_found _ _ _, _, rfl, fa, _, _, _, rfl, rfl, SqL.of (s1 _ _ h2), at_ref ey, by show 1 ≤ sizeLine; rw [line_eq]; omega, fun b hb => ?_⟩
  have sb := same_new hb (.lst [V.ref y.1])
  have s2 := s1.trans sb
  refine ⟨_, rfl, b, m, [y], x, rfl, .inl (SqL.of upd_same), fun z hz => by rw [List.mem_singleton.mp hz]; exact s2 _ _ (h3 y ym), s2 _ _ hx, fun z hz => by rw [List.mem_singleton.mp hz, lens y ym, xn], by omega, _, rfl, ?_⟩
  have one : inC ([y].map (·.2)) x = cov x y.2 := by
    show (cov x y.2 || false) = _
    rw [Bool.or_false]
  rw [one]
  cases c : cov x y.2 with
  | false =>
    refine iteT ⟨fun σ' H' => ∃ at' : Nat, at_ < at' ∧ σ' = [some (.ref p), some (.ref m), some (.int (at' : Int)), none, none] ∧ Same H H' ∧ at' < fs.length ∧ ∃ j, at' ≤ j ∧ ∃ u, fs[j]? = some u ∧ cov x u.2 = true, fun σ' H' ⟨at', a0, a1, a2, a3, a4⟩ => ⟨fs.length - at', by omega, at', a1, a2, a3, a4, rfl⟩, ?_⟩
    have nj : j ≠ at_ := fun e => by
      subst e
      rw [ey] at eu
      cases eu
      rw [c] at cu
      cases cu
    have jl := (List.getElem?_eq_some_iff.mp eu).1
    exact ⟨_, rfl, _, _, rfl, rfl, at_ + 1, by omega, rfl, s2, by omega, j, by omega, u, eu, cu⟩
  | true =>
    refine iteF ?_
    refine ⟨by show 0 ≤ sizeLine; exact Nat.zero_le _, fun r hr' => ?_⟩
    have s3 := s2.trans (same_new hr' (.lst []))
    have nr : H r = none := s2.free hr'
    refine ⟨fun k σ H' => ∃ (at' : Nat) (run : List Nat) (z : List Int) (w : Addr × List Int) (v4 : Option V), σ = [some (.ref p), some (.ref m), some (.int (at' : Int)), some (.ref r), v4] ∧ Same H H' ∧ H' r = some (.lst ((run.map Int.ofNat).map V.int)) ∧ (∀ k ∈ run, k < ts.length) ∧ runM ts x run = some z ∧ z.length = n ∧ fs[at']? = some w ∧ cov z w.2 = true ∧ run.length + at' ≤ fs.length ∧ k = at',
      ⟨_, at_, [], x, y, none, rfl, s3, upd_same, fun k hk => absurd hk List.not_mem_nil, rfl, xn, ey, c, by show 0 + at_ ≤ _; omega, rfl⟩, fun k σ H4 h => ?_⟩
    obtain ⟨at', run, z, w, v4, rfl, s4, hr4, runs, rz, zn, ew, cw, lr, rfl⟩ := h
    have la := (List.getElem?_eq_some_iff.mp ew).1
    have eg : G[k]? = some G[k] := get_some (by omega)
    have ev : us[k]? = some us[k] := get_some (by omega)
    have fol := h6 k _ _ ev eg
    have hatI : atI us (k : Int) = some us[k] := atI_nat ev
    generalize us[k] = v at ev fol hatI
    refine ⟨_, rfl, p, C, dx, _, _, rfl, s4 _ _ h1, SC.cl, SC.nG, satF_following _ _ _, _, rfl, ga, us, k, v, rfl, rfl, SqL.of (s4 _ _ h4), hatI, ?_⟩
    generalize G[k] = g0 at eg fol
    cases g0 with
    | none =>
      have fol' : v = .non := fol
      subst fol'
      refine ⟨rfl, _, rfl, iteF ?_⟩
      have f0 := sat.fol k w.2 none (snd_get ew) eg
      exact ⟨_, rfl, q r run z H4 s4 nr hr4 runs rz zn (inC_iff.mpr ⟨w.2, f0, cw⟩) (by omega)⟩
    | some g =>
      obtain ⟨ix, j2⟩ := g
      obtain ⟨a, rfl, ha⟩ := fol
      obtain ⟨jl, t, y2, et, ey2, fz, fl, cf⟩ := way_step (y := x) ok sat zn (snd_get ew) eg cw
      refine ⟨rfl, _, rfl, iteT ?_⟩
      refine ⟨fun σ' H' => ∃ (at' : Nat) (run : List Nat) (z : List Int) (w : Addr × List Int) (v4 : Option V), at' < k ∧ σ' = [some (.ref p), some (.ref m), some (.int (at' : Int)), some (.ref r), v4] ∧ Same H H' ∧ H' r = some (.lst ((run.map Int.ofNat).map V.int)) ∧ (∀ k ∈ run, k < ts.length) ∧ runM ts x run = some z ∧ z.length = n ∧ fs[at']? = some w ∧ cov z w.2 = true ∧ run.length + at' ≤ fs.length, fun σ' H' h' => ?_, ?_⟩
      · obtain ⟨at', run, z, w, v4, a0, a1⟩ := h'
        obtain ⟨b1, b2, b3, b4, b5, b6, b7, b8, b9⟩ := a1
        exact ⟨at', a0, at', run, z, w, v4, b1, b2, b3, b4, b5, b6, b7, b8, b9, rfl⟩
      refine ⟨_, rfl, p, C, dx, _, _, rfl, s4 _ _ h1, SC.cl, SC.nG, satF_following _ _ _, _, rfl, ga, us, k, _, rfl, rfl, SqL.of (s4 _ _ h4), hatI, a, _, rfl, SqT.of (s4 _ _ ha), rfl, _, _, rfl, _, _, rfl, rfl, ?_⟩
      refine ⟨_, rfl, .inl ⟨rfl, _, SqL.of hr4⟩, _, rfl, r, _, _, rfl, rfl, hr4, by rw [len_int, List.length_map, line_eq]; omega, ?_⟩
      have ew2 : ∃ w2, fs[j2]? = some w2 ∧ w2.2 = y2 := by
        rw [List.getElem?_map] at ey2
        cases q2 : fs[j2]? with
        | none => rw [q2] at ey2; cases ey2
        | some w2 => rw [q2] at ey2; exact ⟨w2, rfl, Option.some.inj ey2⟩
      obtain ⟨w2, ew2, rfl⟩ := ew2
      have tl := (List.getElem?_eq_some_iff.mp et).1
      refine ⟨j2, run ++ [ix], _, w2, _, jl, rfl, same_mut s4 nr, ?_, fun k' hk' => ?_, runM_snoc ts run x rz et fz, fl, ew2, cf, by rw [List.length_append]; show run.length + 1 + j2 ≤ _; omega⟩
      · rw [upd_same, List.map_append, List.map_append]
        rfl
      · rcases List.mem_append.mp hk' with z | z
        · exact runs k' z
        · rw [List.mem_singleton.mp z]; exact tl
end
end K16
namespace K16
open PySem L2
/-- what the decision says -/
def Says (n : Nat) (ts : List Tr) (goals : List (List Int)) (bm : List Int) (fr : Int) (B : List (List Int)) (r c : V) (u : Option (List V)) : Prop := match lc bm fr B with
  | none => r = .bl false ∧ c = .non ∧ u = none
  | some k => r = .bl true ∧ c = .int k ∧ ∃ (run : List Nat) (y : List Int), u = some ((run.map Int.ofNat).map V.int) ∧ (∀ i ∈ run, i < ts.length) ∧ runM ts (startM bm fr k) run = some y ∧ y.length = n ∧ inC goals y = true
def sp_decide (CN CD : Addr) : Sp := fun vs H Q _ => ∃ (net st b g : Addr) (gs : List (Addr × List Int)) (ts : List Tr) (n : Nat) (bm : List Int) (fr : Int), vs = [.ref net, .ref st, .ref g] ∧ NetAt CN H net n ts ∧ H st = some (.tup [.ref b, .int fr]) ∧ Tu H b bm ∧ bm.length = n ∧ fr < (n : Int) ∧ H g = some (.lst (refs gs)) ∧ Tus H gs ∧ gs.length ≤ 100 ∧
  1 ≤ n ∧ n ≤ 4 ∧ TrsOk n ts ∧ ts.length ≤ 100 ∧ (∀ y ∈ gs, y.2.length = n ∧ ∀ i, i < n → 0 ≤ gt y.2 i) ∧ Bnd n ts (gs.map (·.2)) ∧
  ∀ (d : Addr) (B : List (Addr × List Int)) (r c : V) (u : Option (List V)) (H' : Hp), Same H H' → DecAt CD H' d r c u (refs B) → Tus H' B → Right n ts (gs.map (·.2)) (B.map (·.2)) → Says n ts (gs.map (·.2)) bm fr (B.map (·.2)) r c u → Q (.ref d) H'
theorem made {H : Hp} {x dx : Addr} {o o' : HO} (nx : H x = none) (nd : H dx = none) : Same H (upd (upd H dx o) x o') := fun b q e => by
  rw [upd_ne (ne_of_none e nx), upd_ne (ne_of_none e nd)]
  exact e
section
variable {P : Program} {w : World} {K : PySem.W.Frag} {mg : Str → Option Value} {base : Heap} {f : Addr} {fd : FuncData}
theorem sc_decide : FnScope ["net", "start", "goals", "saturation", "barrier", "count"] ["net", "start", "goals"] (defScope sdecide) := ⟨rfl, rfl, rfl, by decide +kernel, rfl, by decide +kernel, by decide +kernel⟩
theorem ok_decide (F : Stands K mg "decide" sdecide ["net", "start", "goals"] f fd) (T : Blt mg) (Cbasis_of : Has P w K mg base "basis_of" ["members"] 2 sp_basis_of) (Cleast_count : Has P w K mg base "least_count" ["start", "members"] 2 (sp_least_count K)) (Cstart_marking : Has P w K mg base "start_marking" ["start", "count"] 1 sp_start_marking) {CS CN CD fS fW fD : Addr} {fdS fdW fdD : FuncData} (SC : SatC K CS) (MSaturation : Mk K CS fS) (GSaturation : FnOk P w K mg base CX0 7 fS fdS ["self", "net", "goals"] (sp_Sat_init CS CN)) (mSaturation : mg "Saturation" = some (.ref CS)) (bSaturation : Binds K fdS ["self", "net", "goals"] []) (GW : FnOk P w K mg base CX0 3 fW fdW ["self", "marking"] (sp_Sat_way CS)) (mW : Meth K CS "way" fW) (bW : Binds K fdW ["self", "marking"] []) (MDecision : Mk K CD fD) (GDecision : FnOk P w K mg base CX0 1 fD fdD ["self", "reachable", "count", "run", "barrier"] (sp_Decision_init CD)) (mDecision : mg "Decision" = some (.ref CD)) (bDecision : Binds K fdD ["self", "reachable", "count", "run", "barrier"] []) : Has P w K mg base "decide" ["net", "start", "goals"] 9 (sp_decide CN CD) := by
  obtain ⟨_, _, Gbasis_of, mbasis_of, kbasis_of, bbasis_of⟩ := Cbasis_of
  obtain ⟨_, _, Gleast_count, mleast_count, kleast_count, bleast_count⟩ := Cleast_count
  obtain ⟨_, _, Gstart_marking, mstart_marking, kstart_marking, bstart_marking⟩ := Cstart_marking
  refine ⟨f, fd, F.1.ok sc_decide (fun vs H Q E h => ?_) (fun cdv A outer s H vs Q E hr h => ?_), F.2.1, F.1.kp, F.2.2⟩
  · obtain ⟨net, st, b, g, gs, ts, n, bm, fr, rfl, _⟩ := h
    rfl
  obtain ⟨net, st, b, g, gs, ts, n, bm, fr, rfl, hnet, hst, hb, bn, frn, hg, hgs, few, n1, n4, ok, tfew, hz, bnd, q⟩ := h
  refine ⟨_, pss_cons (ps_set (i := 3) sc_decide.nd rfl (.inl rfl) (pe_make MSaturation GSaturation hr rfl mSaturation bSaturation .nil pass0 (pa_cons (pv 0) (pa_cons (pv 2) pa_nil))))
    (pss_cons (ps_set (i := 4) sc_decide.nd rfl (.inl rfl) (pe_call Gbasis_of (hr.mono (by decide)) rfl mbasis_of kbasis_of bbasis_of .nil pass0 (pa_cons (pe_fld (pv 3) rfl) pa_nil)))
    (pss_cons (ps_set (i := 5) sc_decide.nd rfl (.inl rfl) (pe_call Gleast_count (hr.mono (by decide)) rfl mleast_count kleast_count bleast_count .nil pass0 (pa_cons (pv 1) (pa_cons (pv 4) pa_nil))))
    (pss_cons (ps_if (pt_cmpR op_isN (pv 5) pe_non (nomark _))
      (pss_one (ps_ret (pe_make MDecision GDecision (hr.mono (by decide)) rfl mDecision bDecision .nil pass0 (pa_cons pe_bl (pa_cons pe_non (pa_cons pe_non (pa_cons (pv 4) pa_nil))))))) pss_nil)
    (pss_one (ps_ret (pe_make MDecision GDecision (hr.mono (by decide)) rfl mDecision bDecision .nil pass0 (pa_cons pe_bl (pa_cons (pv 5) (pa_cons (pe_meth (pv 3) SC.cl mW GW (hr.mono (by decide)) bW .nil pass0 (pa_cons (pe_call Gstart_marking (hr.mono (by decide)) rfl mstart_marking kstart_marking bstart_marking .nil pass0 (pa_cons (pv 1) (pa_cons (pv 5) pa_nil))) pa_nil)) (pa_cons (pv 4) pa_nil)))))))))), ?_⟩
  refine ⟨_, rfl, _, rfl, fun x dx nx ndx nex => ?_⟩
  have s0 : Same H (upd (upd H dx (.own x)) x (.ins CS dx [])) := made nx ndx
  have k0 : upd (upd H dx (.own x)) x (.ins CS dx []) x = some (.ins CS dx []) := upd_same
  generalize upd (upd H dx (.own x)) x (.ins CS dx []) = H0 at s0 k0
  have nnx : net ≠ x := by
    obtain ⟨_, _, _, w1, _⟩ := hnet
    exact ne_of_none w1 nx
  refine ⟨x, dx, net, g, gs, ts, n, rfl, k0, hnet.but fun b o e _ => s0 b o e, nnx, s0 _ _ hg, hgs.up s0, few, n1, n4, ok, tfew, hz, bnd, fun fa ga fs G H1 out S sat done gin => ⟨rfl, ?_⟩⟩
  have s1 : Same H H1 := fun b o e => out b o (s0 b o e) (ne_of_none e nx)
  obtain ⟨dx1, h1⟩ := S.obj
  have bd := bnd _ _ sat
  have l80 : fs.length ≤ 80 := by
    have := bd.1
    rw [List.length_map] at this
    exact this
  have lens : ∀ u ∈ fs, u.2.length = n := fun u hu => (sat.size u.2 (List.mem_map.mpr ⟨u, hu, rfl⟩)).1
  refine ⟨_, rfl, x, CS, dx1, _, _, rfl, h1, SC.cl, SC.nF, satF_found _ _ _, fa, fs, n, rfl, .inl S.fnd, S.its, by omega, n1, by omega, lens, fun r B H2 s2 nr hr2 tB inB bas lB => ?_⟩
  have s02 := s1.trans s2
  have right : Right n ts (gs.map (·.2)) (B.map (·.2)) := by
    refine ⟨bas.asc, bas.anti, fun m hm => ?_, closed_of sat ?_ bas, fun m hm => ?_, by rw [List.length_map]; omega⟩
    · have z := bas.sub m hm
      have a := sat.size m z
      exact ⟨a.1, fun i hi => ⟨a.2 i hi, bd.2 m z i hi⟩⟩
    · rw [List.length_map]
      exact done
    · obtain ⟨y, hy, rfl⟩ := List.mem_map.mp hm
      exact inC_basis bas (fun u hu => (sat.size u hu).1) (hz y hy).1 (gin _ (List.mem_map.mpr ⟨y, hy, rfl⟩))
  refine ⟨_, rfl, _, rfl, st, b, r, bm, fr, B, rfl, s02 _ _ hst, hb.up s02, SqL.of hr2, tB, fun y hy => by rw [lens y (inB y hy), bn], by omega, by omega, ?_⟩
  have says : ∀ r c u, Says n ts (gs.map (·.2)) bm fr (B.map (·.2)) r c u ↔ match lc bm fr (B.map (·.2)) with
    | none => r = .bl false ∧ c = .non ∧ u = none
    | some k => r = .bl true ∧ c = .int k ∧ ∃ (run : List Nat) (y : List Int), u = some ((run.map Int.ofNat).map V.int) ∧ (∀ i ∈ run, i < ts.length) ∧ runM ts (startM bm fr k) run = some y ∧ y.length = n ∧ inC (gs.map (·.2)) y = true := fun r c u => Iff.rfl
  refine ⟨_, rfl, rfl, _, rfl, ?_⟩
  cases e : lc bm fr (B.map (·.2)) with
  | none =>
    refine iteT ?_
    refine ⟨_, rfl, fun x2 dx2 nx2 ndx2 nex2 => ?_⟩
    have s3 : Same H2 (upd (upd H2 dx2 (.own x2)) x2 (.ins CD dx2 [])) := made nx2 ndx2
    refine ⟨x2, dx2, r, .bl false, .non, .non, none, refs B, rfl, upd_same, s3 _ _ hr2, rfl, fun H4 out4 D => ⟨rfl, ?_⟩⟩
    have s4 : Same H2 H4 := fun b o e => out4 b o (s3 b o e) (ne_of_none e nx2)
    refine q x2 B _ _ _ H4 (s02.trans s4) D (tB.up s4) right ((says _ _ _).mpr ?_)
    rw [e]
    exact ⟨rfl, rfl, rfl⟩
  | some k =>
    refine iteF ?_
    have good := lc_good (base := bm) (fr := fr) (by omega) e
    have inF : inC (fs.map (·.2)) (startM bm fr k) = true := inC_up (fun m hm => by
      obtain ⟨y, hy, rfl⟩ := List.mem_map.mp hm
      exact List.mem_map.mpr ⟨y, inB y hy, rfl⟩) good.2
    have S2 := S.up s2
    refine ⟨_, rfl, _, rfl, x, dx1, _, rfl, s2 _ _ h1, satF_no _ _ _ (by decide +kernel) (by decide +kernel) (by decide +kernel), _, rfl, _, rfl, st, b, bm, fr, k, rfl, s02 _ _ hst, hb.up s02, by omega, fun a H3 s3 ta => ?_⟩
    refine ⟨x, a, net, fa, ga, fs, G, ts, gs.map (·.2), n, startM bm fr k, rfl, S2.up s3, sat, ok, ta, by rw [startM_len, bn], by omega, by omega, inF, fun rr run y H4 s4 nrr hrr runs rz yn gy lr => ?_⟩
    refine ⟨_, rfl, fun x2 dx2 nx2 ndx2 nex2 => ?_⟩
    have s5 : Same H4 (upd (upd H4 dx2 (.own x2)) x2 (.ins CD dx2 [])) := made nx2 ndx2
    have s24 := s3.trans s4
    refine ⟨x2, dx2, r, .bl true, .int k, .ref rr, some ((run.map Int.ofNat).map V.int), refs B, rfl, upd_same, s5 _ _ (s24 _ _ hr2), ⟨rr, rfl, s5 _ _ hrr⟩, fun H6 out6 D => ⟨rfl, ?_⟩⟩
    have s6 : Same H4 H6 := fun b o e => out6 b o (s5 b o e) (ne_of_none e nx2)
    refine q x2 B _ _ _ H6 (s02.trans (s24.trans s6)) D (tB.up (s24.trans s6)) right ((says _ _ _).mpr ?_)
    rw [e]
    exact ⟨rfl, rfl, run, y, rfl, runs, rz, yn, gy⟩
end
end K16
namespace K16
open PySem L2
def sp_law (K : PySem.W.Frag) : Sp := fun vs H Q _ => ∃ (s : Addr) (xs : List Int), vs = [.ref s] ∧ SqL K H s (xs.map V.int) ∧ xs.length ≤ 63 ∧ ∀ H', Q (.bl true) H'
section
variable {P : Program} {w : World} {K : PySem.W.Frag} {mg : Str → Option Value} {base : Heap} {f : Addr} {fd : FuncData}
theorem sc_law : FnScope ["_law_script", "_law_draws_here", "_law_places", "_law_transitions", "_law_base", "_law_free", "_law_goals", "_law_decision", "_law_barrier", "_law_goal", "_law_least_here", "_law_count_here", "_law_met", "_law_seen", "_law_after"] ["_law_script"] (defScope slaw) := ⟨rfl, rfl, rfl, by decide +kernel, rfl, by decide +kernel, by decide +kernel⟩
theorem ok_law (F : Fun K "law" "law" slaw f fd) (T : Blt mg) (CLdraws : Has P w K mg base "_law_draws" ["_law_script", "_law_count_here"] 1 (sp_Ldraws K)) (CLnet : Has P w K mg base "_law_net" ["_law_draws_here", "_law_places", "_law_most", "_law_plain"] 3 sp_Lnet) (CLmarking : Has P w K mg base "_law_marking" ["_law_draws_here", "_law_size", "_law_most"] 2 sp_Lmarking) (CLmarkings : Has P w K mg base "_law_markings" ["_law_draws_here", "_law_size", "_law_count_here", "_law_most"] 3 sp_Lmarkings) (CLtame : Has P w K mg base "_law_tame" ["_law_transitions", "_law_goals"] 5 sp_Ltame) (CLcount : Has P w K mg base "_law_count" ["_law_base", "_law_free", "_law_members"] 1 (sp_Lcount K)) (CLrun : Has P w K mg base "_law_run" ["_law_transitions", "_law_marking_here", "_law_run_here"] 3 (sp_Lrun K)) (CLtake : Has P w K mg base "_law_take" ["_law_draws_here", "_law_limit"] 1 sp_Ltake) (CLwalk : Has P w K mg base "_law_walk" ["_law_draws_here", "_law_transitions", "_law_marking_here", "_law_steps"] 3 sp_Lwalk) (CLstart : Has P w K mg base "_law_start" ["_law_base", "_law_free", "_law_count_here"] 1 sp_Lstart) (CLinside : Has P w K mg base "_law_inside" ["_law_members", "_law_marking_here"] 2 (spInside K)) (CLall_numbers : Has P w K mg base "_law_all_numbers" ["_law_actual", "_law_size", "_law_low"] 3 sp_Lall_numbers) (CLleast : Has P w K mg base "_law_least" ["_law_members"] 2 sp_Lleast) (CLclosed : Has P w K mg base "_law_closed" ["_law_transitions", "_law_members"] 3 sp_Lclosed) (CLis_integer : Has P w K mg base "_law_is_integer" ["_law_actual"] 1 sp_Lis_integer) (CLis_run : Has P w K mg base "_law_is_run" ["_law_actual", "_law_count_here"] 2 sp_Lis_run) {CN CD fN : Addr} {fdN : FuncData} (DC : DecC K CD) (Cdecide : Has P w K mg base "decide" ["net", "start", "goals"] 9 (sp_decide CN CD)) (MNet : Mk K CN fN) (GNet : FnOk P w K mg base CX0 3 fN fdN ["self", "places", "transitions"] (sp_Net_init CN)) (mNet : mg "Net" = some (.ref CN)) (bNet : Binds K fdN ["self", "places", "transitions"] []) : FnOk P w K mg base CX0 10 f fd ["_law_script"] (sp_law K) := by
  obtain ⟨_, _, GLdraws, mLdraws, kLdraws, bLdraws⟩ := CLdraws
  obtain ⟨_, _, GLnet, mLnet, kLnet, bLnet⟩ := CLnet
  obtain ⟨_, _, GLmarking, mLmarking, kLmarking, bLmarking⟩ := CLmarking
  obtain ⟨_, _, GLmarkings, mLmarkings, kLmarkings, bLmarkings⟩ := CLmarkings
  obtain ⟨_, _, GLtame, mLtame, kLtame, bLtame⟩ := CLtame
  obtain ⟨_, _, GLcount, mLcount, kLcount, bLcount⟩ := CLcount
  obtain ⟨_, _, GLrun, mLrun, kLrun, bLrun⟩ := CLrun
  obtain ⟨_, _, GLtake, mLtake, kLtake, bLtake⟩ := CLtake
  obtain ⟨_, _, GLwalk, mLwalk, kLwalk, bLwalk⟩ := CLwalk
  obtain ⟨_, _, GLstart, mLstart, kLstart, bLstart⟩ := CLstart
  obtain ⟨_, _, GLinside, mLinside, kLinside, bLinside⟩ := CLinside
  obtain ⟨_, _, GLall_numbers, mLall_numbers, kLall_numbers, bLall_numbers⟩ := CLall_numbers
  obtain ⟨_, _, GLleast, mLleast, kLleast, bLleast⟩ := CLleast
  obtain ⟨_, _, GLclosed, mLclosed, kLclosed, bLclosed⟩ := CLclosed
  obtain ⟨_, _, GLis_integer, mLis_integer, kLis_integer, bLis_integer⟩ := CLis_integer
  obtain ⟨_, _, GLis_run, mLis_run, kLis_run, bLis_run⟩ := CLis_run
  obtain ⟨_, _, Gdecide, mdecide, kdecide, bdecide⟩ := Cdecide
  refine F.ok sc_law (fun vs H Q E h => ?_) (fun cdv A outer s H vs Q E hr h => ?_)
  · obtain ⟨s0, xs, rfl, _⟩ := h
    rfl
  obtain ⟨s0, xs, rfl, hs, hx, q⟩ := h
  have hu64 := hu64_of hr
  refine ⟨_, pss_cons (ps_set (i := 1) sc_law.nd rfl (.inl rfl) (pe_call GLdraws (hr.mono (by decide)) rfl mLdraws kLdraws bLdraws .nil pass0 (pa_cons (pv 0) (pa_cons pe_int pa_nil))))
    (pss_cons (ps_set (i := 2) sc_law.nd rfl (.inl rfl) (pe_op op_add pe_int (pe_call GLtake (hr.mono (by decide)) rfl mLtake kLtake bLtake .nil pass0 (pa_cons (pv 1) (pa_cons pe_int pa_nil)))))
    (pss_cons (ps_set (i := 3) sc_law.nd rfl (.inl rfl) (pe_call GLnet (hr.mono (by decide)) rfl mLnet kLnet bLnet .nil pass0 (pa_cons (pv 1) (pa_cons (pv 2) (pa_cons pe_int (pa_cons pe_bl pa_nil))))))
    (pss_cons (ps_set (i := 4) sc_law.nd rfl (.inl rfl) (pe_call GLmarking (hr.mono (by decide)) rfl mLmarking kLmarking bLmarking .nil pass0 (pa_cons (pv 1) (pa_cons (pv 2) (pa_cons (pe_ix ix_list (pe_lst (pa_cons pe_int (pa_cons pe_int (pa_cons pe_int pa_nil)))) (pe_call GLtake (hr.mono (by decide)) rfl mLtake kLtake bLtake .nil pass0 (pa_cons (pv 1) (pa_cons pe_int pa_nil))) (fun _ _ => rfl)) pa_nil)))))
    (pss_cons (ps_set (i := 5) sc_law.nd rfl (.inl rfl) (pe_op op_sub (pe_call GLtake (hr.mono (by decide)) rfl mLtake kLtake bLtake .nil pass0 (pa_cons (pv 1) (pa_cons (pe_op op_add (pv 2) pe_int) pa_nil))) pe_int))
    (pss_cons (ps_set (i := 6) sc_law.nd rfl (.inl rfl) (pe_call GLmarkings (hr.mono (by decide)) rfl mLmarkings kLmarkings bLmarkings .nil pass0 (pa_cons (pv 1) (pa_cons (pv 2) (pa_cons (pe_ix ix_list (pe_lst (pa_cons pe_int (pa_cons pe_int (pa_cons pe_int (pa_cons pe_int (pa_cons pe_int pa_nil)))))) (pe_call GLtake (hr.mono (by decide)) rfl mLtake kLtake bLtake .nil pass0 (pa_cons (pv 1) (pa_cons pe_int pa_nil))) (fun _ _ => rfl)) (pa_cons pe_int pa_nil))))))
    (pss_cons (ps_set (i := 3) sc_law.nd rfl (.inl rfl) (pe_call GLtame (hr.mono (by decide)) rfl mLtame kLtame bLtame .nil pass0 (pa_cons (pv 3) (pa_cons (pv 6) pa_nil))))
    (pss_cons (ps_set (i := 7) sc_law.nd rfl (.inl rfl) (pe_call Gdecide hr rfl mdecide kdecide bdecide .nil pass0 (pa_cons (pe_make MNet GNet (hr.mono (by decide)) rfl mNet bNet .nil pass0 (pa_cons (pv 2) (pa_cons (pe_callTy call_list_of rfl T.list (by decide +kernel) (pa_cons (pv 3) pa_nil)) pa_nil))) (pa_cons (pe_tup (pa_cons (pv 4) (pa_cons (pv 5) pa_nil))) (pa_cons (pe_callTy call_list_of rfl T.list (by decide +kernel) (pa_cons (pv 6) pa_nil)) pa_nil)))))
    (pss_cons (ps_set (i := 8) sc_law.nd rfl (.inl rfl) (pe_fld (pv 7) rfl))
    (pss_cons (ps_if (PW.pt (pw_or (pt_not (pt_val (pe_callB call_isi rfl T.isinstance (by decide +kernel) (pa_cons (pv 8) (pa_cons (pe_bltn (v := .ty "tuple") rfl T.tuple (by decide +kernel) rfl) pa_nil))))) (pw_or1 (pt_not (pt_val (pe_call GLall_numbers (hr.mono (by decide)) rfl mLall_numbers kLall_numbers bLall_numbers .nil pass0 (pa_cons (pe_callTy call_list_of rfl T.list (by decide +kernel) (pa_cons (pv 8) pa_nil)) (pa_cons (pv 2) (pa_cons pe_int pa_nil)))))))))
      (pss_one (ps_ret pe_bl)) pss_nil)
    (pss_cons (ps_if (PW.pt (pw_or (pt_cmpR (op_neD hu64) (pe_callTy call_list_of rfl T.list (by decide +kernel) (pa_cons (pv 8) pa_nil)) (pe_call GLleast (hr.mono (by decide)) rfl mLleast kLleast bLleast .nil pass0 (pa_cons (pv 8) pa_nil)) (nomark _)) (pw_or1 (pt_not (pt_val (pe_call GLclosed (hr.mono (by decide)) rfl mLclosed kLclosed bLclosed .nil pass0 (pa_cons (pv 3) (pa_cons (pv 8) pa_nil))))))))
      (pss_one (ps_ret pe_bl)) pss_nil)
    (pss_cons (ps_for PassesOwn.never rfl (pi_list (pv 6)) (pg_name (i := 9) sc_law.nd rfl (.inl rfl))
      (pss_one (ps_if (pt_not (pt_val (pe_call GLinside (hr.mono (by decide)) rfl mLinside kLinside bLinside .nil pass0 (pa_cons (pv 8) (pa_cons (pv 9) pa_nil)))))
        (pss_one (ps_ret pe_bl)) pss_nil)))
    (pss_cons (ps_set (i := 10) sc_law.nd rfl (.inl rfl) (pe_call GLcount (hr.mono (by decide)) rfl mLcount kLcount bLcount .nil pass0 (pa_cons (pv 4) (pa_cons (pv 5) (pa_cons (pv 8) pa_nil)))))
    (pss_cons (ps_set (i := 11) sc_law.nd rfl (.inl rfl) pe_int)
    (Evl.pss_cut (ps_if (pt_cmpR op_ge (pv 5) pe_int (nomark _))
      (pss_one (ps_set (i := 11) sc_law.nd rfl (.inl rfl) (pe_call GLtake (hr.mono (by decide)) rfl mLtake kLtake bLtake .nil pass0 (pa_cons (pv 1) (pa_cons pe_int pa_nil))))) pss_nil)
    (pss_cons (ps_set (i := 12) sc_law.nd rfl (.inl rfl) pe_bl)
    (pss_cons (ps_for PassesOwn.never rfl (pi_list (pe_ix ix_tup (pe_call GLwalk (hr.mono (by decide)) rfl mLwalk kLwalk bLwalk .nil pass0 (pa_cons (pv 1) (pa_cons (pv 3) (pa_cons (pe_call GLstart (hr.mono (by decide)) rfl mLstart kLstart bLstart .nil pass0 (pa_cons (pv 4) (pa_cons (pv 5) (pa_cons (pv 11) pa_nil)))) (pa_cons pe_int pa_nil))))) pe_int (fun _ _ => rfl))) (pg_name (i := 13) sc_law.nd rfl (.inl rfl))
      (pss_one (ps_set (i := 12) sc_law.nd rfl (.inl rfl) (pe_or (pv 12) (pe_one (pe_call GLinside (hr.mono (by decide)) rfl mLinside kLinside bLinside .nil pass0 (pa_cons (pv 6) (pa_cons (pv 13) pa_nil))))))))
    (pss_cons (ps_if (pt_cmpR op_lt (pv 10) pe_int (nomark _))
      (pss_one (ps_ret (pe_and (pe_cmpR op_isBl (pe_fld (pv 7) rfl) pe_bl (nomark _)) (pe_and (pe_cmpR op_isN (pe_fld (pv 7) rfl) pe_non (nomark _)) (pe_and (pe_cmpR op_isN (pe_fld (pv 7) rfl) pe_non (nomark _)) (pe_one (pe_not (pv 12)))))))) pss_nil)
    (pss_cons (ps_if (PW.pt (pw_or (pt_cmpR op_notBl (pe_fld (pv 7) rfl) pe_bl (nomark _)) (pw_or (pt_not (pt_val (pe_call GLis_integer (hr.mono (by decide)) rfl mLis_integer kLis_integer bLis_integer .nil pass0 (pa_cons (pe_fld (pv 7) rfl) pa_nil)))) (pw_or1 (pt_cmpR op_ne (pe_fld (pv 7) rfl) (pv 10) (nomark _))))))
      (pss_one (ps_ret pe_bl)) pss_nil)
    (Evl.pss_cut (ps_if (PW.pt (pw_and (pt_val (pv 12)) (pw_and1 (pt_cmpR op_lt (pv 11) (pv 10) (nomark _)))))
      (pss_one (ps_ret pe_bl)) pss_nil)
    (pss_cons (ps_if (PW.pt (pw_or (pt_not (pt_val (pe_callB call_isi rfl T.isinstance (by decide +kernel) (pa_cons (pe_fld (pv 7) rfl) (pa_cons (pe_bltn (v := .ty "tuple") rfl T.tuple (by decide +kernel) rfl) pa_nil))))) (pw_or1 (pt_not (pt_val (pe_call GLis_run (hr.mono (by decide)) rfl mLis_run kLis_run bLis_run .nil pass0 (pa_cons (pe_fld (pv 7) rfl) (pa_cons (pe_callB call_len_seq rfl T.len PySem.boot_len (pa_cons (pv 3) pa_nil)) pa_nil))))))))
      (pss_one (ps_ret pe_bl)) pss_nil)
    (pss_cons (ps_set (i := 14) sc_law.nd rfl (.inl rfl) (pe_call GLrun (hr.mono (by decide)) rfl mLrun kLrun bLrun .nil pass0 (pa_cons (pv 3) (pa_cons (pe_call GLstart (hr.mono (by decide)) rfl mLstart kLstart bLstart .nil pass0 (pa_cons (pv 4) (pa_cons (pv 5) (pa_cons (pv 10) pa_nil)))) (pa_cons (pe_fld (pv 7) rfl) pa_nil)))))
    (pss_one (ps_ret (pe_and (pe_cmpR op_notN (pv 14) pe_non (nomark _)) (pe_one (pe_call GLinside (hr.mono (by decide)) rfl mLinside kLinside bLinside .nil pass0 (pa_cons (pv 6) (pa_cons (pv 14) pa_nil)))))))))))))))))))))))))))), ?_⟩
  refine ⟨_, rfl, s0, xs, 250, rfl, hs, by omega, fun d H1 s1 d1 => ?_⟩
  refine ⟨_, rfl, d, 4, rfl, d1, by decide, fun v H2 v0 v1 s2 d2 => ?_⟩
  obtain ⟨n, n1, n4, en⟩ : ∃ n : Nat, 1 ≤ n ∧ n ≤ 4 ∧ 1 + v = (n : Int) := ⟨(1 + v).toNat, by omega, by omega, by omega⟩
  refine ⟨_, _, rfl, rfl, ?_⟩
  dsimp only
  rw [en]
  -- the net
  refine ⟨_, rfl, _, rfl, d, n, rfl, d2, n1, n4, fun l ks H3 s3 d3 nld nl hl hk ok k1 k4 => ?_⟩
  -- the base
  refine ⟨_, rfl, _, rfl, by show 3 ≤ sizeLine; rw [line_eq]; omega, fun p hp => ?_⟩
  have sp := same_new hp (.lst [V.int 0, V.int 1, V.int 2])
  have npd : p ≠ d := (d3.ne hp).symm
  refine ⟨_, rfl, d, 3, rfl, d3.up sp, by decide, fun v3 H4 w0 w1 s4 d4 => ?_⟩
  have hp4 : H4 p = some (.lst [V.int 0, V.int 1, V.int 2]) := s4 _ _ upd_same npd
  obtain ⟨c, c0, hat⟩ : ∃ c : Int, 0 ≤ c ∧ atI [V.int 0, V.int 1, V.int 2] v3 = some (.int c) := by
    rcases (show v3 = 0 ∨ v3 = 1 ∨ v3 = 2 by omega) with e | e | e <;> subst e
    · exact ⟨0, by decide, rfl⟩
    · exact ⟨1, by decide, rfl⟩
    · exact ⟨2, by decide, rfl⟩
  refine ⟨p, _, v3, _, rfl, rfl, SqL.of hp4, hat, ?_⟩
  refine ⟨d, n, c, rfl, d4, by omega, c0, fun b bm H5 s5 d5 tb lb pb => ?_⟩
  -- the free place
  refine ⟨_, rfl, _, rfl, _, _, rfl, rfl, d, _, rfl, d5, by omega, fun fv H6 f0 f1 s6 d6 => ?_⟩
  refine ⟨_, _, rfl, rfl, ?_⟩
  dsimp only
  have fr0 : -1 ≤ fv - 1 := by omega
  have fr1 : fv - 1 < (n : Int) := by
    have z : fv < (n : Int) + 1 := f1
    omega
  generalize fv - 1 = fr at fr0 fr1 ⊢
  -- the goals
  refine ⟨_, rfl, _, rfl, by show 5 ≤ sizeLine; rw [line_eq]; omega, fun p2 hp2 => ?_⟩
  have sp2 := same_new hp2 (.lst [V.int 1, V.int 1, V.int 2, V.int 3, V.int 0])
  have npd2 : p2 ≠ d := (d6.ne hp2).symm
  refine ⟨_, rfl, d, 5, rfl, d6.up sp2, by decide, fun v5 H7 x0 x1 s7 d7 => ?_⟩
  have hp7 : H7 p2 = some (.lst [V.int 1, V.int 1, V.int 2, V.int 3, V.int 0]) := s7 _ _ upd_same npd2
  obtain ⟨cg, cg3, hatg⟩ : ∃ c : Nat, c ≤ 3 ∧ atI [V.int 1, V.int 1, V.int 2, V.int 3, V.int 0] v5 = some (.int (c : Int)) := by
    rcases (show v5 = 0 ∨ v5 = 1 ∨ v5 = 2 ∨ v5 = 3 ∨ v5 = 4 by omega) with e | e | e | e | e <;> subst e
    · exact ⟨1, by decide, rfl⟩
    · exact ⟨1, by decide, rfl⟩
    · exact ⟨2, by decide, rfl⟩
    · exact ⟨3, by decide, rfl⟩
    · exact ⟨0, by decide, rfl⟩
  refine ⟨p2, _, v5, _, rfl, rfl, SqL.of hp7, hatg, ?_⟩
  refine ⟨d, n, cg, 3, rfl, d7, by omega, by omega, by decide, fun g gs H8 s8 d8 ng ngd hg tg lg pg => ?_⟩
  -- what there is
  have sd48 : SameD d H3 H8 := ((((same_but sp).trans s4).trans s5).trans s6).trans (((same_but sp2).trans s7).trans s8)
  have sd58 : SameD d H5 H8 := s6.trans (((same_but sp2).trans s7).trans s8)
  have hl8 : H8 l = some (.lst (refs ks)) := sd48 _ _ hl nld
  have hk8 : Trs H8 ks := fun x hx => (hk x hx).upD sd48 d3
  have tb8 : Tu H8 b bm := tb.upD sd58 d5
  have tok : TrsOk n (ks.map (·.2)) := ⟨fun t ht => by
    obtain ⟨x, hx, rfl⟩ := List.mem_map.mp ht
    exact ok x hx⟩
  -- tamed
  refine ⟨_, rfl, _, rfl, l, g, ks, gs, n, rfl, hl8, hk8, tok, n4, k1, k4, hg, tg, by omega, pg, fun l' ks' H9 s9 hl9 hk9 tok9 k19 k49 bnd => ?_⟩
  have hg9 := s9 _ _ hg
  have tg9 := tg.up s9
  have tb9 := tb8.up s9
  have d9 := d8.up s9
  have hz : ∀ y ∈ gs, y.2.length = n ∧ ∀ i, i < n → 0 ≤ gt y.2 i := fun y hy => ⟨(pg y hy).1, fun i hi => ((pg y hy).2 i hi).1⟩
  have few : gs.length ≤ 3 := by omega
  have frn : fr < (n : Int) := fr1
  -- the decision
  refine ⟨_, rfl, _, rfl, l', _, rfl, .inl (SqL.of hl9), fun l2 hl2 => ?_⟩
  have t1 := same_new hl2 (.lst (refs ks'))
  have hl2' : upd H9 l2 (.lst (refs ks')) l2 = some (.lst (refs ks')) := upd_same
  generalize upd H9 l2 (.lst (refs ks')) = H10 at t1 hl2'
  refine fun x dx nx ndx nex => ?_
  have t2 : Same H10 (upd (upd H10 dx (.own x)) x (.ins CN dx [])) := made nx ndx
  refine ⟨x, dx, l2, n, ks', rfl, upd_same, t2 _ _ hl2', (hk9.up t1).up t2, fun y hy => tok9.ok _ (List.mem_map.mpr ⟨y, hy, rfl⟩), n1, by omega, by omega, fun H11 out11 N => ⟨rfl, ?_⟩⟩
  have t3 : Same H10 H11 := fun b o e => out11 b o (t2 b o e) (ne_of_none e nx)
  have t9 : Same H9 H11 := t1.trans t3
  refine ⟨_, rfl, _, rfl, by show 2 ≤ sizeLine; rw [line_eq]; omega, fun st hst => ?_⟩
  have t4 := same_new hst (.tup [V.ref b, V.int fr])
  have hst' : upd H11 st (.tup [V.ref b, V.int fr]) st = some (.tup [V.ref b, V.int fr]) := upd_same
  generalize upd H11 st (.tup [V.ref b, V.int fr]) = H12 at t4 hst'
  refine ⟨_, rfl, g, _, rfl, .inl (SqL.of (t4 _ _ (t9 _ _ hg9))), fun g2 hg2 => ?_⟩
  have t5 := same_new hg2 (.lst (refs gs))
  have hg2' : upd H12 g2 (.lst (refs gs)) g2 = some (.lst (refs gs)) := upd_same
  generalize upd H12 g2 (.lst (refs gs)) = H13 at t5 hg2'
  have t45 := t4.trans t5
  have t913 := t9.trans t45
  refine ⟨x, st, b, g2, gs, ks'.map (·.2), n, bm, fr, rfl, N.but fun b o e _ => t45 b o e, t5 _ _ hst', tb9.up t913, lb, frn, hg2', tg9.up t913, by omega, n1, n4, tok9, by rw [List.length_map]; omega, hz, bnd, fun dd B r c' u H14 s14 D tB right says => ?_⟩
  have nld' : l' ≠ d := fun e => by
    obtain ⟨ds, hd⟩ := d9
    have hd' : H9 d = some (.lst (ds.map V.int)) := hd
    rw [e, hd'] at hl9
    injection hl9 with e2
    injection e2 with e2
    cases ks' with
    | nil => exact absurd k19 (by decide)
    | cons a t =>
      cases ds with
      | nil => cases e2
      | cons i ds =>
        rw [refs, List.map_cons, List.map_cons] at e2
        injection e2 with e3 _
        cases e3
  have t914 := t913.trans s14
  have hl14 : H14 l' = some (.lst (refs ks')) := t914 _ _ hl9
  have hk14 : Trs H14 ks' := hk9.up t914
  have hg14 : H14 g = some (.lst (refs gs)) := t914 _ _ hg9
  have tg14 : Tus H14 gs := tg9.up t914
  have tb14 : Tu H14 b bm := tb9.up t914
  have d14 : Dr H14 d := d9.up t914
  obtain ⟨dxd, fds, bt, uv, hD, lr, lcn, lun, hrun, lbr, hbt⟩ := D.ex
  have szB : ∀ p ∈ B, p.2.length = n ∧ ∀ i, i < n → (0 : Int) ≤ gt p.2 i := fun p hp => by
    have z := right.size p.2 (List.mem_map.mpr ⟨p, hp, rfl⟩)
    exact ⟨z.1, fun i hi => (z.2 i hi).1⟩
  have s12B : ∀ p ∈ B, p.2.length = n ∧ ∀ i, i < n → gt p.2 i ≤ 12 := fun p hp => by
    have z := right.size p.2 (List.mem_map.mpr ⟨p, hp, rfl⟩)
    exact ⟨z.1, fun i hi => (z.2 i hi).2⟩
  have lenB : B.length ≤ 80 := by
    have z := right.few
    rw [List.length_map] at z
    exact z
  generalize hT : ks'.map (·.2) = ts at tok9 bnd says right
  generalize hGo : gs.map (·.2) = goals at bnd says right
  -- the barrier
  refine ⟨_, rfl, dd, CD, dxd, _, _, rfl, hD, DC.cl, DC.nB, lbr, ?_⟩
  refine ⟨_, rfl, _, _, .type "tuple", _, true, rfl, .ty "tuple", .base (.tup hbt), kit_ty (by decide +kernel), _, rfl, iteF ?_⟩
  refine ⟨_, rfl, bt, _, rfl, .inr (SqT.of hbt), fun L hL => ?_⟩
  have u1 := same_new hL (.lst (refs B))
  have hL' : upd H14 L (.lst (refs B)) L = some (.lst (refs B)) := upd_same
  generalize upd H14 L (.lst (refs B)) = H15 at u1 hL'
  refine ⟨_, rfl, L, B, n, 0, rfl, hL', tB.up u1, szB, _, rfl, iteF ?_⟩
  refine ⟨_, rfl, bt, _, rfl, .inr (SqT.of (u1 _ _ hbt)), fun L2 hL2 => ?_⟩
  have u2 := same_new hL2 (.lst (refs B))
  have hL2' : upd H15 L2 (.lst (refs B)) L2 = some (.lst (refs B)) := upd_same
  generalize upd H15 L2 (.lst (refs B)) = H16 at u2 hL2'
  have u02 := u1.trans u2
  refine ⟨_, rfl, bt, B, n, rfl, u02 _ _ hbt, tB.up u02, by omega, n1, by omega, fun p hp => (szB p hp).1, right.asc, right.anti, fun R0 R H17 u3 nR hR tR eR => ?_⟩
  have u03 := u02.trans u3
  refine ⟨dL B, dL R, dp_list (u3 _ _ hL2') (tB.up u03), dp_list hR tR, shaped_L _, shaped_L _, _, rfl, ?_⟩
  rw [eqv_L, eR, decide_eq_true rfl]
  refine iteF ?_
  refine ⟨_, rfl, _, rfl, l', bt, ks', B, n, rfl, u03 _ _ hl14, hk14.up u03, ?_, u03 _ _ hbt, tB.up u03, n4, s12B, ?_, fun H18 u4 => ?_⟩
  · rw [hT]; exact tok9
  · rw [hT]; exact right.closed
  refine ⟨_, rfl, iteF ?_⟩
  have u04 := u03.trans u4
  have tB18 := tB.up u04
  have hbt18 := u04 _ _ hbt
  have hg18 := u04 _ _ hg14
  have tg18 := tg14.up u04
  -- the goals stand above it
  refine ⟨_, rfl, g, rfl, ⟨_, SqL.of hg18⟩, for_list (K := K) (a := g) (xs := refs gs) (fun i σ H' => ∃ v, σ = [some (.ref s0), some (.ref d), some (.int (n : Int)), some (.ref l'), some (.ref b), some (.int fr), some (.ref g), some (.ref dd), some (.ref bt), v, none, none, none, none, none] ∧ H' = H18) ⟨none, rfl, rfl⟩ (fun i σ H' _ h => ?_) (fun i v σ H' hv h => ?_) fun σ H' h => ?_⟩
  · obtain ⟨_, _, rfl⟩ := h
    exact SqL.of hg18
  · obtain ⟨v9, rfl, rfl⟩ := h
    obtain ⟨y, ey, rfl⟩ := ref_at hv
    have ym := List.mem_of_getElem? ey
    refine ⟨_, rfl, _, rfl, bt, y.1, B, y.2, rfl, .inr (SqT.of hbt18), tB18, tg18 y ym, fun p hp => by rw [(szB p hp).1, (hz y ym).1], by rw [(hz y ym).1]; omega, _, rfl, ?_⟩
    have z := right.goals y.2 (by rw [← hGo]; exact List.mem_map.mpr ⟨y, ym, rfl⟩)
    rw [z]
    exact iteF ⟨_, rfl, rfl⟩
  obtain ⟨v9, rfl, rfl⟩ := h
  -- the count
  have tb18 := tb14.up u04
  refine ⟨_, rfl, _, rfl, _, rfl, b, bt, bm, fr, B, rfl, tb18, SqT.of hbt18, tB18, fun p hp => by rw [(szB p hp).1, lb], by omega, by omega, ?_⟩
  have d18 := d14.up u04
  refine ⟨fun σ Hm => ∃ (cH : Int) (v9 : Option V), σ = [some (.ref s0), some (.ref d), some (.int (n : Int)), some (.ref l'), some (.ref b), some (.int fr), some (.ref g), some (.ref dd), some (.ref bt), v9, some (.int (encL (lc bm fr (B.map (·.2))))), some (.int cH), none, none, none] ∧ 0 ≤ cH ∧ SameD d H' Hm ∧ Dr Hm d, ?_, ?_⟩
  · refine ⟨_, rfl, _, _, rfl, rfl, _, rfl, ?_⟩
    refine ite2 (fun c => ?_) (fun c => ?_)
    · exact ⟨_, rfl, d, 6, rfl, d18, by decide, fun v Hm m0 m1 sm dm => ⟨v, _, rfl, m0, sm, dm⟩⟩
    · exact ⟨0, _, rfl, Int.le_refl 0, SameD.refl d H', d18⟩
  rintro σ H19 ⟨cH, v9, rfl, c0, sd19, d19⟩
  have tnd : ∀ {a : Addr} {xs : List V}, H' a = some (.tup xs) → a ≠ d := fun {a xs} e z => by
    obtain ⟨ds, hz⟩ := d18
    rw [z, hz] at e
    cases e
  have tb19 : Tu H19 b bm := tb18.upD sd19 d18
  have hl19 : H19 l' = some (.lst (refs ks')) := sd19 _ _ (u04 _ _ hl14) nld'
  have hk19 : Trs H19 ks' := fun y hy => (hk14.up u04 y hy).upD sd19 d18
  have hg19 : H19 g = some (.lst (refs gs)) := sd19 _ _ hg18 ngd
  have tg19 : Tus H19 gs := fun y hy => (tg18 y hy).upD sd19 d18
  have hD19 : H19 dd = some (.ins CD dxd fds) := sd19 _ _ (u04 _ _ hD) (fun z => by
    obtain ⟨ds, hz⟩ := d18
    have e := u04 _ _ hD
    rw [z, hz] at e
    cases e)
  -- the walk
  refine ⟨_, rfl, _, rfl, _, rfl, _, rfl, _, rfl, b, bm, fr, cH, rfl, tb19, by omega, by omega, fun sa H20 s20 tsa => ?_⟩
  refine ⟨d, l', sa, ks', startM bm fr cH, n, 15, rfl, d19.up s20, nld', s20 _ _ hl19, hk19.up s20, ?_, k19, by omega, tsa, by rw [startM_len, lb], n1, by omega, by omega, fun aw rw' lw js H21 sd21 d21 haw hlw tjs reach => ?_⟩
  · rw [hT]; exact tok9
  rw [hT] at reach
  have d20 := d19.up s20
  refine ⟨aw, _, 1, _, rfl, rfl, SqT.of haw, rfl, ?_⟩
  have tb21 : Tu H21 b bm := (tb19.up s20).upD sd21 d20
  have hl21 : H21 l' = some (.lst (refs ks')) := sd21 _ _ (s20 _ _ hl19) nld'
  have hk21 : Trs H21 ks' := fun y hy => (hk19.up s20 y hy).upD sd21 d20
  have hg21 : H21 g = some (.lst (refs gs)) := sd21 _ _ (s20 _ _ hg19) ngd
  have tg21 : Tus H21 gs := fun y hy => ((tg19.up s20) y hy).upD sd21 d20
  have hD21 : H21 dd = some (.ins CD dxd fds) := sd21 _ _ (s20 _ _ hD19) (fun z => by
    obtain ⟨ds, hz⟩ := d20
    have e := s20 _ _ hD19
    rw [z, hz] at e
    cases e)
  have jn : ∀ p ∈ js, p.2.length = n := fun p hp => reach_len tok9 (by rw [startM_len, lb]) (reach p hp)
  refine ⟨lw, rfl, ⟨_, SqL.of hlw⟩, for_list (K := K) (a := lw) (xs := refs js) (fun i σ Hm => ∃ (mt : Bool) (v13 : Option V), σ = [some (.ref s0), some (.ref d), some (.int (n : Int)), some (.ref l'), some (.ref b), some (.int fr), some (.ref g), some (.ref dd), some (.ref bt), v9, some (.int (encL (lc bm fr (B.map (·.2))))), some (.int cH), some (.bl mt), v13, none] ∧ Hm = H21 ∧ (mt = true → ∃ y, Reach ts (startM bm fr cH) y ∧ inC goals y = true)) ⟨false, none, rfl, rfl, fun z => Bool.noConfusion z⟩ (fun i σ Hm _ h => ?_) (fun i v σ Hm hv h => ?_) fun σ Hm h => ?_⟩
  · obtain ⟨_, _, _, rfl, _⟩ := h
    exact SqL.of hlw
  · obtain ⟨mt, v13, rfl, rfl, hmt⟩ := h
    obtain ⟨y, ey, rfl⟩ := ref_at hv
    have ym := List.mem_of_getElem? ey
    refine ⟨_, rfl, _, rfl, ?_⟩
    cases mt with
    | true => exact iteT ⟨true, _, rfl, rfl, hmt⟩
    | false =>
      refine iteF ⟨_, rfl, _, rfl, g, y.1, gs, y.2, rfl, .inl (SqL.of hg21), tg21, tjs y ym, fun p hp => by rw [(hz p hp).1, jn y ym], by rw [jn y ym]; omega, ?_⟩
      refine ⟨_, _, rfl, rfl, fun z => ⟨y.2, reach y ym, ?_⟩⟩
      rw [hGo] at z
      exact z
  obtain ⟨mt, v13, rfl, rfl, hmt⟩ := h
  -- met means covered
  have met : mt = true → ∃ k, lc bm fr (B.map (·.2)) = some k ∧ k ≤ cH := fun z => by
    obtain ⟨y, ry, gy⟩ := hmt z
    obtain ⟨gm, hgm, cg'⟩ := inC_iff.mp gy
    obtain ⟨bb, hbb, cb⟩ := inC_iff.mp (right.goals gm hgm)
    have ly : y.length = n := reach_len tok9 (by rw [startM_len, lb]) ry
    have lgm : gm.length = n := by
      rw [← hGo] at hgm
      obtain ⟨w0, hw0, rfl⟩ := List.mem_map.mp hgm
      exact (hz w0 hw0).1
    have inB : inC (B.map (·.2)) y = true := inC_iff.mpr ⟨bb, hbb, cov_trans (ly.trans lgm.symm) cg' cb⟩
    exact lc_least (by omega) c0 (reach_back tok9 right.closed (by rw [startM_len, lb]) ry inB)
  refine ⟨_, rfl, _, _, rfl, rfl, _, rfl, ?_⟩
  cases e : lc bm fr (B.map (·.2)) with
  | none =>
    have sy : r = .bl false ∧ c' = .non ∧ u = none := by
      have z := says
      unfold Says at z
      rw [e] at z
      exact z
    obtain ⟨rfl, rfl, rfl⟩ := sy
    have hu : uv = .non := hrun
    subst hu
    have nm : mt = false := by
      cases mt with
      | false => rfl
      | true =>
        obtain ⟨k, ek, _⟩ := met rfl
        rw [e] at ek
        cases ek
    subst nm
    refine iteT ?_
    refine ⟨_, rfl, dd, CD, dxd, _, _, rfl, hD21, DC.cl, DC.nR, lr, false, false, rfl, rfl, _, rfl, iteT ?_⟩
    refine ⟨_, rfl, dd, CD, dxd, _, _, rfl, hD21, DC.cl, DC.nC, lcn, rfl, _, rfl, iteT ?_⟩
    refine ⟨_, rfl, dd, CD, dxd, _, _, rfl, hD21, DC.cl, DC.nU, lun, rfl, _, rfl, iteT ?_⟩
    exact ⟨_, rfl, _, rfl, q Hm⟩
  | some k =>
    have sy : r = .bl true ∧ c' = .int k ∧ ∃ (run : List Nat) (y : List Int), u = some ((run.map Int.ofNat).map V.int) ∧ (∀ i ∈ run, i < ts.length) ∧ runM ts (startM bm fr k) run = some y ∧ y.length = n ∧ inC goals y = true := by
      have z := says
      unfold Says at z
      rw [e] at z
      exact z
    obtain ⟨rfl, rfl, run, y, rfl, runs, ry, yn, gy⟩ := sy
    obtain ⟨tr, rfl, htr⟩ := hrun
    have k0 : 0 ≤ k := by
      rcases lc_some _ none k e with z | ⟨m, _, _, z⟩
      · cases z
      · have := dueC_nonneg bm fr m
        omega
    have nk : ¬ encL (some k) < 0 := by show ¬ k < 0; omega
    rw [decide_eq_false nk]
    refine iteF ?_
    refine ⟨_, rfl, dd, CD, dxd, _, _, rfl, hD21, DC.cl, DC.nR, lr, true, true, rfl, rfl, _, rfl, iteF ?_⟩
    refine ⟨_, rfl, dd, CD, dxd, _, _, rfl, hD21, DC.cl, DC.nC, lcn, k, rfl, _, rfl, iteF ?_⟩
    refine ⟨_, rfl, dd, CD, dxd, _, _, rfl, hD21, DC.cl, DC.nC, lcn, _, rfl, rfl, _, rfl, iteNS rfl ?_⟩
    refine ⟨fun σ Hq => σ = [some (.ref s0), some (.ref d), some (.int (n : Int)), some (.ref l'), some (.ref b), some (.int fr), some (.ref g), some (.ref dd), some (.ref bt), v9, some (.int (encL (some k))), some (.int cH), some (.bl mt), v13, none] ∧ Hq = Hm, ?_, ?_⟩
    · refine ⟨_, rfl, _, rfl, ?_⟩
      cases mt with
      | false => exact iteF (iteF ⟨rfl, rfl⟩)
      | true =>
        refine iteT ⟨_, rfl, _, rfl, _, _, rfl, rfl, _, rfl, ?_⟩
        obtain ⟨k2, ek, lek⟩ := met rfl
        rw [e] at ek
        cases ek
        have nl : ¬ cH < encL (some k) := by show ¬ cH < k; omega
        rw [decide_eq_false nl]
        exact iteF ⟨rfl, rfl⟩
    rintro σ Hq ⟨rfl, eq⟩
    rw [eq]
    have u014 : ∀ {a : Addr} {zs : List V}, H14 a = some (.tup zs) → Hm a = some (.tup zs) := fun {a zs} e => by
      have e1 := u04 _ _ e
      have e2 := sd19 _ _ e1 (tnd e1)
      have e3 := s20 _ _ e2
      refine sd21 _ _ e3 (fun z => ?_)
      obtain ⟨ds, hz2⟩ := d20
      rw [z, hz2] at e3
      cases e3
    have htr21 : Tu Hm tr (run.map Int.ofNat) := u014 htr
    refine ⟨_, rfl, dd, CD, dxd, _, _, rfl, hD21, DC.cl, DC.nU, lun, _, _, .type "tuple", _, true, rfl, .ty "tuple", .base (.tup htr21), kit_ty (by decide +kernel), _, rfl, iteF ?_⟩
    have lts : ts.length = ks'.length := by rw [← hT, List.length_map]
    refine ⟨_, rfl, dd, CD, dxd, _, _, rfl, hD21, DC.cl, DC.nU, lun, _, rfl, l', _, rfl, .inl (SqL.of hl21), ?_⟩
    rw [len_ref]
    refine ⟨tr, run.map Int.ofNat, _, rfl, htr21, fun i hi => ?_, _, rfl, iteF ?_⟩
    · rw [List.length_map] at hi
      have e1 : gt (run.map Int.ofNat) i = (run[i] : Int) := by
        rw [gt_lt (by rw [List.length_map]; exact hi), List.getElem_map]
        rfl
      have e2 := runs _ (List.getElem_mem hi)
      rw [e1]
      omega
    refine ⟨_, rfl, _, rfl, _, rfl, _, rfl, b, bm, fr, k, rfl, tb21, by omega, by omega, fun sa2 H22 s22 tsa2 => ?_⟩
    refine ⟨_, rfl, dd, CD, dxd, _, _, rfl, s22 _ _ hD21, DC.cl, DC.nU, lun, ?_⟩
    refine ⟨l', sa2, tr, ks', startM bm fr k, run, n, rfl, SqL.of (s22 _ _ hl21), hk21.up s22, ?_, tsa2, by rw [startM_len, lb], by omega, htr21.up s22, fun i hi => ?_, fun v H23 s23 fi => ?_⟩
    · rw [hT]; exact tok9
    · have := runs i hi
      omega
    rw [hT, ry] at fi
    obtain ⟨a, rfl, ha⟩ := fi
    refine ⟨_, rfl, rfl, _, rfl, iteT ?_⟩
    have s2223 := s22.trans s23
    refine ⟨_, rfl, _, rfl, g, a, gs, y, rfl, .inl (SqL.of (s2223 _ _ hg21)), tg21.up s2223, ha, fun p hp => by rw [(hz p hp).1, yn], by omega, ?_⟩
    rw [hGo, gy]
    exact q H23
end
end K16
namespace K16
open PySem L2
/-- the classes, as the top has made them -/
structure Clss (K : PySem.W.Frag) (mg : Str → Option Value) (CS CN CD fS fA fW fN fD : Addr) (fdS fdA fdW fdN fdD : FuncData) : Prop where
  SC : SatC K CS
  NC : NetC K CN
  DC : DecC K CD
  MS : Mk K CS fS
  FS : Fun K "__init__" "Saturation.__init__" sSaturation_init fS fdS
  mS : mg "Saturation" = some (.ref CS)
  bS : Binds K fdS ["self", "net", "goals"] []
  FA : Fun K "add" "Saturation.add" sSaturation_add fA fdA
  mA : Meth K CS "add" fA
  bA : Binds K fdA ["self", "marking", "following"] []
  FW : Fun K "way" "Saturation.way" sSaturation_way fW fdW
  mW : Meth K CS "way" fW
  bW : Binds K fdW ["self", "marking"] []
  MN : Mk K CN fN
  FN : Fun K "__init__" "Net.__init__" sNet_init fN fdN
  mN : mg "Net" = some (.ref CN)
  bN : Binds K fdN ["self", "places", "transitions"] []
  MD : Mk K CD fD
  FD : Fun K "__init__" "Decision.__init__" sDecision_init fD fdD
  mD : mg "Decision" = some (.ref CD)
  bD : Binds K fdD ["self", "reachable", "count", "run", "barrier"] []
theorem whole {P : Program} {w : World} {K : PySem.W.Frag} {mg : Str → Option Value} {base : Heap} {f : Addr} {fd : FuncData} {CS CN CD fS fA fW fN fD : Addr} {fdS fdA fdW fdN fdD : FuncData} (F : Fun K "law" "law" slaw f fd) (T : Blt mg) (D : Cst mg) (X : Clss K mg CS CN CD fS fA fW fN fD fdS fdA fdW fdN fdD) (S_covers : ∃ f fd, Stands K mg "covers" scovers ["first", "second"] f fd) (S_Lcovers : ∃ f fd, Stands K mg "_law_covers" sLcovers ["_law_first", "_law_second"] f fd) (S_in_closed : ∃ f fd, Stands K mg "in_closed" sin_closed ["members", "marking"] f fd) (S_Linside : ∃ f fd, Stands K mg "_law_inside" sLinside ["_law_members", "_law_marking_here"] f fd) (S_Ltake : ∃ f fd, Stands K mg "_law_take" sLtake ["_law_draws_here", "_law_limit"] f fd) (S_Lis_integer : ∃ f fd, Stands K mg "_law_is_integer" sLis_integer ["_law_actual"] f fd) (S_Lnumbers : ∃ f fd, Stands K mg "_law_numbers" sLnumbers ["_law_actual", "_law_size", "_law_low"] f fd) (S_Lall_numbers : ∃ f fd, Stands K mg "_law_all_numbers" sLall_numbers ["_law_actual", "_law_size", "_law_low"] f fd) (S_Lmarking : ∃ f fd, Stands K mg "_law_marking" sLmarking ["_law_draws_here", "_law_size", "_law_most"] f fd) (S_Lmarkings : ∃ f fd, Stands K mg "_law_markings" sLmarkings ["_law_draws_here", "_law_size", "_law_count_here", "_law_most"] f fd) (S_sharings : ∃ f fd, Stands K mg "sharings" ssharings ["number", "places"] f fd) (S_sources : ∃ f fd, Stands K mg "sources" ssources ["moves", "place"] f fd) (S_predecessors : ∃ f fd, Stands K mg "predecessors" spredecessors ["transition", "member"] f fd) (S_all_from : ∃ f fd, Stands K mg "all_from" sall_from ["numbers", "low", "high"] f fd) (S_fits : ∃ f fd, Stands K mg "fits" sfits ["transition", "places"] f fd) (S_start_marking : ∃ f fd, Stands K mg "start_marking" sstart_marking ["start", "count"] f fd) (S_count_for : ∃ f fd, Stands K mg "count_for" scount_for ["start", "member"] f fd) (S_least_count : ∃ f fd, Stands K mg "least_count" sleast_count ["start", "members"] f fd) (S_Lstart : ∃ f fd, Stands K mg "_law_start" sLstart ["_law_base", "_law_free", "_law_count_here"] f fd) (S_Lcount : ∃ f fd, Stands K mg "_law_count" sLcount ["_law_base", "_law_free", "_law_members"] f fd) (S_Lis_run : ∃ f fd, Stands K mg "_law_is_run" sLis_run ["_law_actual", "_law_count_here"] f fd) (S_Lfire : ∃ f fd, Stands K mg "_law_fire" sLfire ["_law_transition_here", "_law_marking_here"] f fd) (S_Lrun : ∃ f fd, Stands K mg "_law_run" sLrun ["_law_transitions", "_law_marking_here", "_law_run_here"] f fd) (S_Ltransition : ∃ f fd, Stands K mg "_law_transition" sLtransition ["_law_draws_here", "_law_places", "_law_plain"] f fd) (S_Lnet : ∃ f fd, Stands K mg "_law_net" sLnet ["_law_draws_here", "_law_places", "_law_most", "_law_plain"] f fd) (S_Lwalk : ∃ f fd, Stands K mg "_law_walk" sLwalk ["_law_draws_here", "_law_transitions", "_law_marking_here", "_law_steps"] f fd) (S_Ldraws : ∃ f fd, Stands K mg "_law_draws" sLdraws ["_law_script", "_law_count_here"] f fd) (S_Lconfig_covers : ∃ f fd, Stands K mg "_law_config_covers" sLconfig_covers ["_law_first", "_law_second"] f fd) (S_Lconfig_inside : ∃ f fd, Stands K mg "_law_config_inside" sLconfig_inside ["_law_members", "_law_config"] f fd) (S_Lways_back : ∃ f fd, Stands K mg "_law_ways_back" sLways_back ["_law_transition_here", "_law_marking_here"] f fd) (S_Lcalm : ∃ f fd, Stands K mg "_law_calm" sLcalm ["_law_transition_here"] f fd) (S_Lback : ∃ f fd, Stands K mg "_law_back" sLback ["_law_transition_here", "_law_member"] f fd) (S_Lclosed : ∃ f fd, Stands K mg "_law_closed" sLclosed ["_law_transitions", "_law_members"] f fd) (S_Lmail_back : ∃ f fd, Stands K mg "_law_mail_back" sLmail_back ["_law_transition_here", "_law_action", "_law_config"] f fd) (S_basis_of : ∃ f fd, Stands K mg "basis_of" sbasis_of ["members"] f fd) (S_Lleast : ∃ f fd, Stands K mg "_law_least" sLleast ["_law_members"] f fd) (S_Lsmall : ∃ f fd, Stands K mg "_law_small" sLsmall ["_law_transitions", "_law_actions", "_law_goals"] f fd) (S_Ltame : ∃ f fd, Stands K mg "_law_tame" sLtame ["_law_transitions", "_law_goals"] f fd) (S_decide : ∃ f fd, Stands K mg "decide" sdecide ["net", "start", "goals"] f fd) : FnOk P w K mg base CX0 10 f fd ["_law_script"] (sp_law K) := by
  obtain ⟨_, _, S_covers⟩ := S_covers
  obtain ⟨_, _, S_Lcovers⟩ := S_Lcovers
  obtain ⟨_, _, S_in_closed⟩ := S_in_closed
  obtain ⟨_, _, S_Linside⟩ := S_Linside
  obtain ⟨_, _, S_Ltake⟩ := S_Ltake
  obtain ⟨_, _, S_Lis_integer⟩ := S_Lis_integer
  obtain ⟨_, _, S_Lnumbers⟩ := S_Lnumbers
  obtain ⟨_, _, S_Lall_numbers⟩ := S_Lall_numbers
  obtain ⟨_, _, S_Lmarking⟩ := S_Lmarking
  obtain ⟨_, _, S_Lmarkings⟩ := S_Lmarkings
  obtain ⟨_, _, S_sharings⟩ := S_sharings
  obtain ⟨_, _, S_sources⟩ := S_sources
  obtain ⟨_, _, S_predecessors⟩ := S_predecessors
  obtain ⟨_, _, S_all_from⟩ := S_all_from
  obtain ⟨_, _, S_fits⟩ := S_fits
  obtain ⟨_, _, S_start_marking⟩ := S_start_marking
  obtain ⟨_, _, S_count_for⟩ := S_count_for
  obtain ⟨_, _, S_least_count⟩ := S_least_count
  obtain ⟨_, _, S_Lstart⟩ := S_Lstart
  obtain ⟨_, _, S_Lcount⟩ := S_Lcount
  obtain ⟨_, _, S_Lis_run⟩ := S_Lis_run
  obtain ⟨_, _, S_Lfire⟩ := S_Lfire
  obtain ⟨_, _, S_Lrun⟩ := S_Lrun
  obtain ⟨_, _, S_Ltransition⟩ := S_Ltransition
  obtain ⟨_, _, S_Lnet⟩ := S_Lnet
  obtain ⟨_, _, S_Lwalk⟩ := S_Lwalk
  obtain ⟨_, _, S_Ldraws⟩ := S_Ldraws
  obtain ⟨_, _, S_Lconfig_covers⟩ := S_Lconfig_covers
  obtain ⟨_, _, S_Lconfig_inside⟩ := S_Lconfig_inside
  obtain ⟨_, _, S_Lways_back⟩ := S_Lways_back
  obtain ⟨_, _, S_Lcalm⟩ := S_Lcalm
  obtain ⟨_, _, S_Lback⟩ := S_Lback
  obtain ⟨_, _, S_Lclosed⟩ := S_Lclosed
  obtain ⟨_, _, S_Lmail_back⟩ := S_Lmail_back
  obtain ⟨_, _, S_basis_of⟩ := S_basis_of
  obtain ⟨_, _, S_Lleast⟩ := S_Lleast
  obtain ⟨_, _, S_Lsmall⟩ := S_Lsmall
  obtain ⟨_, _, S_Ltame⟩ := S_Ltame
  obtain ⟨_, _, S_decide⟩ := S_decide
  have h_covers := ok_covers (P := P) (w := w) (base := base) S_covers T
  have h_Lcovers := ok_Lcovers (P := P) (w := w) (base := base) S_Lcovers T
  have h_in_closed := ok_in_closed (P := P) (w := w) (base := base) S_in_closed h_covers
  have h_Linside := ok_Linside (P := P) (w := w) (base := base) S_Linside h_Lcovers
  have h_Ltake := ok_Ltake (P := P) (w := w) (base := base) S_Ltake T
  have h_Lis_integer := ok_Lis_integer (P := P) (w := w) (base := base) S_Lis_integer T
  have h_Lnumbers := ok_Lnumbers (P := P) (w := w) (base := base) S_Lnumbers T h_Lis_integer
  have h_Lall_numbers := ok_Lall_numbers (P := P) (w := w) (base := base) S_Lall_numbers T h_Lnumbers
  have h_Lmarking := ok_Lmarking (P := P) (w := w) (base := base) S_Lmarking T h_Ltake
  have h_Lmarkings := ok_Lmarkings (P := P) (w := w) (base := base) S_Lmarkings T h_Lmarking
  have h_sharings := ok_sharings (P := P) (w := w) (base := base) S_sharings T
  have h_sources := ok_sources (P := P) (w := w) (base := base) S_sources T
  have h_predecessors := ok_predecessors (P := P) (w := w) (base := base) S_predecessors T h_sources h_sharings
  have h_all_from := ok_all_from (P := P) (w := w) (base := base) S_all_from T
  have h_fits := ok_fits (P := P) (w := w) (base := base) S_fits T h_all_from D
  have h_start_marking := ok_start_marking (P := P) (w := w) (base := base) S_start_marking T
  have h_count_for := ok_count_for (P := P) (w := w) (base := base) S_count_for T
  have h_least_count := ok_least_count (P := P) (w := w) (base := base) S_least_count T h_count_for
  have h_Lstart := ok_Lstart (P := P) (w := w) (base := base) S_Lstart T
  have h_Lcount := ok_Lcount (P := P) (w := w) (base := base) S_Lcount T
  have h_Lis_run := ok_Lis_run (P := P) (w := w) (base := base) S_Lis_run T h_Lis_integer
  have h_Lfire := ok_Lfire (P := P) (w := w) (base := base) S_Lfire T h_Lcovers
  have h_Lrun := ok_Lrun (P := P) (w := w) (base := base) S_Lrun T h_Lfire
  have h_Ltransition := ok_Ltransition (P := P) (w := w) (base := base) S_Ltransition T h_Ltake
  have h_Lnet := ok_Lnet (P := P) (w := w) (base := base) S_Lnet T h_Ltransition h_Ltake
  have h_Lwalk := ok_Lwalk (P := P) (w := w) (base := base) S_Lwalk T h_Ltake h_Lfire
  have h_Ldraws := ok_Ldraws (P := P) (w := w) (base := base) S_Ldraws T
  have h_Lconfig_covers := ok_Lconfig_covers (P := P) (w := w) (base := base) S_Lconfig_covers T h_Lcovers
  have h_Lconfig_inside := ok_Lconfig_inside (P := P) (w := w) (base := base) S_Lconfig_inside T h_Lconfig_covers
  have h_Lways_back := ok_Lways_back (P := P) (w := w) (base := base) S_Lways_back T
  have h_Lcalm := ok_Lcalm (P := P) (w := w) (base := base) S_Lcalm T
  have h_Lback := ok_Lback (P := P) (w := w) (base := base) S_Lback T
  have h_Lclosed := ok_Lclosed (P := P) (w := w) (base := base) S_Lclosed T h_Lback h_Linside
  have h_Lmail_back := ok_Lmail_back (P := P) (w := w) (base := base) S_Lmail_back T h_Lback
  have h_basis_of := ok_basis_of (P := P) (w := w) (base := base) S_basis_of T h_covers
  have h_Lleast := ok_Lleast (P := P) (w := w) (base := base) S_Lleast T h_Lcovers
  have h_Lsmall := ok_Lsmall (P := P) (w := w) (base := base) S_Lsmall T h_Lmail_back h_Lways_back h_Lconfig_inside
  have h_Ltame := ok_Ltame (P := P) (w := w) (base := base) S_Ltame T h_Lsmall h_Lcalm
  have GNet : FnOk P w K mg base CX0 3 fN fdN ["self", "places", "transitions"] (sp_Net_init CN) := ok_Net_init X.FN T D X.NC h_fits
  have GA : FnOk P w K mg base CX0 3 fA fdA ["self", "marking", "following"] (sp_Sat_add CS) := ok_Saturation_add X.FA X.SC h_in_closed
  have GW : FnOk P w K mg base CX0 3 fW fdW ["self", "marking"] (sp_Sat_way CS) := ok_Saturation_way X.FW X.SC h_in_closed
  have GS : FnOk P w K mg base CX0 7 fS fdS ["self", "net", "goals"] (sp_Sat_init CS CN) := ok_Saturation_init X.FS T X.SC X.NC GA X.mA X.bA h_basis_of h_predecessors
  have GD : FnOk P w K mg base CX0 1 fD fdD ["self", "reachable", "count", "run", "barrier"] (sp_Decision_init CD) := ok_Decision_init X.FD T X.DC
  have h_decide : Has P w K mg base "decide" ["net", "start", "goals"] 9 (sp_decide CN CD) := ok_decide S_decide T h_basis_of h_least_count h_start_marking X.SC X.MS GS X.mS X.bS GW X.mW X.bW X.MD GD X.mD X.bD
  exact ok_law (P := P) (w := w) (base := base) F T h_Ldraws h_Lnet h_Lmarking h_Lmarkings h_Ltame h_Lcount h_Lrun h_Ltake h_Lwalk h_Lstart h_Linside h_Lall_numbers h_Lleast h_Lclosed h_Lis_integer h_Lis_run X.DC h_decide X.MN GNet X.mN X.bN
theorem st_step {K : PySem.W.Frag} {h : Heap} {mg : Str → Option Value} (x : Str) (st : Stmt) (ps : List Str) {R : Prop} {f : Addr} {oc kV dc pm cd ct : Value} {od an : Option Addr} {sl : Array (Option Value)} (X : K.In h) (G : h.Ns mainGlobals mg) (a : PySem.W.nsIn K mainGlobals x = some (some (.ref f)))
    (l : K.lookup f = some ⟨oc, od, .func (PySem.W.fnOf x x (defArgs st) (defBody st) (defScope st) .none kV dc pm an cd ct), sl⟩) (c : PySem.W.codeIn K cd x = true) (k : PySem.W.keepIn K (.ref f) = true)
    (hb : ∀ (kV doc pm : Value) (an : Option Addr) (cdv ct : Value) (us : List Value), us.length = ps.length → bindArgs (PySem.W.fnOf x x (defArgs st) (defBody st) (defScope st) .none kV doc pm an cdv ct) ⟨us, []⟩ = pure (ps.zip us)) (next : (∃ f fd, Stands K mg x st ps f fd) → R) : R :=
  next ⟨f, _, fun_mk (st := st) l c k, PySem.W.mg_of X G a, (fun_mk (st := st) l c k).binds hb⟩
theorem Saturation_step {K : PySem.W.Frag} {h : Heap} {mg : Str → Option Value} {R : Prop} {CS : Addr} {f0 : Addr} {oc0 kV0 dc0 pm0 cd0 ct0 : Value} {od0 an0 : Option Addr} {sl0 : Array (Option Value)} {f1 : Addr} {oc1 kV1 dc1 pm1 cd1 ct1 : Value} {od1 an1 : Option Addr} {sl1 : Array (Option Value)} {f2 : Addr} {oc2 kV2 dc2 pm2 cd2 ct2 : Value} {od2 an2 : Option Addr} {sl2 : Array (Option Value)} (X : K.In h) (G : h.Ns mainGlobals mg) (aC : PySem.W.nsIn K mainGlobals "Saturation" = some (some (.ref CS))) (pg : PySem.W.plainGet K CS Str.empty = true) (hd : PySem.W.hasDictIn K CS = true) (po : PySem.W.plainOver K CS = true) (sa : PySem.W.findIn K (.ref CS) "__setattr__" = some (some (.builtin "object.__setattr__"))) (mk : PySem.W.makesIn K CS = true) (kc : PySem.W.keepIn K (.ref CS) = true) (a0 : PySem.W.findIn K (.ref CS) "__init__" = some (some (.ref f0))) (i0 : PySem.W.isFn K (.ref f0) = true) (l0 : K.lookup f0 = some ⟨oc0, od0, .func (PySem.W.fnOf "__init__" "Saturation.__init__" (defArgs sSaturation_init) (defBody sSaturation_init) (defScope sSaturation_init) .none kV0 dc0 pm0 an0 cd0 ct0), sl0⟩) (c0 : PySem.W.codeIn K cd0 "Saturation.__init__" = true) (k0 : PySem.W.keepIn K (.ref f0) = true) (a1 : PySem.W.findIn K (.ref CS) "add" = some (some (.ref f1))) (i1 : PySem.W.isFn K (.ref f1) = true) (l1 : K.lookup f1 = some ⟨oc1, od1, .func (PySem.W.fnOf "add" "Saturation.add" (defArgs sSaturation_add) (defBody sSaturation_add) (defScope sSaturation_add) .none kV1 dc1 pm1 an1 cd1 ct1), sl1⟩) (c1 : PySem.W.codeIn K cd1 "Saturation.add" = true) (k1 : PySem.W.keepIn K (.ref f1) = true) (a2 : PySem.W.findIn K (.ref CS) "way" = some (some (.ref f2))) (i2 : PySem.W.isFn K (.ref f2) = true) (l2 : K.lookup f2 = some ⟨oc2, od2, .func (PySem.W.fnOf "way" "Saturation.way" (defArgs sSaturation_way) (defBody sSaturation_way) (defScope sSaturation_way) .none kV2 dc2 pm2 an2 cd2 ct2), sl2⟩) (c2 : PySem.W.codeIn K cd2 "Saturation.way" = true) (k2 : PySem.W.keepIn K (.ref f2) = true) (n0 : PySem.W.findIn K (.ref CS) "net" = some none) (n1 : PySem.W.findIn K (.ref CS) "found" = some none) (n2 : PySem.W.findIn K (.ref CS) "following" = some none) (next : (∃ (CS f0 f1 f2 : Addr) (fd0 fd1 fd2 : FuncData), SatC K CS ∧ Mk K CS f0 ∧ mg "Saturation" = some (.ref CS) ∧ Fun K "__init__" "Saturation.__init__" sSaturation_init f0 fd0 ∧ Binds K fd0 ["self", "net", "goals"] [] ∧ Fun K "add" "Saturation.add" sSaturation_add f1 fd1 ∧ Binds K fd1 ["self", "marking", "following"] [] ∧ Meth K CS "add" f1 ∧ Fun K "way" "Saturation.way" sSaturation_way f2 fd2 ∧ Binds K fd2 ["self", "marking"] [] ∧ Meth K CS "way" f2) → R) : R :=
  next ⟨CS, f0, f1, f2, _, _, _, ⟨⟨pg, hd, po, sa⟩, n0, n1, n2⟩, ⟨mk, a0, i0, kc⟩, PySem.W.mg_of X G aC, fun_mk (st := sSaturation_init) l0 c0 k0, (fun_mk (st := sSaturation_init) l0 c0 k0).binds (ps := ["self", "net", "goals"]) (fun _ _ _ _ _ _ us hl => match us, hl with | [_, _, _], _ => rfl), fun_mk (st := sSaturation_add) l1 c1 k1, (fun_mk (st := sSaturation_add) l1 c1 k1).binds (ps := ["self", "marking", "following"]) (fun _ _ _ _ _ _ us hl => match us, hl with | [_, _, _], _ => rfl), ⟨a1, i1, k1⟩, fun_mk (st := sSaturation_way) l2 c2 k2, (fun_mk (st := sSaturation_way) l2 c2 k2).binds (ps := ["self", "marking"]) (fun _ _ _ _ _ _ us hl => match us, hl with | [_, _], _ => rfl), ⟨a2, i2, k2⟩⟩
theorem Net_step {K : PySem.W.Frag} {h : Heap} {mg : Str → Option Value} {R : Prop} {CN : Addr} {f0 : Addr} {oc0 kV0 dc0 pm0 cd0 ct0 : Value} {od0 an0 : Option Addr} {sl0 : Array (Option Value)} (X : K.In h) (G : h.Ns mainGlobals mg) (aC : PySem.W.nsIn K mainGlobals "Net" = some (some (.ref CN))) (pg : PySem.W.plainGet K CN Str.empty = true) (hd : PySem.W.hasDictIn K CN = true) (po : PySem.W.plainOver K CN = true) (sa : PySem.W.findIn K (.ref CN) "__setattr__" = some (some (.builtin "object.__setattr__"))) (mk : PySem.W.makesIn K CN = true) (kc : PySem.W.keepIn K (.ref CN) = true) (a0 : PySem.W.findIn K (.ref CN) "__init__" = some (some (.ref f0))) (i0 : PySem.W.isFn K (.ref f0) = true) (l0 : K.lookup f0 = some ⟨oc0, od0, .func (PySem.W.fnOf "__init__" "Net.__init__" (defArgs sNet_init) (defBody sNet_init) (defScope sNet_init) .none kV0 dc0 pm0 an0 cd0 ct0), sl0⟩) (c0 : PySem.W.codeIn K cd0 "Net.__init__" = true) (k0 : PySem.W.keepIn K (.ref f0) = true) (n0 : PySem.W.findIn K (.ref CN) "places" = some none) (n1 : PySem.W.findIn K (.ref CN) "transitions" = some none) (next : (∃ (CN f0 : Addr) (fd0 : FuncData), NetC K CN ∧ Mk K CN f0 ∧ mg "Net" = some (.ref CN) ∧ Fun K "__init__" "Net.__init__" sNet_init f0 fd0 ∧ Binds K fd0 ["self", "places", "transitions"] []) → R) : R :=
  next ⟨CN, f0, _, ⟨⟨pg, hd, po, sa⟩, n0, n1⟩, ⟨mk, a0, i0, kc⟩, PySem.W.mg_of X G aC, fun_mk (st := sNet_init) l0 c0 k0, (fun_mk (st := sNet_init) l0 c0 k0).binds (ps := ["self", "places", "transitions"]) (fun _ _ _ _ _ _ us hl => match us, hl with | [_, _, _], _ => rfl)⟩
theorem Decision_step {K : PySem.W.Frag} {h : Heap} {mg : Str → Option Value} {R : Prop} {CD : Addr} {f0 : Addr} {oc0 kV0 dc0 pm0 cd0 ct0 : Value} {od0 an0 : Option Addr} {sl0 : Array (Option Value)} (X : K.In h) (G : h.Ns mainGlobals mg) (aC : PySem.W.nsIn K mainGlobals "Decision" = some (some (.ref CD))) (pg : PySem.W.plainGet K CD Str.empty = true) (hd : PySem.W.hasDictIn K CD = true) (po : PySem.W.plainOver K CD = true) (sa : PySem.W.findIn K (.ref CD) "__setattr__" = some (some (.builtin "object.__setattr__"))) (mk : PySem.W.makesIn K CD = true) (kc : PySem.W.keepIn K (.ref CD) = true) (a0 : PySem.W.findIn K (.ref CD) "__init__" = some (some (.ref f0))) (i0 : PySem.W.isFn K (.ref f0) = true) (l0 : K.lookup f0 = some ⟨oc0, od0, .func (PySem.W.fnOf "__init__" "Decision.__init__" (defArgs sDecision_init) (defBody sDecision_init) (defScope sDecision_init) .none kV0 dc0 pm0 an0 cd0 ct0), sl0⟩) (c0 : PySem.W.codeIn K cd0 "Decision.__init__" = true) (k0 : PySem.W.keepIn K (.ref f0) = true) (n0 : PySem.W.findIn K (.ref CD) "reachable" = some none) (n1 : PySem.W.findIn K (.ref CD) "count" = some none) (n2 : PySem.W.findIn K (.ref CD) "run" = some none) (n3 : PySem.W.findIn K (.ref CD) "barrier" = some none) (next : (∃ (CD f0 : Addr) (fd0 : FuncData), DecC K CD ∧ Mk K CD f0 ∧ mg "Decision" = some (.ref CD) ∧ Fun K "__init__" "Decision.__init__" sDecision_init f0 fd0 ∧ Binds K fd0 ["self", "reachable", "count", "run", "barrier"] []) → R) : R :=
  next ⟨CD, f0, _, ⟨⟨pg, hd, po, sa⟩, n0, n1, n2, n3⟩, ⟨mk, a0, i0, kc⟩, PySem.W.mg_of X G aC, fun_mk (st := sDecision_init) l0 c0 k0, (fun_mk (st := sDecision_init) l0 c0 k0).binds (ps := ["self", "reachable", "count", "run", "barrier"]) (fun _ _ _ _ _ _ us hl => match us, hl with | [_, _, _, _, _], _ => rfl)⟩
theorem cst_step {K : PySem.W.Frag} {h : Heap} {mg : Str → Option Value} {R : Prop} {t0 t1 t2 t3 : Tok} (X : K.In h) (G : h.Ns mainGlobals mg) (n0 : PySem.W.nsIn K mainGlobals "MOST_PLACES" = some (some (.int 12 t0))) (n1 : PySem.W.nsIn K mainGlobals "MOST_TRANSITIONS" = some (some (.int 24 t1))) (n2 : PySem.W.nsIn K mainGlobals "MOST_WEIGHT" = some (some (.int 9 t2))) (n3 : PySem.W.nsIn K mainGlobals "LOST" = some (some (.int (-1) t3))) (next : Cst mg → R) : R :=
  next ⟨⟨_, PySem.W.mg_of X G n0⟩, ⟨_, PySem.W.mg_of X G n1⟩, ⟨_, PySem.W.mg_of X G n2⟩, ⟨_, PySem.W.mg_of X G n3⟩⟩
theorem blt_step {K : PySem.W.Frag} {h : Heap} {mg : Str → Option Value} {R : Prop} (X : K.In h) (G : h.Ns mainGlobals mg) (n0 : PySem.W.nsIn K mainGlobals "len" = some none) (n1 : PySem.W.nsIn K mainGlobals "range" = some none) (n2 : PySem.W.nsIn K mainGlobals "sorted" = some none) (n3 : PySem.W.nsIn K mainGlobals "set" = some none) (n4 : PySem.W.nsIn K mainGlobals "list" = some none) (n5 : PySem.W.nsIn K mainGlobals "tuple" = some none) (n6 : PySem.W.nsIn K mainGlobals "max" = some none) (n7 : PySem.W.nsIn K mainGlobals "int" = some none) (n8 : PySem.W.nsIn K mainGlobals "isinstance" = some none) (n9 : PySem.W.nsIn K mainGlobals "sum" = some none) (n10 : PySem.W.nsIn K mainGlobals "bool" = some none) (next : Blt mg → R) : R :=
  next ⟨PySem.W.mg_none_of X G n0, PySem.W.mg_none_of X G n1, PySem.W.mg_none_of X G n2, PySem.W.mg_none_of X G n3, PySem.W.mg_none_of X G n4, PySem.W.mg_none_of X G n5, PySem.W.mg_none_of X G n6, PySem.W.mg_none_of X G n7, PySem.W.mg_none_of X G n8, PySem.W.mg_none_of X G n9, PySem.W.mg_none_of X G n10⟩
theorem law_step {lw : PySem.W.OpenLaw} {w : World} {K : PySem.W.Frag} {h : Heap} {mg : Str → Option Value} {fa f : Addr} {oc kV dc pm cd ct : Value} {od an : Option Addr} {sl : Array (Option Value)} (X : K.In h) (G : h.Ns mainGlobals mg) (hfa : mg "law" = some (.ref fa)) (a : PySem.W.nsIn K mainGlobals "law" = some (some (.ref f))) (l : K.lookup f = some ⟨oc, od, .func (PySem.W.fnOf "law" "law" (defArgs slaw) (defBody slaw) (defScope slaw) .none kV dc pm an cd ct), sl⟩) (c : PySem.W.codeIn K cd "law" = true) (k : PySem.W.keepIn K (.ref f) = true)
    (all : ∀ (base : Heap) (fd : FuncData), Fun K "law" "law" slaw f fd → FnOk lw.prog w K mg base CX0 10 f fd ["_law_script"] (sp_law K)) :
    ∃ fd : FuncData, (∀ (s : Shared) (v : Value), BindsTo s fd ⟨[v], []⟩ [("_law_script", v)]) ∧ ∀ base : Heap, K.In base → base.Ns mainGlobals mg → FnOk lw.prog w K mg base CX0 10 fa fd ["_law_script"] (sp_law K) := by
  have e := hfa.symm.trans (PySem.W.mg_of X G a)
  cases e
  exact ⟨_, fun s v => .of_eq rfl, fun base _ _ => all base _ (fun_mk (st := slaw) l c k)⟩
theorem walk {l : PySem.W.OpenLaw} {q : Program} {loose : List Str} {XP : (Str → Option Value) → Heap → Prop} {YP : World → Heap → Prop} {d : DefRec} {K : Params → PySem.W.Frag} (hn : l.most = some 63) (hdf : d.params.defaults = [])
    (hY : ∀ (w : World) (h : Heap), YP w h → (K w.params).In h)
    (F : ∀ (w : World) (mg : Str → Option Value) (fa : Addr) (h : Heap), (K w.params).In h → h.Ns mainGlobals mg → mg d.name = some (.ref fa) →
      ∃ fd : FuncData, (∀ (s : Shared) (u : Value), BindsTo s fd ⟨[u], []⟩ [("_law_script", u)]) ∧ ∀ base : Heap, (K w.params).In base → base.Ns mainGlobals mg → FnOk l.prog w (K w.params) mg base CX0 10 fa fd ["_law_script"] (sp_law (K w.params))) :
    PySem.W.WalkO q loose XP YP l.row.toRowW d [] (fun f vs => PySem.call f vs) :=
  L2.walk_of (n := 63) (k := 10) (x := "_law_script") (CX := fun _ => CX0) (sp := fun w => sp_law (K w.params)) hn (by decide) hdf ⟨rfl, by decide, by decide⟩ hY F (fun _ _ a ns hl _ hS => ⟨a, ns, rfl, hS, hl, fun _ => rfl⟩) fun _ _ _ _ _ z => z
end K16
open PySem PySem.W PyProof.Rows
set_option maxRecDepth 100000 in
set_option maxHeartbeats 0 in
theorem PySem.Challenge.cw_covernets_k16_whole_decisions_holds : PySem.Challenge.rw_covernets_k16_whole_decisions.Holds := by
  w_on; o_law; k_head; (case hw => w_witness2)
  k_fill
  refine K16.walk (l := PySem.Challenge.rw_covernets_k16_whole_decisions) rfl rfl (fun w h Y => PySem.W.kIn_of Y) ?F
  case F =>
    intro w mg fa h KX G hmg
    refine' K16.st_step "covers" K16.scovers ["first", "second"] KX G ?a_1 ?l_1 ?c_1 ?k_1 (fun _ _ _ _ _ _ us hl => match us, hl with | [_, _], _ => rfl) ?next_1
    (case a_1 => k_is); (case l_1 => k_is); (case c_1 => k_is); (case k_1 => k_is)
    refine fun S_covers => ?_
    refine' K16.st_step "_law_covers" K16.sLcovers ["_law_first", "_law_second"] KX G ?a_2 ?l_2 ?c_2 ?k_2 (fun _ _ _ _ _ _ us hl => match us, hl with | [_, _], _ => rfl) ?next_2
    (case a_2 => k_is); (case l_2 => k_is); (case c_2 => k_is); (case k_2 => k_is)
    refine fun S_Lcovers => ?_
    refine' K16.st_step "in_closed" K16.sin_closed ["members", "marking"] KX G ?a_3 ?l_3 ?c_3 ?k_3 (fun _ _ _ _ _ _ us hl => match us, hl with | [_, _], _ => rfl) ?next_3
    (case a_3 => k_is); (case l_3 => k_is); (case c_3 => k_is); (case k_3 => k_is)
    refine fun S_in_closed => ?_
    refine' K16.st_step "_law_inside" K16.sLinside ["_law_members", "_law_marking_here"] KX G ?a_4 ?l_4 ?c_4 ?k_4 (fun _ _ _ _ _ _ us hl => match us, hl with | [_, _], _ => rfl) ?next_4
    (case a_4 => k_is); (case l_4 => k_is); (case c_4 => k_is); (case k_4 => k_is)
    refine fun S_Linside => ?_
    refine' K16.st_step "_law_take" K16.sLtake ["_law_draws_here", "_law_limit"] KX G ?a_5 ?l_5 ?c_5 ?k_5 (fun _ _ _ _ _ _ us hl => match us, hl with | [_, _], _ => rfl) ?next_5
    (case a_5 => k_is); (case l_5 => k_is); (case c_5 => k_is); (case k_5 => k_is)
    refine fun S_Ltake => ?_
    refine' K16.st_step "_law_is_integer" K16.sLis_integer ["_law_actual"] KX G ?a_6 ?l_6 ?c_6 ?k_6 (fun _ _ _ _ _ _ us hl => match us, hl with | [_], _ => rfl) ?next_6
    (case a_6 => k_is); (case l_6 => k_is); (case c_6 => k_is); (case k_6 => k_is)
    refine fun S_Lis_integer => ?_
    refine' K16.st_step "_law_numbers" K16.sLnumbers ["_law_actual", "_law_size", "_law_low"] KX G ?a_7 ?l_7 ?c_7 ?k_7 (fun _ _ _ _ _ _ us hl => match us, hl with | [_, _, _], _ => rfl) ?next_7
    (case a_7 => k_is); (case l_7 => k_is); (case c_7 => k_is); (case k_7 => k_is)
    refine fun S_Lnumbers => ?_
    refine' K16.st_step "_law_all_numbers" K16.sLall_numbers ["_law_actual", "_law_size", "_law_low"] KX G ?a_8 ?l_8 ?c_8 ?k_8 (fun _ _ _ _ _ _ us hl => match us, hl with | [_, _, _], _ => rfl) ?next_8
    (case a_8 => k_is); (case l_8 => k_is); (case c_8 => k_is); (case k_8 => k_is)
    refine fun S_Lall_numbers => ?_
    refine' K16.st_step "_law_marking" K16.sLmarking ["_law_draws_here", "_law_size", "_law_most"] KX G ?a_9 ?l_9 ?c_9 ?k_9 (fun _ _ _ _ _ _ us hl => match us, hl with | [_, _, _], _ => rfl) ?next_9
    (case a_9 => k_is); (case l_9 => k_is); (case c_9 => k_is); (case k_9 => k_is)
    refine fun S_Lmarking => ?_
    refine' K16.st_step "_law_markings" K16.sLmarkings ["_law_draws_here", "_law_size", "_law_count_here", "_law_most"] KX G ?a_10 ?l_10 ?c_10 ?k_10 (fun _ _ _ _ _ _ us hl => match us, hl with | [_, _, _, _], _ => rfl) ?next_10
    (case a_10 => k_is); (case l_10 => k_is); (case c_10 => k_is); (case k_10 => k_is)
    refine fun S_Lmarkings => ?_
    refine' K16.st_step "sharings" K16.ssharings ["number", "places"] KX G ?a_11 ?l_11 ?c_11 ?k_11 (fun _ _ _ _ _ _ us hl => match us, hl with | [_, _], _ => rfl) ?next_11
    (case a_11 => k_is); (case l_11 => k_is); (case c_11 => k_is); (case k_11 => k_is)
    refine fun S_sharings => ?_
    refine' K16.st_step "sources" K16.ssources ["moves", "place"] KX G ?a_12 ?l_12 ?c_12 ?k_12 (fun _ _ _ _ _ _ us hl => match us, hl with | [_, _], _ => rfl) ?next_12
    (case a_12 => k_is); (case l_12 => k_is); (case c_12 => k_is); (case k_12 => k_is)
    refine fun S_sources => ?_
    refine' K16.st_step "predecessors" K16.spredecessors ["transition", "member"] KX G ?a_13 ?l_13 ?c_13 ?k_13 (fun _ _ _ _ _ _ us hl => match us, hl with | [_, _], _ => rfl) ?next_13
    (case a_13 => k_is); (case l_13 => k_is); (case c_13 => k_is); (case k_13 => k_is)
    refine fun S_predecessors => ?_
    refine' K16.st_step "all_from" K16.sall_from ["numbers", "low", "high"] KX G ?a_14 ?l_14 ?c_14 ?k_14 (fun _ _ _ _ _ _ us hl => match us, hl with | [_, _, _], _ => rfl) ?next_14
    (case a_14 => k_is); (case l_14 => k_is); (case c_14 => k_is); (case k_14 => k_is)
    refine fun S_all_from => ?_
    refine' K16.st_step "fits" K16.sfits ["transition", "places"] KX G ?a_15 ?l_15 ?c_15 ?k_15 (fun _ _ _ _ _ _ us hl => match us, hl with | [_, _], _ => rfl) ?next_15
    (case a_15 => k_is); (case l_15 => k_is); (case c_15 => k_is); (case k_15 => k_is)
    refine fun S_fits => ?_
    refine' K16.st_step "start_marking" K16.sstart_marking ["start", "count"] KX G ?a_16 ?l_16 ?c_16 ?k_16 (fun _ _ _ _ _ _ us hl => match us, hl with | [_, _], _ => rfl) ?next_16
    (case a_16 => k_is); (case l_16 => k_is); (case c_16 => k_is); (case k_16 => k_is)
    refine fun S_start_marking => ?_
    refine' K16.st_step "count_for" K16.scount_for ["start", "member"] KX G ?a_17 ?l_17 ?c_17 ?k_17 (fun _ _ _ _ _ _ us hl => match us, hl with | [_, _], _ => rfl) ?next_17
    (case a_17 => k_is); (case l_17 => k_is); (case c_17 => k_is); (case k_17 => k_is)
    refine fun S_count_for => ?_
    refine' K16.st_step "least_count" K16.sleast_count ["start", "members"] KX G ?a_18 ?l_18 ?c_18 ?k_18 (fun _ _ _ _ _ _ us hl => match us, hl with | [_, _], _ => rfl) ?next_18
    (case a_18 => k_is); (case l_18 => k_is); (case c_18 => k_is); (case k_18 => k_is)
    refine fun S_least_count => ?_
    refine' K16.st_step "_law_start" K16.sLstart ["_law_base", "_law_free", "_law_count_here"] KX G ?a_19 ?l_19 ?c_19 ?k_19 (fun _ _ _ _ _ _ us hl => match us, hl with | [_, _, _], _ => rfl) ?next_19
    (case a_19 => k_is); (case l_19 => k_is); (case c_19 => k_is); (case k_19 => k_is)
    refine fun S_Lstart => ?_
    refine' K16.st_step "_law_count" K16.sLcount ["_law_base", "_law_free", "_law_members"] KX G ?a_20 ?l_20 ?c_20 ?k_20 (fun _ _ _ _ _ _ us hl => match us, hl with | [_, _, _], _ => rfl) ?next_20
    (case a_20 => k_is); (case l_20 => k_is); (case c_20 => k_is); (case k_20 => k_is)
    refine fun S_Lcount => ?_
    refine' K16.st_step "_law_is_run" K16.sLis_run ["_law_actual", "_law_count_here"] KX G ?a_21 ?l_21 ?c_21 ?k_21 (fun _ _ _ _ _ _ us hl => match us, hl with | [_, _], _ => rfl) ?next_21
    (case a_21 => k_is); (case l_21 => k_is); (case c_21 => k_is); (case k_21 => k_is)
    refine fun S_Lis_run => ?_
    refine' K16.st_step "_law_fire" K16.sLfire ["_law_transition_here", "_law_marking_here"] KX G ?a_22 ?l_22 ?c_22 ?k_22 (fun _ _ _ _ _ _ us hl => match us, hl with | [_, _], _ => rfl) ?next_22
    (case a_22 => k_is); (case l_22 => k_is); (case c_22 => k_is); (case k_22 => k_is)
    refine fun S_Lfire => ?_
    refine' K16.st_step "_law_run" K16.sLrun ["_law_transitions", "_law_marking_here", "_law_run_here"] KX G ?a_23 ?l_23 ?c_23 ?k_23 (fun _ _ _ _ _ _ us hl => match us, hl with | [_, _, _], _ => rfl) ?next_23
    (case a_23 => k_is); (case l_23 => k_is); (case c_23 => k_is); (case k_23 => k_is)
    refine fun S_Lrun => ?_
    refine' K16.st_step "_law_transition" K16.sLtransition ["_law_draws_here", "_law_places", "_law_plain"] KX G ?a_24 ?l_24 ?c_24 ?k_24 (fun _ _ _ _ _ _ us hl => match us, hl with | [_, _, _], _ => rfl) ?next_24
    (case a_24 => k_is); (case l_24 => k_is); (case c_24 => k_is); (case k_24 => k_is)
    refine fun S_Ltransition => ?_
    refine' K16.st_step "_law_net" K16.sLnet ["_law_draws_here", "_law_places", "_law_most", "_law_plain"] KX G ?a_25 ?l_25 ?c_25 ?k_25 (fun _ _ _ _ _ _ us hl => match us, hl with | [_, _, _, _], _ => rfl) ?next_25
    (case a_25 => k_is); (case l_25 => k_is); (case c_25 => k_is); (case k_25 => k_is)
    refine fun S_Lnet => ?_
    refine' K16.st_step "_law_walk" K16.sLwalk ["_law_draws_here", "_law_transitions", "_law_marking_here", "_law_steps"] KX G ?a_26 ?l_26 ?c_26 ?k_26 (fun _ _ _ _ _ _ us hl => match us, hl with | [_, _, _, _], _ => rfl) ?next_26
    (case a_26 => k_is); (case l_26 => k_is); (case c_26 => k_is); (case k_26 => k_is)
    refine fun S_Lwalk => ?_
    refine' K16.st_step "_law_draws" K16.sLdraws ["_law_script", "_law_count_here"] KX G ?a_27 ?l_27 ?c_27 ?k_27 (fun _ _ _ _ _ _ us hl => match us, hl with | [_, _], _ => rfl) ?next_27
    (case a_27 => k_is); (case l_27 => k_is); (case c_27 => k_is); (case k_27 => k_is)
    refine fun S_Ldraws => ?_
    refine' K16.st_step "_law_config_covers" K16.sLconfig_covers ["_law_first", "_law_second"] KX G ?a_28 ?l_28 ?c_28 ?k_28 (fun _ _ _ _ _ _ us hl => match us, hl with | [_, _], _ => rfl) ?next_28
    (case a_28 => k_is); (case l_28 => k_is); (case c_28 => k_is); (case k_28 => k_is)
    refine fun S_Lconfig_covers => ?_
    refine' K16.st_step "_law_config_inside" K16.sLconfig_inside ["_law_members", "_law_config"] KX G ?a_29 ?l_29 ?c_29 ?k_29 (fun _ _ _ _ _ _ us hl => match us, hl with | [_, _], _ => rfl) ?next_29
    (case a_29 => k_is); (case l_29 => k_is); (case c_29 => k_is); (case k_29 => k_is)
    refine fun S_Lconfig_inside => ?_
    refine' K16.st_step "_law_ways_back" K16.sLways_back ["_law_transition_here", "_law_marking_here"] KX G ?a_30 ?l_30 ?c_30 ?k_30 (fun _ _ _ _ _ _ us hl => match us, hl with | [_, _], _ => rfl) ?next_30
    (case a_30 => k_is); (case l_30 => k_is); (case c_30 => k_is); (case k_30 => k_is)
    refine fun S_Lways_back => ?_
    refine' K16.st_step "_law_calm" K16.sLcalm ["_law_transition_here"] KX G ?a_31 ?l_31 ?c_31 ?k_31 (fun _ _ _ _ _ _ us hl => match us, hl with | [_], _ => rfl) ?next_31
    (case a_31 => k_is); (case l_31 => k_is); (case c_31 => k_is); (case k_31 => k_is)
    refine fun S_Lcalm => ?_
    refine' K16.st_step "_law_back" K16.sLback ["_law_transition_here", "_law_member"] KX G ?a_32 ?l_32 ?c_32 ?k_32 (fun _ _ _ _ _ _ us hl => match us, hl with | [_, _], _ => rfl) ?next_32
    (case a_32 => k_is); (case l_32 => k_is); (case c_32 => k_is); (case k_32 => k_is)
    refine fun S_Lback => ?_
    refine' K16.st_step "_law_closed" K16.sLclosed ["_law_transitions", "_law_members"] KX G ?a_33 ?l_33 ?c_33 ?k_33 (fun _ _ _ _ _ _ us hl => match us, hl with | [_, _], _ => rfl) ?next_33
    (case a_33 => k_is); (case l_33 => k_is); (case c_33 => k_is); (case k_33 => k_is)
    refine fun S_Lclosed => ?_
    refine' K16.st_step "_law_mail_back" K16.sLmail_back ["_law_transition_here", "_law_action", "_law_config"] KX G ?a_34 ?l_34 ?c_34 ?k_34 (fun _ _ _ _ _ _ us hl => match us, hl with | [_, _, _], _ => rfl) ?next_34
    (case a_34 => k_is); (case l_34 => k_is); (case c_34 => k_is); (case k_34 => k_is)
    refine fun S_Lmail_back => ?_
    refine' K16.st_step "basis_of" K16.sbasis_of ["members"] KX G ?a_35 ?l_35 ?c_35 ?k_35 (fun _ _ _ _ _ _ us hl => match us, hl with | [_], _ => rfl) ?next_35
    (case a_35 => k_is); (case l_35 => k_is); (case c_35 => k_is); (case k_35 => k_is)
    refine fun S_basis_of => ?_
    refine' K16.st_step "_law_least" K16.sLleast ["_law_members"] KX G ?a_36 ?l_36 ?c_36 ?k_36 (fun _ _ _ _ _ _ us hl => match us, hl with | [_], _ => rfl) ?next_36
    (case a_36 => k_is); (case l_36 => k_is); (case c_36 => k_is); (case k_36 => k_is)
    refine fun S_Lleast => ?_
    refine' K16.st_step "_law_small" K16.sLsmall ["_law_transitions", "_law_actions", "_law_goals"] KX G ?a_37 ?l_37 ?c_37 ?k_37 (fun _ _ _ _ _ _ us hl => match us, hl with | [_, _, _], _ => rfl) ?next_37
    (case a_37 => k_is); (case l_37 => k_is); (case c_37 => k_is); (case k_37 => k_is)
    refine fun S_Lsmall => ?_
    refine' K16.st_step "_law_tame" K16.sLtame ["_law_transitions", "_law_goals"] KX G ?a_38 ?l_38 ?c_38 ?k_38 (fun _ _ _ _ _ _ us hl => match us, hl with | [_, _], _ => rfl) ?next_38
    (case a_38 => k_is); (case l_38 => k_is); (case c_38 => k_is); (case k_38 => k_is)
    refine fun S_Ltame => ?_
    refine' K16.st_step "decide" K16.sdecide ["net", "start", "goals"] KX G ?a_39 ?l_39 ?c_39 ?k_39 (fun _ _ _ _ _ _ us hl => match us, hl with | [_, _, _], _ => rfl) ?next_39
    (case a_39 => k_is); (case l_39 => k_is); (case c_39 => k_is); (case k_39 => k_is)
    refine fun S_decide => ?_
    refine' K16.Saturation_step KX G ?aC_40 ?pg_40 ?hd_40 ?po_40 ?sa_40 ?mk_40 ?kc_40 ?a0_40 ?i0_40 ?l0_40 ?c0_40 ?k0_40 ?a1_40 ?i1_40 ?l1_40 ?c1_40 ?k1_40 ?a2_40 ?i2_40 ?l2_40 ?c2_40 ?k2_40 ?n0_40 ?n1_40 ?n2_40 ?next_40
    (case aC_40 => k_is); (case pg_40 => k_is); (case hd_40 => k_is); (case po_40 => k_is); (case sa_40 => k_is); (case mk_40 => k_is); (case kc_40 => k_is); (case a0_40 => k_is); (case i0_40 => k_is); (case l0_40 => k_is); (case c0_40 => k_is); (case k0_40 => k_is); (case a1_40 => k_is); (case i1_40 => k_is); (case l1_40 => k_is); (case c1_40 => k_is); (case k1_40 => k_is); (case a2_40 => k_is); (case i2_40 => k_is); (case l2_40 => k_is); (case c2_40 => k_is); (case k2_40 => k_is); (case n0_40 => k_is); (case n1_40 => k_is); (case n2_40 => k_is)
    refine fun X_Saturation => ?_
    refine' K16.Net_step KX G ?aC_41 ?pg_41 ?hd_41 ?po_41 ?sa_41 ?mk_41 ?kc_41 ?a0_41 ?i0_41 ?l0_41 ?c0_41 ?k0_41 ?n0_41 ?n1_41 ?next_41
    (case aC_41 => k_is); (case pg_41 => k_is); (case hd_41 => k_is); (case po_41 => k_is); (case sa_41 => k_is); (case mk_41 => k_is); (case kc_41 => k_is); (case a0_41 => k_is); (case i0_41 => k_is); (case l0_41 => k_is); (case c0_41 => k_is); (case k0_41 => k_is); (case n0_41 => k_is); (case n1_41 => k_is)
    refine fun X_Net => ?_
    refine' K16.Decision_step KX G ?aC_42 ?pg_42 ?hd_42 ?po_42 ?sa_42 ?mk_42 ?kc_42 ?a0_42 ?i0_42 ?l0_42 ?c0_42 ?k0_42 ?n0_42 ?n1_42 ?n2_42 ?n3_42 ?next_42
    (case aC_42 => k_is); (case pg_42 => k_is); (case hd_42 => k_is); (case po_42 => k_is); (case sa_42 => k_is); (case mk_42 => k_is); (case kc_42 => k_is); (case a0_42 => k_is); (case i0_42 => k_is); (case l0_42 => k_is); (case c0_42 => k_is); (case k0_42 => k_is); (case n0_42 => k_is); (case n1_42 => k_is); (case n2_42 => k_is); (case n3_42 => k_is)
    refine fun X_Decision => ?_
    refine' K16.cst_step KX G ?n0_43 ?n1_43 ?n2_43 ?n3_43 ?next_43
    (case n0_43 => k_is); (case n1_43 => k_is); (case n2_43 => k_is); (case n3_43 => k_is)
    refine fun D => ?_
    refine' K16.blt_step KX G ?n0_44 ?n1_44 ?n2_44 ?n3_44 ?n4_44 ?n5_44 ?n6_44 ?n7_44 ?n8_44 ?n9_44 ?n10_44 ?next_44
    (case n0_44 => k_is); (case n1_44 => k_is); (case n2_44 => k_is); (case n3_44 => k_is); (case n4_44 => k_is); (case n5_44 => k_is); (case n6_44 => k_is); (case n7_44 => k_is); (case n8_44 => k_is); (case n9_44 => k_is); (case n10_44 => k_is)
    refine fun T => ?_
    refine' K16.law_step KX G hmg ?a_l ?l_l ?c_l ?k_l ?all_l
    (case a_l => k_is); (case l_l => k_is); (case c_l => k_is); (case k_l => k_is)
    obtain ⟨CS, fS, fA, fW, fdS, fdA, fdW, SC, MS, mS, FS, bS, FA, bA, mA, FW, bW, mW⟩ := X_Saturation
    obtain ⟨CN, fN, fdN, NC, MN, mN, FN, bN⟩ := X_Net
    obtain ⟨CD, fD, fdD, DC, MD, mD, FD, bD⟩ := X_Decision
    exact fun base fd F => K16.whole F T D ⟨SC, NC, DC, MS, FS, mS, bS, FA, mA, bA, FW, mW, bW, MN, FN, mN, bN, MD, FD, mD, bD⟩ S_covers S_Lcovers S_in_closed S_Linside S_Ltake S_Lis_integer S_Lnumbers S_Lall_numbers S_Lmarking S_Lmarkings S_sharings S_sources S_predecessors S_all_from S_fits S_start_marking S_count_for S_least_count S_Lstart S_Lcount S_Lis_run S_Lfire S_Lrun S_Ltransition S_Lnet S_Lwalk S_Ldraws S_Lconfig_covers S_Lconfig_inside S_Lways_back S_Lcalm S_Lback S_Lclosed S_Lmail_back S_basis_of S_Lleast S_Lsmall S_Ltame S_decide
