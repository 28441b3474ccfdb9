import PyProof.Rows.All
import Wide.All
import OpenK.AllK
import Wide.FinOn
import PyProof.StrOps2
import PyProof.CallFns
import KE.GoesMore
import KE.GoesEnum
import HandS.ForMost
import HandS.Walk
import HandS.TupAny
import HandS.Zip
import KE.KSortTup
import HandS.SortOrd
import HandS.NamedTupSort
import KE.SortKeyHeap
import HandS.SortKw
import KE.KDictDisplayH
import PyProof.Rows.SetFrom
import PyProof.SetRoads
import HandS.SetBool
import HandS.More
import HandS.IsInst
import HandS.Text
import HandS.Conv
import HandS.RaiseMore
import PySem.Challenge.RW_duelsets_k24_whole_only_one_lottery
set_option Elab.async false
set_option linter.all false
set_option maxRecDepth 100000
set_option maxHeartbeats 4000000
section
set_option autoImplicit false
namespace Duel
/-! sums over 0 .. n-1 -/
def sm (n : Nat) (f : Nat → Int) : Int :=
  match n with
  | 0 => 0
  | n + 1 => sm n f + f n
theorem sm_zero (f : Nat → Int) : sm 0 f = 0 := rfl
theorem sm_succ (n : Nat) (f : Nat → Int) : sm (n + 1) f = sm n f + f n := rfl
theorem sm_congr {n : Nat} {f g : Nat → Int} (h : ∀ i, i < n → f i = g i) : sm n f = sm n g := by
  induction n with
  | zero => rfl
  | succ n ih => rw [sm_succ, sm_succ, ih fun i hi => h i (by omega), h n (by omega)]
theorem sm_add (n : Nat) (f g : Nat → Int) : sm n (fun i => f i + g i) = sm n f + sm n g := by
  induction n with
  | zero => rfl
  | succ n ih => rw [sm_succ, sm_succ, sm_succ, ih]; omega
theorem sm_mul (n : Nat) (c : Int) (f : Nat → Int) : sm n (fun i => c * f i) = c * sm n f := by
  induction n with
  | zero => simp [sm]
  | succ n ih => rw [sm_succ, sm_succ, ih]; grind
theorem sm_const0 (n : Nat) : sm n (fun _ => 0) = 0 := by
  induction n with
  | zero => rfl
  | succ n ih => rw [sm_succ, ih]; rfl
theorem sm_le {n : Nat} {f g : Nat → Int} (h : ∀ i, i < n → f i ≤ g i) : sm n f ≤ sm n g := by
  induction n with
  | zero => exact Int.le_refl _
  | succ n ih =>
    have h1 := ih fun i hi => h i (by omega)
    have h2 := h n (by omega)
    rw [sm_succ, sm_succ]; omega
theorem sm_nonpos {n : Nat} {f : Nat → Int} (h : ∀ i, i < n → f i ≤ 0) : sm n f ≤ 0 := by
  have := sm_le (g := fun _ => 0) h
  rw [sm_const0] at this; exact this
theorem sm_nonneg {n : Nat} {f : Nat → Int} (h : ∀ i, i < n → 0 ≤ f i) : 0 ≤ sm n f := by
  have := sm_le (f := fun _ => 0) h
  rw [sm_const0] at this; exact this
/-- nonpositive terms with sum 0 are all 0 -/
theorem sm_zero_of {n : Nat} {f : Nat → Int} (h : ∀ i, i < n → f i ≤ 0) (e : 0 ≤ sm n f) : ∀ i, i < n → f i = 0 := by
  induction n with
  | zero => intro i hi; omega
  | succ n ih =>
    have h1 := sm_nonpos (n := n) fun i hi => h i (by omega)
    have h2 := h n (by omega)
    rw [sm_succ] at e
    intro i hi
    by_cases q : i = n
    · subst q; omega
    · exact ih (fun i hi => h i (by omega)) (by omega) i (by omega)
theorem sm_swap (n m : Nat) (f : Nat → Nat → Int) : sm n (fun i => sm m (f i)) = sm m (fun j => sm n (fun i => f i j)) := by
  induction n with
  | zero => simp [sm, sm_const0]
  | succ n ih =>
    rw [sm_succ, ih, ← sm_add]
    exact sm_congr fun j _ => rfl
theorem sm_neg (n : Nat) (f : Nat → Int) : sm n (fun i => - f i) = - sm n f := by
  induction n with
  | zero => rfl
  | succ n ih => rw [sm_succ, sm_succ, ih]; omega

/-! ### cones of integer vectors -/
abbrev Vec := Nat → Int
inductive Cone (cs : List Vec) : Vec → Prop
  | mem {c} : c ∈ cs → Cone cs c
  | add {u v} : Cone cs u → Cone cs v → Cone cs (fun i => u i + v i)
  | mul {t : Int} {u} : 0 < t → Cone cs u → Cone cs (fun i => t * u i)
theorem Cone.lift {cs ds : List Vec} (h : ∀ c ∈ ds, Cone cs c) {v : Vec} (k : Cone ds v) : Cone cs v := by
  induction k with
  | mem m => exact h _ m
  | add _ _ a b => exact .add a b
  | mul p _ a => exact .mul p a
theorem Cone.nonpos {cs : List Vec} {m : Nat} (h : ∀ c ∈ cs, c m ≤ 0) {v : Vec} (k : Cone cs v) : v m ≤ 0 := by
  induction k with
  | mem m => exact h _ m
  | add _ _ a b => exact Int.add_nonpos a b
  | mul p _ a => exact Int.mul_nonpos_of_nonneg_of_nonpos (by omega) a

/-! dot products with a rational vector -/
def dot (m : Nat) (y : Nat → Rat) (c : Vec) : Rat :=
  match m with
  | 0 => 0
  | m + 1 => dot m y c + y m * (c m : Rat)
theorem dot_congr {m : Nat} {y z : Nat → Rat} {c : Vec} (h : ∀ i, i < m → y i = z i) : dot m y c = dot m z c := by
  induction m with
  | zero => rfl
  | succ m ih =>
    show dot m y c + y m * (c m : Rat) = dot m z c + z m * (c m : Rat)
    rw [ih fun i hi => h i (by omega), h m (by omega)]
theorem dot_comb (m : Nat) (y : Nat → Rat) (s t : Int) (c d : Vec) : dot m y (fun i => s * c i + t * d i) = (s : Rat) * dot m y c + (t : Rat) * dot m y d := by
  induction m with
  | zero =>
    show (0 : Rat) = (s : Rat) * 0 + (t : Rat) * 0
    grind
  | succ m ih =>
    show dot m y _ + y m * ((s * c m + t * d m : Int) : Rat) = (s : Rat) * (dot m y c + y m * (c m : Rat)) + (t : Rat) * (dot m y d + y m * (d m : Rat))
    rw [ih]
    have e : ((s * c m + t * d m : Int) : Rat) = (s : Rat) * (c m : Rat) + (t : Rat) * (d m : Rat) := by
      rw [Rat.intCast_add, Rat.intCast_mul, Rat.intCast_mul]
    rw [e]
    grind
/-- between finitely many lower and upper bounds stands a number -/
theorem max_of (L : List Rat) : ∃ M, ∀ l ∈ L, l ≤ M := by
  induction L with
  | nil => exact ⟨0, by simp⟩
  | cons a L ih =>
    obtain ⟨M, h⟩ := ih
    by_cases q : a ≤ M
    · exact ⟨M, fun l hl => by rcases List.mem_cons.mp hl with rfl | hl; exact q; exact h l hl⟩
    · refine ⟨a, fun l hl => ?_⟩
      rcases List.mem_cons.mp hl with rfl | hl
      · exact Rat.le_refl
      · have := h l hl
        grind
theorem max_in (a : Rat) (L : List Rat) : ∃ M, M ∈ a :: L ∧ ∀ l ∈ a :: L, l ≤ M := by
  induction L generalizing a with
  | nil => exact ⟨a, by simp, fun l hl => by simp at hl; subst hl; exact Rat.le_refl⟩
  | cons b L ih =>
    obtain ⟨M, hm, h⟩ := ih b
    by_cases q : a ≤ M
    · exact ⟨M, List.mem_cons_of_mem _ hm, fun l hl => by rcases List.mem_cons.mp hl with rfl | hl; exact q; exact h l hl⟩
    · refine ⟨a, List.mem_cons_self, fun l hl => ?_⟩
      rcases List.mem_cons.mp hl with rfl | hl
      · exact Rat.le_refl
      · have := h l hl
        grind
theorem min_in (a : Rat) (L : List Rat) : ∃ M, M ∈ a :: L ∧ ∀ l ∈ a :: L, M ≤ l := by
  induction L generalizing a with
  | nil => exact ⟨a, by simp, fun l hl => by simp at hl; subst hl; exact Rat.le_refl⟩
  | cons b L ih =>
    obtain ⟨M, hm, h⟩ := ih b
    by_cases q : M ≤ a
    · exact ⟨M, List.mem_cons_of_mem _ hm, fun l hl => by rcases List.mem_cons.mp hl with rfl | hl; exact q; exact h l hl⟩
    · refine ⟨a, List.mem_cons_self, fun l hl => ?_⟩
      rcases List.mem_cons.mp hl with rfl | hl
      · exact Rat.le_refl
      · have := h l hl
        grind
theorem between (a : Rat) (L U : List Rat) (h : ∀ l ∈ a :: L, ∀ u ∈ U, l < u) : ∃ t, (∀ l ∈ a :: L, l < t) ∧ ∀ u ∈ U, t < u := by
  obtain ⟨M, hm, hM⟩ := max_in a L
  cases U with
  | nil => exact ⟨M + 1, fun l hl => by have := hM l hl; grind, by simp⟩
  | cons b U =>
    obtain ⟨N, hn, hN⟩ := min_in b U
    have q := h M hm N hn
    refine ⟨(M + N) / 2, fun l hl => ?_, fun u hu => ?_⟩
    · have := hM l hl
      grind
    · have := hN u hu
      grind
theorem div_lt {a b x y : Rat} (hb : 0 < b) (hy : 0 < y) (h : a * y < x * b) : a / b < x / y := by
  rw [Rat.div_lt_iff hb]
  have e : x / y * b = (x * b) / y := by grind
  rw [e, Rat.lt_div_iff hy]
  exact h
/-- the alternatives, by elimination of one coordinate at a time -/
theorem alternatives (m : Nat) : ∀ cs : List Vec, (∃ v, Cone cs v ∧ ∀ i, i < m → v i ≤ 0) ∨ (∃ y : Nat → Rat, (∀ i, i < m → 0 ≤ y i) ∧ ∀ c ∈ cs, 0 < dot m y c) := by
  induction m with
  | zero =>
    intro cs
    cases cs with
    | nil => exact .inr ⟨fun _ => 0, fun i hi => by omega, by simp⟩
    | cons c cs => exact .inl ⟨c, .mem List.mem_cons_self, fun i hi => by omega⟩
  | succ m ih =>
    intro cs
    let comb : Vec → Vec → Vec := fun c d i => c m * d i + (- d m) * c i
    let ds : List Vec := cs.filter (fun c => decide (c m ≤ 0)) ++ (cs.filter fun c => decide (0 < c m)).flatMap fun c => (cs.filter fun d => decide (d m < 0)).map fun d => comb c d
    have hds : ∀ v ∈ ds, Cone cs v ∧ v m ≤ 0 := by
      intro v hv
      rcases List.mem_append.mp hv with hv | hv
      · have q := List.mem_filter.mp hv
        exact ⟨.mem q.1, of_decide_eq_true q.2⟩
      · obtain ⟨c, hc, hv⟩ := List.mem_flatMap.mp hv
        obtain ⟨d, hd, rfl⟩ := List.mem_map.mp hv
        have q1 := List.mem_filter.mp hc
        have q2 := List.mem_filter.mp hd
        have p1 : 0 < c m := of_decide_eq_true q1.2
        have p2 : d m < 0 := of_decide_eq_true q2.2
        refine ⟨.add (.mul p1 (.mem q2.1)) (.mul (t := - d m) (by omega) (.mem q1.1)), ?_⟩
        show c m * d m + (- d m) * c m ≤ 0
        grind
    rcases ih ds with ⟨v, hv, hn⟩ | ⟨y, hy, hp⟩
    · refine .inl ⟨v, Cone.lift (fun c hc => (hds c hc).1) hv, fun i hi => ?_⟩
      by_cases q : i = m
      · subst q; exact Cone.nonpos (fun c hc => (hds c hc).2) hv
      · exact hn i (by omega)
    · -- a number for the last coordinate
      let P := cs.filter fun c => decide (0 < c m)
      let N := cs.filter fun c => decide (c m < 0)
      obtain ⟨t, h1, h2⟩ := between 0 (P.map fun c => (- dot m y c) / (c m : Rat)) (N.map fun d => (dot m y d) / ((- d m : Int) : Rat)) (by
        intro l hl u hu
        obtain ⟨d, hd, rfl⟩ := List.mem_map.mp hu
        have q2 := List.mem_filter.mp hd
        have p2 : d m < 0 := of_decide_eq_true q2.2
        have r2 : (0 : Rat) < ((- d m : Int) : Rat) := by
          have : (0 : Int) < - d m := by omega
          exact_mod_cast this
        have dm : d ∈ ds := List.mem_append_left _ (List.mem_filter.mpr ⟨q2.1, decide_eq_true (by omega)⟩)
        rcases List.mem_cons.mp hl with rfl | hl
        · rw [Rat.lt_div_iff r2]
          have := hp d dm
          grind
        · obtain ⟨c, hc, rfl⟩ := List.mem_map.mp hl
          have q1 := List.mem_filter.mp hc
          have p1 : 0 < c m := of_decide_eq_true q1.2
          have r1 : (0 : Rat) < ((c m : Int) : Rat) := by exact_mod_cast p1
          have cm : comb c d ∈ ds := List.mem_append_right _ (List.mem_flatMap.mpr ⟨c, hc, List.mem_map.mpr ⟨d, hd, rfl⟩⟩)
          have q := hp _ cm
          have e : dot m y (comb c d) = ((c m : Int) : Rat) * dot m y d + ((- d m : Int) : Rat) * dot m y c := dot_comb m y (c m) (- d m) d c
          rw [e] at q
          refine div_lt r1 r2 ?_
          grind)
      refine .inr ⟨fun i => if i = m then t else y i, fun i hi => ?_, fun c hc => ?_⟩
      · by_cases q : i = m
        · simp only [q, if_true]
          have := h1 0 List.mem_cons_self
          grind
        · simp only [q, if_false]
          exact hy i (by omega)
      · have e : dot (m + 1) (fun i => if i = m then t else y i) c = dot m y c + t * (c m : Rat) := by
          show dot m (fun i => if i = m then t else y i) c + (if m = m then t else y m) * (c m : Rat) = _
          rw [dot_congr (z := y) fun i hi => if_neg (show ¬ i = m by omega), if_pos rfl]
        rw [e]
        rcases Int.lt_trichotomy (c m) 0 with q | q | q
        · have r2 : (0 : Rat) < ((- c m : Int) : Rat) := by
            have : (0 : Int) < - c m := by omega
            exact_mod_cast this
          have z := h2 _ (List.mem_map.mpr ⟨c, List.mem_filter.mpr ⟨hc, decide_eq_true q⟩, rfl⟩)
          rw [Rat.lt_div_iff r2] at z
          have e2 : ((- c m : Int) : Rat) = - (c m : Rat) := Rat.intCast_neg _
          rw [e2] at z
          grind
        · have dm : c ∈ ds := List.mem_append_left _ (List.mem_filter.mpr ⟨hc, decide_eq_true (by omega)⟩)
          have := hp c dm
          rw [q]
          grind
        · have r1 : (0 : Rat) < ((c m : Int) : Rat) := by exact_mod_cast q
          have z := h1 _ (List.mem_cons_of_mem _ (List.mem_map.mpr ⟨c, List.mem_filter.mpr ⟨hc, decide_eq_true q⟩, rfl⟩))
          rw [Rat.div_lt_iff r1] at z
          grind

/-! a common denominator -/
theorem scale (n : Nat) (y : Nat → Rat) : ∃ (D : Int) (z : Nat → Int), 0 < D ∧ ∀ i, i < n → ((z i : Int) : Rat) = (D : Rat) * y i := by
  induction n with
  | zero => exact ⟨1, fun _ => 0, by omega, fun i hi => by omega⟩
  | succ n ih =>
    obtain ⟨D, z, hD, h⟩ := ih
    have hd : (0 : Int) < ((y n).den : Int) := by
      have := (y n).den_pos
      omega
    refine ⟨D * ((y n).den : Int), fun i => if i = n then D * (y n).num else ((y n).den : Int) * z i, Int.mul_pos hD hd, fun i hi => ?_⟩
    have en : ((y n).num : Rat) = y n * (((y n).den : Int) : Rat) := by
      have h1 : ((y n).num : Rat) / (((y n).den : Int) : Rat) = y n := by
        rw [← Rat.divInt_eq_div]
        exact Rat.num_divInt_den (y n)
      have h2 : (((y n).den : Int) : Rat) ≠ 0 := by
        have : (0 : Rat) < (((y n).den : Int) : Rat) := by exact_mod_cast hd
        grind
      grind
    by_cases q : i = n
    · subst q
      simp only [if_true]
      rw [Rat.intCast_mul, Rat.intCast_mul, en]
      grind
    · simp only [q, if_false]
      rw [Rat.intCast_mul, Rat.intCast_mul, h i (by omega)]
      grind
theorem sm_cast (n : Nat) (y : Nat → Rat) (z : Nat → Int) (D : Int) (c : Vec) (h : ∀ i, i < n → ((z i : Int) : Rat) = (D : Rat) * y i) : ((sm n (fun i => z i * c i) : Int) : Rat) = (D : Rat) * dot n y c := by
  induction n with
  | zero =>
    show ((0 : Int) : Rat) = (D : Rat) * 0
    grind
  | succ n ih =>
    rw [sm_succ, Rat.intCast_add, ih fun i hi => h i (by omega), Rat.intCast_mul, h n (by omega)]
    show _ = (D : Rat) * (dot n y c + y n * (c n : Rat))
    grind

/-! what a table is, over numbers -/
/-- the balance of i -/
def bal (n : Nat) (a : Nat → Nat → Int) (p : Nat → Int) (i : Nat) : Int := sm n fun j => p j * a i j
theorem sm_delta (n j : Nat) (hj : j < n) (f : Nat → Int) : sm n (fun i => if i = j then f i else 0) = f j := by
  induction n with
  | zero => omega
  | succ n ih =>
    rw [sm_succ]
    by_cases q : j = n
    · subst q
      have e : sm j (fun i => if i = j then f i else 0) = sm j (fun _ => 0) := sm_congr fun i hi => if_neg (by omega)
      rw [e, sm_const0, if_pos rfl]; omega
    · rw [ih (by omega), if_neg (by omega)]; omega
theorem cone_comb {n : Nat} {a : Nat → Nat → Int} {v : Vec} (k : Cone ((List.range n).map fun j i => a i j) v) : ∃ p : Nat → Int, (∀ j, 0 ≤ p j) ∧ (∃ j, j < n ∧ 0 < p j) ∧ ∀ i, v i = bal n a p i := by
  induction k with
  | mem m =>
    obtain ⟨j, hj, rfl⟩ := List.mem_map.mp m
    have hj' : j < n := List.mem_range.mp hj
    refine ⟨fun i => if i = j then 1 else 0, fun i => by dsimp only; split <;> omega, ⟨j, hj', by simp⟩, fun i => ?_⟩
    unfold bal
    have e : sm n (fun k => (if k = j then 1 else 0) * a i k) = sm n (fun k => if k = j then a i k else 0) := sm_congr fun k _ => by split <;> simp
    rw [e, sm_delta n j hj' (fun k => a i k)]
  | add _ _ h1 h2 =>
    obtain ⟨p, p0, ⟨j, hj, pj⟩, hp⟩ := h1
    obtain ⟨q, q0, _, hq⟩ := h2
    refine ⟨fun i => p i + q i, fun i => Int.add_nonneg (p0 i) (q0 i), ⟨j, hj, by have := q0 j; show 0 < p j + q j; omega⟩, fun i => ?_⟩
    show _ + _ = _
    rw [hp, hq]
    unfold bal
    rw [← sm_add]
    exact sm_congr fun k _ => by grind
  | @mul t u ht _ h1 =>
    obtain ⟨p, p0, ⟨j, hj, pj⟩, hp⟩ := h1
    refine ⟨fun i => t * p i, fun i => Int.mul_nonneg (by omega) (p0 i), ⟨j, hj, Int.mul_pos ht pj⟩, fun i => ?_⟩
    show t * _ = _
    rw [hp]
    unfold bal
    rw [← sm_mul]
    exact sm_congr fun k _ => by grind
/-- EXISTENCE: a skew table has weights that nobody beats -/
theorem exist_bal {n : Nat} {a : Nat → Nat → Int} (hn : 0 < n) (sk : ∀ i j, i < n → j < n → a i j = - a j i) : ∃ p : Nat → Int, (∀ j, 0 ≤ p j) ∧ (∃ j, j < n ∧ 0 < p j) ∧ ∀ i, i < n → bal n a p i ≤ 0 := by
  rcases alternatives n ((List.range n).map fun j i => a i j) with ⟨v, hv, h0⟩ | ⟨y, y0, hy⟩
  · obtain ⟨p, p0, pj, hp⟩ := cone_comb hv
    exact ⟨p, p0, pj, fun i hi => by rw [← hp]; exact h0 i hi⟩
  · obtain ⟨D, z, hD, hz⟩ := scale n y
    have rD : (0 : Rat) < (D : Rat) := by exact_mod_cast hD
    have key : ∀ j, j < n → 0 < sm n (fun i => z i * a i j) := fun j hj => by
      have h1 := hy _ (List.mem_map.mpr ⟨j, List.mem_range.mpr hj, rfl⟩)
      have h2 := sm_cast n y z D (fun i => a i j) hz
      have h3 : (0 : Rat) < ((sm n (fun i => z i * a i j) : Int) : Rat) := by
        rw [h2]
        exact Rat.mul_pos rD h1
      exact_mod_cast h3
    have z0 : ∀ i, i < n → 0 ≤ z i := fun i hi => by
      have h1 : (0 : Rat) ≤ ((z i : Int) : Rat) := by
        rw [hz i hi]
        exact Rat.mul_nonneg (Rat.le_of_lt rD) (y0 i hi)
      exact_mod_cast h1
    have neg : ∀ j, j < n → bal n a z j = - sm n (fun i => z i * a i j) := fun j hj => by
      unfold bal
      rw [← sm_neg]
      refine sm_congr fun i hi => ?_
      rw [sk j i hj hi]; grind
    refine ⟨fun i => if i < n then z i else 0, fun j => ?_, ?_, fun i hi => ?_⟩
    · dsimp only
      split
      · rename_i h; exact z0 j h
      · omega
    · -- not all 0
      have h1 := key 0 hn
      have : ¬ ∀ i, i < n → z i = 0 := fun h => by
        have e : sm n (fun i => z i * a i 0) = sm n (fun _ => 0) := sm_congr fun i hi => by rw [h i hi]; simp
        rw [e, sm_const0] at h1
        omega
      obtain ⟨i, hi⟩ := Classical.not_forall.mp this
      obtain ⟨hi, hz0⟩ := Classical.not_imp.mp hi
      exact ⟨i, hi, by dsimp only; rw [if_pos hi]; have := z0 i hi; omega⟩
    · have e : bal n a (fun i => if i < n then z i else 0) i = bal n a z i := sm_congr fun j hj => by dsimp only; rw [if_pos hj]
      rw [e, neg i hi]
      have := key i hi
      omega
end Duel
end
section
set_option autoImplicit false
namespace Duel
/-! kernels, by parity -/
theorem sm_mod {n : Nat} {f g : Nat → Int} (h : ∀ i, i < n → (f i - g i) % 2 = 0) : (sm n f - sm n g) % 2 = 0 := by
  induction n with
  | zero => rfl
  | succ n ih =>
    have h1 := ih fun i hi => h i (by omega)
    have h2 := h n (by omega)
    rw [sm_succ, sm_succ]; omega
/-- a proper table: 1 and -1 for won and lost duels -/
structure Tab (n : Nat) (a : Nat → Nat → Int) : Prop where
  dg : ∀ i, i < n → a i i = 0
  sk : ∀ i j, i < n → j < n → a i j = - a j i
  pm : ∀ i j, i < n → j < n → i ≠ j → a i j = 1 ∨ a i j = -1
def cnt (n : Nat) (M : Nat → Bool) : Int := sm n fun i => if M i then 1 else 0
/-- a set with an even number of alternatives has no kernel -/
theorem even_kernel {n : Nat} {a : Nat → Nat → Int} {M : Nat → Bool} (T : Tab n a) (hc : cnt n M % 2 = 0) : ∀ (B : Nat) (x : Nat → Int), (∀ i, i < n → (x i).natAbs ≤ B) → (∀ i, i < n → M i = false → x i = 0) →
    (∀ i, i < n → M i = true → sm n (fun j => x j * a i j) = 0) → ∀ i, i < n → x i = 0 := by
  intro B
  induction B using Nat.strongRecOn with
  | _ B ih =>
  intro x hB h0 hk
  by_cases B0 : B = 0
  · intro i hi
    have := hB i hi
    omega
  -- all are even
  have hT : ∀ i, i < n → M i = true → (sm n x - x i) % 2 = 0 := by
    intro i hi hM
    have e : sm n (fun j => x j - (if j = i then x j else 0)) = sm n x - x i := by
      have e1 := sm_add n (fun j => x j) (fun j => - (if j = i then x j else 0))
      have e2 := sm_neg n (fun j => if j = i then x j else 0)
      have e3 := sm_delta n i hi x
      have e4 : sm n (fun j => x j - (if j = i then x j else 0)) = sm n (fun j => x j + - (if j = i then x j else 0)) := sm_congr fun j _ => by omega
      rw [e4, e1, e2, e3, Int.sub_eq_add_neg]
    have m := sm_mod (n := n) (f := fun j => x j * a i j) (g := fun j => x j - (if j = i then x j else 0)) fun j hj => by
      (try dsimp only)
      by_cases q : j = i
      · subst q
        rw [T.dg j hj, if_pos rfl]; omega
      · rw [if_neg q]
        cases hMj : M j with
        | false => rw [h0 j hj hMj]; simp
        | true => rcases T.pm i j hi hj (fun z => q z.symm) with z | z <;> rw [z] <;> omega
    rw [hk i hi hM, e] at m
    omega
  have hTe : sm n x % 2 = 0 := by
    have m := sm_mod (n := n) (f := x) (g := fun i => (sm n x) * (if M i then 1 else 0)) fun i hi => by
      cases hM : M i with
      | false => rw [h0 i hi hM]; simp
      | true =>
        have := hT i hi hM
        simp only [if_true]
        omega
    rw [sm_mul] at m
    have hc' : sm n (fun i => if M i = true then (1 : Int) else 0) % 2 = 0 := hc
    have : (sm n x * sm n (fun i => if M i = true then (1 : Int) else 0)) % 2 = 0 := by
      rw [Int.mul_emod, hc']; simp
    omega
  have hev : ∀ i, i < n → x i % 2 = 0 := fun i hi => by
    cases hM : M i with
    | false => rw [h0 i hi hM]; rfl
    | true => have := hT i hi hM; omega
  have hh : ∀ i, i < n → x i = 2 * (x i / 2) := fun i hi => by have := hev i hi; omega
  have z := ih (B / 2) (by omega) (fun i => x i / 2) (fun i hi => by have h1 := hB i hi; have h2 := hh i hi; (try dsimp only); omega) (fun i hi hM => by (try dsimp only); rw [h0 i hi hM]; rfl) (fun i hi hM => by
    have h1 := hk i hi hM
    have e : sm n (fun j => x j * a i j) = 2 * sm n (fun j => (x j / 2) * a i j) := by
      rw [← sm_mul]
      exact sm_congr fun j hj => by
        have := hh j hj
        grind
    rw [e] at h1
    omega)
  intro i hi
  have h1 := z i hi
  have h2 := hh i hi
  (try dsimp only at h1)
  omega
theorem bound_of (n : Nat) (x : Nat → Int) : ∃ B : Nat, ∀ i, i < n → (x i).natAbs ≤ B := by
  induction n with
  | zero => exact ⟨0, fun i hi => by omega⟩
  | succ n ih =>
    obtain ⟨B, h⟩ := ih
    refine ⟨B + (x n).natAbs, fun i hi => ?_⟩
    by_cases q : i = n
    · subst q; omega
    · have := h i (by omega); omega
theorem even_ker {n : Nat} {a : Nat → Nat → Int} {M : Nat → Bool} (T : Tab n a) (hc : cnt n M % 2 = 0) {x : Nat → Int} (h0 : ∀ i, i < n → M i = false → x i = 0)
    (hk : ∀ i, i < n → M i = true → sm n (fun j => x j * a i j) = 0) : ∀ i, i < n → x i = 0 := by
  obtain ⟨B, hB⟩ := bound_of n x
  exact even_kernel T hc B x hB h0 hk
/-- the kernel of a set with an odd number of alternatives is a line -/
theorem odd_ker {n : Nat} {a : Nat → Nat → Int} {M : Nat → Bool} (T : Tab n a) (hc : cnt n M % 2 = 1) {x y : Nat → Int} (x0 : ∀ i, i < n → M i = false → x i = 0) (y0 : ∀ i, i < n → M i = false → y i = 0)
    (hx : ∀ i, i < n → M i = true → sm n (fun j => x j * a i j) = 0) (hy : ∀ i, i < n → M i = true → sm n (fun j => y j * a i j) = 0) : ∀ i j, i < n → j < n → x i * y j = y i * x j := by
  intro m j hm hj
  cases hM : M m with
  | false => rw [x0 m hm hM, y0 m hm hM]; simp
  | true =>
    let M' : Nat → Bool := fun i => M i && !(i == m)
    have hc' : cnt n M' = cnt n M - 1 := by
      unfold cnt
      have e1 := sm_add n (fun i => if M' i then (1 : Int) else 0) (fun i => if i = m then 1 else 0)
      have e2 := sm_delta n m hm (fun _ => (1 : Int))
      have e3 : sm n (fun i => (if M' i then (1 : Int) else 0) + (if i = m then 1 else 0)) = sm n (fun i => if M i then 1 else 0) := sm_congr fun i hi => by
        by_cases q : i = m
        · subst q
          have : M' i = false := by simp [M']
          rw [this, hM]; simp
        · have : M' i = M i := by simp [M', q]
          rw [this, if_neg q]; omega
      rw [e2] at e1
      omega
    have z := even_ker (M := M') (x := fun i => y m * x i - x m * y i) T (by omega) (fun i hi h => by
      by_cases q : i = m
      · subst q; (try dsimp only); grind
      · have : M i = false := by
          have : M' i = M i := by simp [M', q]
          rw [← this]; exact h
        (try dsimp only)
        rw [x0 i hi this, y0 i hi this]; simp) (fun i hi h => by
      have hMi : M i = true := by
        have : (M i && !(i == m)) = true := h
        simp at this
        exact this.1
      have e1 := sm_add n (fun j => y m * (x j * a i j)) (fun j => (- x m) * (y j * a i j))
      rw [sm_mul, sm_mul, hx i hi hMi, hy i hi hMi] at e1
      have e2 : sm n (fun j => (y m * x j - x m * y j) * a i j) = sm n (fun j => y m * (x j * a i j) + (- x m) * (y j * a i j)) := sm_congr fun j _ => by grind
      rw [e2, e1]; simp) j hj
    (try dsimp only at z)
    grind

/-! balanced weights -/
theorem pairing {n : Nat} {a : Nat → Nat → Int} (T : Tab n a) (p q : Nat → Int) : sm n (fun i => q i * bal n a p i) = - sm n (fun i => p i * bal n a q i) := by
  have e1 : sm n (fun i => q i * bal n a p i) = sm n (fun i => sm n (fun j => q i * p j * a i j)) := sm_congr fun i _ => by
    unfold bal
    rw [← sm_mul]
    exact sm_congr fun j _ => by grind
  have e2 : sm n (fun i => p i * bal n a q i) = sm n (fun i => sm n (fun j => p i * q j * a i j)) := sm_congr fun i _ => by
    unfold bal
    rw [← sm_mul]
    exact sm_congr fun j _ => by grind
  rw [e1, e2, sm_swap, ← sm_neg]
  refine sm_congr fun i hi => ?_
  rw [← sm_neg]
  refine sm_congr fun j hj => ?_
  rw [T.sk j i hj hi]
  grind
structure Bald (n : Nat) (a : Nat → Nat → Int) (p : Nat → Int) : Prop where
  nn : ∀ i, i < n → 0 ≤ p i
  ps : ∃ i, i < n ∧ 0 < p i
  bl : ∀ i, i < n → bal n a p i ≤ 0
theorem cross {n : Nat} {a : Nat → Nat → Int} (T : Tab n a) {p q : Nat → Int} (hp : Bald n a p) (hq : Bald n a q) : ∀ i, i < n → 0 < q i → bal n a p i = 0 := by
  have n1 : ∀ i, i < n → q i * bal n a p i ≤ 0 := fun i hi => Int.mul_nonpos_of_nonneg_of_nonpos (hq.nn i hi) (hp.bl i hi)
  have n2 : ∀ i, i < n → p i * bal n a q i ≤ 0 := fun i hi => Int.mul_nonpos_of_nonneg_of_nonpos (hp.nn i hi) (hq.bl i hi)
  have e := pairing T p q
  have s2 := sm_nonpos n2
  intro i hi h
  have z := sm_zero_of n1 (by rw [e]; omega) i hi
  rcases Int.mul_eq_zero.mp z with z | z
  · omega
  · exact z
/-- the positive ones of balanced weights are odd in number -/
theorem supp_odd {n : Nat} {a : Nat → Nat → Int} (T : Tab n a) {p : Nat → Int} (hp : Bald n a p) : cnt n (fun i => decide (0 < p i)) % 2 = 1 := by
  have h2 : cnt n (fun i => decide (0 < p i)) % 2 = 0 ∨ cnt n (fun i => decide (0 < p i)) % 2 = 1 := by omega
  rcases h2 with h | h
  · obtain ⟨m, hm, hpm⟩ := hp.ps
    have := even_ker T h (x := p) (fun i hi e => by have := hp.nn i hi; have := of_decide_eq_false e; omega) (fun i hi e => cross T hp hp i hi (of_decide_eq_true e)) m hm
    omega
  · exact h
/-- UNIQUENESS, up to a factor -/
theorem propor {n : Nat} {a : Nat → Nat → Int} (T : Tab n a) {p q : Nat → Int} (hp : Bald n a p) (hq : Bald n a q) : ∀ i j, i < n → j < n → p i * q j = q i * p j := by
  let M : Nat → Bool := fun i => decide (0 < p i ∨ 0 < q i)
  have p0 : ∀ i, i < n → M i = false → p i = 0 := fun i hi h => by
    have h1 := hp.nn i hi
    have h2 : ¬ (0 < p i ∨ 0 < q i) := of_decide_eq_false h
    omega
  have q0 : ∀ i, i < n → M i = false → q i = 0 := fun i hi h => by
    have h1 := hq.nn i hi
    have h2 : ¬ (0 < p i ∨ 0 < q i) := of_decide_eq_false h
    omega
  have hpk : ∀ i, i < n → M i = true → sm n (fun j => p j * a i j) = 0 := fun i hi h => by
    rcases (of_decide_eq_true h : 0 < p i ∨ 0 < q i) with h | h
    · exact cross T hp hp i hi h
    · exact cross T hp hq i hi h
  have hqk : ∀ i, i < n → M i = true → sm n (fun j => q j * a i j) = 0 := fun i hi h => by
    rcases (of_decide_eq_true h : 0 < p i ∨ 0 < q i) with h | h
    · exact cross T hq hp i hi h
    · exact cross T hq hq i hi h
  have h2 : cnt n M % 2 = 0 ∨ cnt n M % 2 = 1 := by omega
  rcases h2 with h | h
  · obtain ⟨m, hm, hpm⟩ := hp.ps
    have := even_ker T h p0 hpk m hm
    omega
  · exact odd_ker T h p0 q0 hpk hqk

/-! common divisors -/
def gL (l : List Int) : Nat := l.foldl (fun g x => Nat.gcd g x.natAbs) 0
theorem gfold_dvd (l : List Int) : ∀ g : Nat, (l.foldl (fun g x => Nat.gcd g x.natAbs) g ∣ g) ∧ ∀ x ∈ l, l.foldl (fun g x => Nat.gcd g x.natAbs) g ∣ x.natAbs := by
  induction l with
  | nil => exact fun g => ⟨Nat.dvd_refl _, by simp⟩
  | cons y l ih =>
    intro g
    obtain ⟨h1, h2⟩ := ih (Nat.gcd g y.natAbs)
    refine ⟨Nat.dvd_trans h1 (Nat.gcd_dvd_left _ _), fun x hx => ?_⟩
    rcases List.mem_cons.mp hx with rfl | hx
    · exact Nat.dvd_trans h1 (Nat.gcd_dvd_right _ _)
    · exact h2 x hx
theorem gfold_of (l : List Int) : ∀ (g d : Nat), d ∣ g → (∀ x ∈ l, d ∣ x.natAbs) → d ∣ l.foldl (fun g x => Nat.gcd g x.natAbs) g := by
  induction l with
  | nil => exact fun g d h _ => h
  | cons y l ih =>
    intro g d h hx
    exact ih _ d (Nat.dvd_gcd h (hx y List.mem_cons_self)) fun x m => hx x (List.mem_cons_of_mem _ m)
theorem gL_dvd {l : List Int} {x : Int} (h : x ∈ l) : gL l ∣ x.natAbs := (gfold_dvd l 0).2 x h
theorem gL_of {l : List Int} {d : Nat} (h : ∀ x ∈ l, d ∣ x.natAbs) : d ∣ gL l := gfold_of l 0 d (Nat.dvd_zero d) h
/-- two lists with the same numbers but for zeros have the same divisor -/
theorem gL_eq {l k : List Int} (h1 : ∀ x ∈ l, x = 0 ∨ x ∈ k) (h2 : ∀ x ∈ k, x = 0 ∨ x ∈ l) : gL l = gL k := by
  refine Nat.dvd_antisymm (gL_of fun x hx => ?_) (gL_of fun x hx => ?_)
  · rcases h2 x hx with rfl | h
    · exact Nat.dvd_zero _
    · exact gL_dvd h
  · rcases h1 x hx with rfl | h
    · exact Nat.dvd_zero _
    · exact gL_dvd h
theorem gfold_mul (c : Int) (l : List Int) : ∀ g : Nat, (l.map (c * ·)).foldl (fun g x => Nat.gcd g x.natAbs) (c.natAbs * g) = c.natAbs * l.foldl (fun g x => Nat.gcd g x.natAbs) g := by
  induction l with
  | nil => exact fun g => rfl
  | cons y l ih =>
    intro g
    show List.foldl _ (Nat.gcd (c.natAbs * g) (c * y).natAbs) (l.map (c * ·)) = _
    rw [Int.natAbs_mul, Nat.gcd_mul_left]
    exact ih _
theorem gL_mul (c : Int) (l : List Int) : gL (l.map (c * ·)) = c.natAbs * gL l := gfold_mul c l 0

/-! THE LOTTERY -/
structure IsLot (n : Nat) (a : Nat → Nat → Int) (w : List Int) : Prop where
  len : w.length = n
  nn : ∀ x ∈ w, 0 ≤ x
  gc : gL w = 1
  bl : ∀ i, i < n → bal n a (fun j => w.getD j 0) i ≤ 0
theorem getD_mem {w : List Int} {i : Nat} (h : i < w.length) : w.getD i 0 ∈ w := by
  rw [List.getD_eq_getElem?_getD, List.getElem?_eq_getElem h]
  exact List.getElem_mem h
theorem IsLot.bald {n : Nat} {a : Nat → Nat → Int} {w : List Int} (h : IsLot n a w) : Bald n a (fun j => w.getD j 0) := by
  refine ⟨fun i hi => h.nn _ (getD_mem (by rw [h.len]; exact hi)), ?_, h.bl⟩
  refine Classical.byContradiction fun z => ?_
  have all0 : ∀ x ∈ w, x = 0 := fun x hx => by
    obtain ⟨i, hi, e⟩ := List.mem_iff_getElem.mp hx
    have h1 := h.nn x hx
    have h2 : ¬ 0 < w.getD i 0 := fun q => z ⟨i, by rw [← h.len]; exact hi, q⟩
    rw [List.getD_eq_getElem?_getD, List.getElem?_eq_getElem hi] at h2
    simp [e] at h2
    omega
  have : (0 : Nat) ∣ gL w := gL_of fun x hx => by rw [all0 x hx]; exact Nat.dvd_refl 0
  rw [h.gc] at this
  omega
theorem IsLot.uniq {n : Nat} {a : Nat → Nat → Int} (T : Tab n a) {w v : List Int} (hw : IsLot n a w) (hv : IsLot n a v) : w = v := by
  have pr := propor T hw.bald hv.bald
  have key : ∀ j, j < n → w.getD j 0 = v.getD j 0 := fun j hj => by
    have e : v.map (w.getD j 0 * ·) = w.map (v.getD j 0 * ·) := by
      refine List.ext_getElem (by rw [List.length_map, List.length_map, hw.len, hv.len]) fun i h1 h2 => ?_
      rw [List.length_map] at h1 h2
      rw [List.getElem_map, List.getElem_map]
      have q := pr j i hj (by rw [← hw.len]; exact h2)
      have ei : v.getD i 0 = v[i] := by rw [List.getD_eq_getElem?_getD, List.getElem?_eq_getElem h1]; rfl
      have ej : w.getD i 0 = w[i] := by rw [List.getD_eq_getElem?_getD, List.getElem?_eq_getElem h2]; rfl
      rw [← ei, ← ej]
      exact q
    have g := congrArg gL e
    rw [gL_mul, gL_mul, hw.gc, hv.gc] at g
    have h1 := hw.nn _ (getD_mem (by rw [hw.len]; exact hj))
    have h2 := hv.nn _ (getD_mem (by rw [hv.len]; exact hj))
    omega
  refine List.ext_getElem (by rw [hw.len, hv.len]) fun i h1 h2 => ?_
  have q := key i (by rw [← hw.len]; exact h1)
  rw [List.getD_eq_getElem?_getD, List.getD_eq_getElem?_getD, List.getElem?_eq_getElem h1, List.getElem?_eq_getElem h2] at q
  exact q
end Duel
end
section
set_option autoImplicit false
namespace Duel
/-! the alternating sum over the items of a list, each with the others: F x rest - ... -/
def alt : List Nat → (Nat → List Nat → Int) → Int
  | [], _ => 0
  | x :: l, F => F x l - alt l (fun y r => F y (x :: r))
theorem alt_congr : ∀ (l : List Nat) (F G : Nat → List Nat → Int), (∀ y r, (y :: r).Perm l → F y r = G y r) → alt l F = alt l G
  | [], _, _, _ => rfl
  | x :: l, F, G, h => by
    show F x l - alt l _ = G x l - alt l _
    rw [h x l (List.Perm.refl _), alt_congr l (fun y r => F y (x :: r)) (fun y r => G y (x :: r)) fun y r p => h y (x :: r) ((List.Perm.swap x y r).trans (p.cons x))]
theorem alt_add : ∀ (l : List Nat) (F G : Nat → List Nat → Int), alt l (fun y r => F y r + G y r) = alt l F + alt l G
  | [], _, _ => rfl
  | x :: l, F, G => by
    show (F x l + G x l) - alt l (fun y r => F y (x :: r) + G y (x :: r)) = (F x l - alt l _) + (G x l - alt l _)
    rw [alt_add l (fun y r => F y (x :: r)) (fun y r => G y (x :: r))]; omega
theorem alt_neg : ∀ (l : List Nat) (F : Nat → List Nat → Int), alt l (fun y r => - F y r) = - alt l F
  | [], _ => rfl
  | x :: l, F => by
    show (- F x l) - alt l (fun y r => - F y (x :: r)) = - (F x l - alt l _)
    rw [alt_neg l (fun y r => F y (x :: r))]; omega
theorem alt_sub (l : List Nat) (F G : Nat → List Nat → Int) : alt l (fun y r => F y r - G y r) = alt l F - alt l G := by
  have h := alt_add l F (fun y r => - G y r)
  rw [alt_neg] at h
  exact h
theorem alt_zero (l : List Nat) : alt l (fun _ _ => 0) = 0 := by
  induction l with
  | nil => rfl
  | cons x l ih => show (0 : Int) - alt l (fun _ _ => 0) = 0; rw [ih]; rfl
theorem alt_mul (c : Int) : ∀ (l : List Nat) (F : Nat → List Nat → Int), alt l (fun y r => c * F y r) = c * alt l F
  | [], _ => by show (0 : Int) = c * 0; omega
  | x :: l, F => by
    show c * F x l - alt l (fun y r => c * F y (x :: r)) = c * (F x l - alt l _)
    rw [alt_mul c l (fun y r => F y (x :: r))]; grind
/-- two items taken one after the other: the order gives the sign -/
theorem alt_two : ∀ (l : List Nat) (G : Nat → Nat → List Nat → Int), alt l (fun y r => alt r fun z t => G y z t) = - alt l (fun y r => alt r fun z t => G z y t)
  | [], _ => rfl
  | x :: l, G => by
    show alt l (fun z t => G x z t) - alt l (fun y r => G y x r - alt r fun z t => G y z (x :: t)) = - (alt l (fun z t => G z x t) - alt l (fun y r => G x y r - alt r fun z t => G z y (x :: t)))
    rw [alt_sub, alt_sub, alt_two l (fun y z t => G y z (x :: t))]
    have e1 : alt l (fun z t => G x z t) = alt l (G x) := rfl
    have e2 : alt l (fun z t => G z x t) = alt l (fun y => G y x) := rfl
    omega
/-- signed numbers of pairings of lists of 2 k items -/
def pf (a : Nat → Nat → Int) : Nat → List Nat → Int
  | 0, [] => 1
  | 0, _ :: _ => 0
  | _ + 1, [] => 0
  | k + 1, x :: l => alt l fun y r => a x y * pf a k r
theorem pf_head {a : Nat → Nat → Int} (k : Nat) (x y : Nat) (l : List Nat) (sk : a x y = - a y x) : pf a (k + 1) (x :: y :: l) = - pf a (k + 1) (y :: x :: l) := by
  show a x y * pf a k l - alt l (fun z r => a x z * pf a k (y :: r)) = - (a y x * pf a k l - alt l (fun z r => a y z * pf a k (x :: r)))
  cases k with
  | zero =>
    have e1 : alt l (fun z r => a x z * pf a 0 (y :: r)) = 0 := by
      rw [← alt_zero l]
      exact alt_congr l _ _ fun z r _ => by show a x z * 0 = 0; omega
    have e2 : alt l (fun z r => a y z * pf a 0 (x :: r)) = 0 := by
      rw [← alt_zero l]
      exact alt_congr l _ _ fun z r _ => by show a y z * 0 = 0; omega
    rw [e1, e2, sk]; grind
  | succ k =>
    have e1 : alt l (fun z r => a x z * pf a (k + 1) (y :: r)) = alt l (fun z r => alt r fun u t => a x z * a y u * pf a k t) :=
      alt_congr l _ _ fun z r _ => by
        show a x z * alt r (fun u t => a y u * pf a k t) = _
        rw [← alt_mul]
        exact alt_congr r _ _ fun u t _ => by grind
    have e2 : alt l (fun z r => a y z * pf a (k + 1) (x :: r)) = alt l (fun z r => alt r fun u t => a x u * a y z * pf a k t) :=
      alt_congr l _ _ fun z r _ => by
        show a y z * alt r (fun u t => a x u * pf a k t) = _
        rw [← alt_mul]
        exact alt_congr r _ _ fun u t _ => by grind
    rw [e1, e2, alt_two l (fun z u t => a x z * a y u * pf a k t), sk]
    grind
theorem alt_swap (x y : Nat) (v : List Nat) : ∀ (u : List Nat) (F : Nat → List Nat → Int), (∀ z u' v', F z (u' ++ x :: y :: v') = - F z (u' ++ y :: x :: v')) → alt (u ++ x :: y :: v) F = - alt (u ++ y :: x :: v) F
  | [], F, h => by
    show F x (y :: v) - (F y (x :: v) - alt v (fun z r => F z (x :: y :: r))) = - (F y (x :: v) - (F x (y :: v) - alt v (fun z r => F z (y :: x :: r))))
    have e : alt v (fun z r => F z (x :: y :: r)) = - alt v (fun z r => F z (y :: x :: r)) := by
      rw [← alt_neg]
      exact alt_congr v _ _ fun z r _ => h z [] r
    rw [e]; omega
  | c :: u, F, h => by
    show F c (u ++ x :: y :: v) - alt (u ++ x :: y :: v) (fun z r => F z (c :: r)) = - (F c (u ++ y :: x :: v) - alt (u ++ y :: x :: v) (fun z r => F z (c :: r)))
    rw [h c u v, alt_swap x y v u (fun z r => F z (c :: r)) fun z u' v' => h z (c :: u') v']
    omega
theorem pf_swap {a : Nat → Nat → Int} {x y : Nat} (sk : a x y = - a y x) : ∀ (k : Nat) (u v : List Nat), pf a k (u ++ x :: y :: v) = - pf a k (u ++ y :: x :: v)
  | 0, [], v => rfl
  | 0, c :: u, v => rfl
  | k + 1, [], v => pf_head k x y v sk
  | k + 1, c :: u, v => by
    show alt (u ++ x :: y :: v) (fun z r => a c z * pf a k r) = - alt (u ++ y :: x :: v) (fun z r => a c z * pf a k r)
    refine alt_swap x y v u _ fun z u' v' => ?_
    rw [pf_swap sk k u' v']; grind
/-- an item that stands twice gives 0 -/
theorem pf_twice {a : Nat → Nat → Int} {x : Nat} (v : List Nat) (k : Nat) (h0 : a x x = 0) : ∀ (u w : List Nat), (∀ c ∈ u, a x c = - a c x) → pf a k (w ++ x :: (u ++ x :: v)) = 0
  | [], w, _ => by
    have h := pf_swap (a := a) (x := x) (y := x) (by omega) k w v
    show pf a k (w ++ x :: x :: v) = 0
    omega
  | c :: u, w, h => by
    show pf a k (w ++ x :: c :: (u ++ x :: v)) = 0
    rw [pf_swap (h c List.mem_cons_self)]
    have q := pf_twice v k h0 u (w ++ [c]) fun d hd => h d (List.mem_cons_of_mem _ hd)
    rw [List.append_assoc] at q
    have q' : pf a k (w ++ c :: x :: (u ++ x :: v)) = 0 := q
    rw [q']; rfl
theorem pf_kernel {a : Nat → Nat → Int} {M : List Nat} {i : Nat} (k : Nat) (hi : i ∈ M) (h0 : a i i = 0) (sk : ∀ c ∈ M, a i c = - a c i) : alt M (fun y r => a i y * pf a k r) = 0 := by
  obtain ⟨u, v, rfl⟩ := List.append_of_mem hi
  exact pf_twice v (k + 1) h0 u [] fun c hc => sk c (List.mem_append_left _ hc)
/-! parity -/
theorem alt_odd : ∀ (l : List Nat) (F : Nat → List Nat → Int), (∀ y r, (y :: r).Perm l → F y r % 2 = 1) → alt l F % 2 = (l.length : Int) % 2
  | [], _, _ => rfl
  | x :: l, F, h => by
    show (F x l - alt l _) % 2 = ((l.length + 1 : Nat) : Int) % 2
    have h1 := h x l (List.Perm.refl _)
    have h2 := alt_odd l (fun y r => F y (x :: r)) fun y r p => h y (x :: r) ((List.Perm.swap x y r).trans (p.cons x))
    omega
theorem pf_odd {a : Nat → Nat → Int} : ∀ (k : Nat) (l : List Nat), l.length = 2 * k → l.Nodup → (∀ i ∈ l, ∀ j ∈ l, i ≠ j → a i j % 2 = 1) → pf a k l % 2 = 1
  | 0, [], _, _, _ => rfl
  | 0, _ :: _, h, _, _ => by simp at h
  | k + 1, [], h, _, _ => by simp at h
  | k + 1, x :: l, h, nd, ho => by
    show alt l (fun y r => a x y * pf a k r) % 2 = 1
    have hl : l.length = 2 * k + 1 := by rw [List.length_cons] at h; omega
    have nd' := List.nodup_cons.mp nd
    rw [alt_odd l _ fun y r p => ?_, hl]
    · omega
    · have ym : y ∈ l := p.mem_iff.mp List.mem_cons_self
      have hr : ∀ z ∈ r, z ∈ l := fun z hz => p.mem_iff.mp (List.mem_cons_of_mem _ hz)
      have h1 := ho x List.mem_cons_self y (List.mem_cons_of_mem _ ym) (fun e => nd'.1 (by rw [e]; exact ym))
      have h2 := pf_odd k r (by have := p.length_eq; rw [List.length_cons] at this; omega) (List.nodup_cons.mp (p.nodup_iff.mpr nd'.2)).2 fun i hi j hj => ho i (List.mem_cons_of_mem _ (hr i hi)) j (List.mem_cons_of_mem _ (hr j hj))
      rw [Int.mul_emod, h1, h2]; rfl
/-! the same by places -/
def sgn (k : Nat) : Int := if k % 2 = 0 then 1 else -1
theorem sgn_succ (k : Nat) : sgn (k + 1) = - sgn k := by
  unfold sgn
  by_cases h : k % 2 = 0
  · rw [if_pos h, if_neg (by omega)]
  · rw [if_neg h, if_pos (by omega)]; rfl
/-- the first t terms -/
def altTo (F : Nat → List Nat → Int) (l : List Nat) : Nat → Int
  | 0 => 0
  | t + 1 => altTo F l t + sgn t * F (l.getD t 0) (l.eraseIdx t)
theorem altTo_cons (F : Nat → List Nat → Int) (x : Nat) (l : List Nat) : ∀ t, altTo F (x :: l) (t + 1) = F x l - altTo (fun y r => F y (x :: r)) l t
  | 0 => by
    show (0 : Int) + sgn 0 * F x l = F x l - 0
    show (0 : Int) + 1 * F x l = F x l - 0
    omega
  | t + 1 => by
    show altTo F (x :: l) (t + 1) + sgn (t + 1) * F (l.getD t 0) (x :: l.eraseIdx t) = F x l - (altTo _ l t + sgn t * F (l.getD t 0) (x :: l.eraseIdx t))
    rw [altTo_cons F x l t, sgn_succ]; grind
theorem altTo_all : ∀ (l : List Nat) (F : Nat → List Nat → Int), altTo F l l.length = alt l F
  | [], _ => rfl
  | x :: l, F => by
    show altTo F (x :: l) (l.length + 1) = F x l - alt l _
    rw [altTo_cons, altTo_all l]
end Duel
end
section
set_option autoImplicit false
namespace Duel
/-! sums over a list of places -/
theorem sm_front (n : Nat) (f : Nat → Int) : sm (n + 1) f = f 0 + sm n (fun k => f (k + 1)) := by
  induction n with
  | zero => show (0 : Int) + f 0 = f 0 + 0; omega
  | succ n ih => rw [sm_succ, ih, sm_succ]; omega
theorem sm_list {n : Nat} : ∀ (M : List Nat) (F : Nat → Int), M.Nodup → (∀ j ∈ M, j < n) → (∀ j, j < n → j ∉ M → F j = 0) → sm n F = sm M.length (fun k => F (M.getD k 0))
  | [], F, _, _, h => by
    show sm n F = 0
    rw [← sm_const0 n]
    exact sm_congr fun j hj => h j hj (by simp)
  | m :: M, F, nd, hlt, h => by
    have nd' := List.nodup_cons.mp nd
    have e1 := sm_add n (fun j => if j = m then F j else 0) (fun j => if j = m then 0 else F j)
    have e2 := sm_delta n m (hlt m List.mem_cons_self) F
    have e3 : sm n (fun j => (if j = m then F j else 0) + (if j = m then 0 else F j)) = sm n F := sm_congr fun j _ => by split <;> omega
    have ih := sm_list M (fun j => if j = m then 0 else F j) nd'.2 (fun j hj => hlt j (List.mem_cons_of_mem _ hj)) fun j hj hn => by
      (try dsimp only)
      split
      · rfl
      · rename_i q
        exact h j hj (by intro z; rcases List.mem_cons.mp z with z | z; exact q z; exact hn z)
    have e4 : sm M.length (fun k => (fun j => if j = m then (0 : Int) else F j) (M.getD k 0)) = sm M.length (fun k => F (M.getD k 0)) := sm_congr fun k hk => by
      (try dsimp only)
      rw [if_neg]
      intro z
      apply nd'.1
      rw [← z]
      rw [List.getD_eq_getElem?_getD, List.getElem?_eq_getElem hk]
      exact List.getElem_mem hk
    rw [ih, e4, e2, e3] at e1
    rw [e1]
    show F m + _ = sm (M.length + 1) (fun k => F ((m :: M).getD k 0))
    rw [sm_front]
    rfl
theorem nd_inj {l : List Nat} (nd : l.Nodup) {i j : Nat} (hi : i < l.length) (hj : j < l.length) (e : l[i] = l[j]) : i = j := by
  have h := List.pairwise_iff_getElem.mp nd
  rcases Nat.lt_trichotomy i j with q | q | q
  · exact absurd e (h i j hi hj q)
  · exact q
  · exact absurd e.symm (h j i hj hi q)
theorem nd_idx {l : List Nat} (nd : l.Nodup) {k : Nat} (hk : k < l.length) : l.idxOf l[k] = k := by
  have h1 : l.idxOf l[k] < l.length := List.idxOf_lt_length_of_mem (List.getElem_mem hk)
  exact nd_inj nd h1 hk (List.getElem_idxOf h1)
theorem getD_get {α : Type} {l : List α} {k : Nat} {d : α} (hk : k < l.length) : l.getD k d = l[k] := by
  rw [List.getD_eq_getElem?_getD, List.getElem?_eq_getElem hk]; rfl
theorem altTo_sm (F : Nat → List Nat → Int) (l : List Nat) : ∀ t, altTo F l t = sm t (fun k => sgn k * F (l.getD k 0) (l.eraseIdx k))
  | 0 => rfl
  | t + 1 => by rw [sm_succ, ← altTo_sm F l t]; rfl

/-! what the program makes of a set -/
/-- level_weights -/
def lev (a : Nat → Nat → Int) (M : List Nat) : List Int := (List.range M.length).map fun k => sgn k * pf a ((M.length - 1) / 2) (M.eraseIdx k)
theorem lev_len (a : Nat → Nat → Int) (M : List Nat) : (lev a M).length = M.length := by unfold lev; rw [List.length_map, List.length_range]
theorem lev_get (a : Nat → Nat → Int) (M : List Nat) {k : Nat} (hk : k < M.length) : (lev a M).getD k 0 = sgn k * pf a ((M.length - 1) / 2) (M.eraseIdx k) := by
  rw [getD_get (by rw [lev_len]; exact hk)]
  unfold lev
  rw [List.getElem_map, List.getElem_range]
theorem lev_kernel {a : Nat → Nat → Int} {M : List Nat} {i : Nat} (hi : i ∈ M) (h0 : a i i = 0) (sk : ∀ c ∈ M, a i c = - a c i) : sm M.length (fun k => (lev a M).getD k 0 * a i (M.getD k 0)) = 0 := by
  have h := pf_kernel ((M.length - 1) / 2) hi h0 sk
  rw [← altTo_all, altTo_sm] at h
  refine Eq.trans (sm_congr fun k hk => ?_) h
  rw [lev_get a M hk]; grind
theorem lev_odd {n : Nat} {a : Nat → Nat → Int} (T : Tab n a) {M : List Nat} (nd : M.Nodup) (hlt : ∀ j ∈ M, j < n) (ho : M.length % 2 = 1) {k : Nat} (hk : k < M.length) : (lev a M).getD k 0 % 2 = 1 := by
  rw [lev_get a M hk]
  have e : ∀ j ∈ M.eraseIdx k, j ∈ M := fun j hj => List.mem_of_mem_eraseIdx hj
  have nd' : (M.eraseIdx k).Nodup := List.Pairwise.sublist (List.eraseIdx_sublist M k) nd
  have h := pf_odd (a := a) ((M.length - 1) / 2) (M.eraseIdx k) (by rw [List.length_eraseIdx_of_lt hk]; omega) nd' fun i hi j hj q => by
    rcases T.pm i j (hlt i (e i hi)) (hlt j (e j hj)) q with z | z <;> rw [z] <;> rfl
  unfold sgn
  split <;> omega
/-- weights stored one by one -/
def setAll (w : List Int) : List Nat → List Int → List Int
  | m :: M, x :: u => setAll (w.set m x) M u
  | [], _ => w
  | _ :: _, [] => w
theorem setAll_len : ∀ (M : List Nat) (u w : List Int), (setAll w M u).length = w.length
  | [], _, _ => by unfold setAll; rfl
  | _ :: _, [], _ => by unfold setAll; rfl
  | m :: M, x :: u, w => by show (setAll (w.set m x) M u).length = _; rw [setAll_len M u]; exact List.length_set
theorem setAll_no : ∀ (M : List Nat) (u w : List Int) (j : Nat), j ∉ M → (setAll w M u).getD j 0 = w.getD j 0
  | [], _, _, _, _ => by unfold setAll; rfl
  | _ :: _, [], _, _, _ => by unfold setAll; rfl
  | m :: M, x :: u, w, j, h => by
    show (setAll (w.set m x) M u).getD j 0 = _
    rw [setAll_no M u _ j fun z => h (List.mem_cons_of_mem _ z)]
    have hm : m ≠ j := fun z => h (by rw [z]; exact List.mem_cons_self)
    rw [List.getD_eq_getElem?_getD, List.getElem?_set_ne hm, ← List.getD_eq_getElem?_getD]
theorem setAll_at : ∀ (M : List Nat) (u w : List Int) (k : Nat), M.Nodup → (∀ j ∈ M, j < w.length) → M.length = u.length → k < M.length → (setAll w M u).getD (M.getD k 0) 0 = u.getD k 0
  | [], _, _, _, _, _, _, h => by simp at h
  | m :: M, [], _, _, _, _, h, _ => by simp at h
  | m :: M, x :: u, w, 0, nd, hl, _, _ => by
    show (setAll (w.set m x) M u).getD m 0 = x
    rw [setAll_no M u _ m (List.nodup_cons.mp nd).1, List.getD_eq_getElem?_getD, List.getElem?_set_self (hl m List.mem_cons_self)]
    rfl
  | m :: M, x :: u, w, k + 1, nd, hl, e, hk => by
    show (setAll (w.set m x) M u).getD (M.getD k 0) 0 = u.getD k 0
    exact setAll_at M u _ k (List.nodup_cons.mp nd).2 (fun j hj => by rw [List.length_set]; exact hl j (List.mem_cons_of_mem _ hj)) (by simpa using e) (by simpa using hk)
/-- whole_weights -/
def whole (n : Nat) (M : List Nat) (v : List Int) : List Int := setAll (List.replicate n 0) M (v.map fun x => ((x.natAbs / gL v : Nat) : Int))
theorem whole_len (n : Nat) (M : List Nat) (v : List Int) : (whole n M v).length = n := by
  unfold whole; rw [setAll_len, List.length_replicate]
theorem whole_no {n : Nat} {M : List Nat} {v : List Int} {j : Nat} (h : j ∉ M) : (whole n M v).getD j 0 = 0 := by
  unfold whole
  rw [setAll_no _ _ _ j h, List.getD_eq_getElem?_getD, List.getElem?_replicate]
  split <;> rfl
theorem whole_at {n : Nat} {M : List Nat} {v : List Int} {k : Nat} (nd : M.Nodup) (hlt : ∀ j ∈ M, j < n) (e : M.length = v.length) (hk : k < M.length) : (whole n M v).getD (M.getD k 0) 0 = (((v.getD k 0).natAbs / gL v : Nat) : Int) := by
  unfold whole
  rw [setAll_at M _ _ k nd (fun j hj => by rw [List.length_replicate]; exact hlt j hj) (by rw [List.length_map]; exact e) hk]
  rw [getD_get (by rw [List.length_map]; omega), getD_get (by omega), List.getElem_map]
theorem mem_getD {w : List Int} {x : Int} (h : x ∈ w) : ∃ j, j < w.length ∧ x = w.getD j 0 := by
  obtain ⟨j, hj, e⟩ := List.mem_iff_getElem.mp h
  exact ⟨j, hj, by rw [getD_get hj, e]⟩
theorem whole_cases {n : Nat} {M : List Nat} {v : List Int} (nd : M.Nodup) (hlt : ∀ j ∈ M, j < n) (e : M.length = v.length) {x : Int} (h : x ∈ whole n M v) : x = 0 ∨ x ∈ v.map fun x => ((x.natAbs / gL v : Nat) : Int) := by
  obtain ⟨j, hj, rfl⟩ := mem_getD h
  by_cases q : j ∈ M
  · obtain ⟨k, hk, rfl⟩ := List.mem_iff_getElem.mp q
    have h1 := whole_at nd hlt e hk
    rw [getD_get hk] at h1
    rw [h1]
    exact .inr (List.mem_map.mpr ⟨v.getD k 0, getD_mem (by omega), rfl⟩)
  · exact .inl (whole_no q)
theorem gL_abs (v : List Int) (f : Int → Int) (h : ∀ x ∈ v, (f x).natAbs = x.natAbs) : gL (v.map f) = gL v := by
  refine Nat.dvd_antisymm (gL_of fun x hx => ?_) (gL_of fun x hx => ?_)
  · rw [← h x hx]
    exact gL_dvd (List.mem_map.mpr ⟨x, hx, rfl⟩)
  · obtain ⟨y, hy, rfl⟩ := List.mem_map.mp hx
    rw [h y hy]
    exact gL_dvd hy
theorem gL_pos {v : List Int} {x : Int} (h : x ∈ v) (h0 : x ≠ 0) : 0 < gL v := by
  rcases Nat.eq_zero_or_pos (gL v) with q | q
  · have := gL_dvd h
    rw [q] at this
    have := Nat.eq_zero_of_zero_dvd this
    omega
  · exact q
theorem whole_gc {n : Nat} {M : List Nat} {v : List Int} (nd : M.Nodup) (hlt : ∀ j ∈ M, j < n) (e : M.length = v.length) {x : Int} (hx : x ∈ v) (h0 : x ≠ 0) : gL (whole n M v) = 1 := by
  have g0 := gL_pos hx h0
  have e1 : gL (whole n M v) = gL (v.map fun x => ((x.natAbs / gL v : Nat) : Int)) := gL_eq (fun y hy => whole_cases nd hlt e hy) fun y hy => by
    obtain ⟨z, hz, rfl⟩ := List.mem_map.mp hy
    obtain ⟨k, hk, rfl⟩ := mem_getD hz
    right
    rw [← whole_at nd hlt e (by omega)]
    refine getD_mem ?_
    rw [whole_len]
    refine hlt _ ?_
    rw [getD_get (by omega)]
    exact List.getElem_mem _
  rw [e1]
  have e2 := gL_mul ((gL v : Nat) : Int) (v.map fun x => ((x.natAbs / gL v : Nat) : Int))
  rw [List.map_map] at e2
  have e3 : gL (v.map ((fun x => ((gL v : Nat) : Int) * x) ∘ fun x => ((x.natAbs / gL v : Nat) : Int))) = gL v := gL_abs v _ fun x hx => by
    show (((gL v : Nat) : Int) * ((x.natAbs / gL v : Nat) : Int)).natAbs = x.natAbs
    rw [← Int.natCast_mul, Int.natAbs_natCast]
    exact Nat.mul_div_cancel' (gL_dvd hx)
  rw [e3, Int.natAbs_natCast] at e2
  have : gL v * gL (v.map fun x => ((x.natAbs / gL v : Nat) : Int)) = gL v * 1 := by omega
  exact Nat.eq_of_mul_eq_mul_left g0 this
/-- SOUND: what the search accepts is the lottery -/
theorem sound {n : Nat} {a : Nat → Nat → Int} (T : Tab n a) {M : List Nat} (nd : M.Nodup) (hlt : ∀ j ∈ M, j < n) (ho : M.length % 2 = 1) (hb : ∀ i, i < n → bal n a (fun j => (whole n M (lev a M)).getD j 0) i ≤ 0) : IsLot n a (whole n M (lev a M)) := by
  have h0 : 0 < M.length := by omega
  have q := lev_odd T nd hlt ho h0
  refine ⟨whole_len _ _ _, fun x hx => ?_, whole_gc nd hlt (lev_len a M).symm (x := (lev a M).getD 0 0) (getD_mem (by rw [lev_len]; exact h0)) (by omega), hb⟩
  rcases whole_cases nd hlt (lev_len a M).symm hx with rfl | h
  · omega
  · obtain ⟨y, _, rfl⟩ := List.mem_map.mp h
    exact Int.natCast_nonneg _
theorem prop_eq {n : Nat} {w v : List Int} (lw : w.length = n) (lv : v.length = n) (nw : ∀ x ∈ w, 0 ≤ x) (nv : ∀ x ∈ v, 0 ≤ x) (gw : gL w = 1) (gv : gL v = 1) (pr : ∀ i j, i < n → j < n → w.getD i 0 * v.getD j 0 = v.getD i 0 * w.getD j 0) : w = v := by
  have key : ∀ j, j < n → w.getD j 0 = v.getD j 0 := fun j hj => by
    have e : v.map (w.getD j 0 * ·) = w.map (v.getD j 0 * ·) := by
      refine List.ext_getElem (by rw [List.length_map, List.length_map, lw, lv]) fun i h1 h2 => ?_
      rw [List.length_map] at h1 h2
      rw [List.getElem_map, List.getElem_map]
      have q := pr j i hj (by rw [← lw]; exact h2)
      have ei : v.getD i 0 = v[i] := getD_get h1
      have ej : w.getD i 0 = w[i] := getD_get h2
      rw [← ei, ← ej]
      exact q
    have g := congrArg gL e
    rw [gL_mul, gL_mul, gw, gv] at g
    have h1 := nw _ (getD_mem (by rw [lw]; exact hj))
    have h2 := nv _ (getD_mem (by rw [lv]; exact hj))
    omega
  refine List.ext_getElem (by rw [lw, lv]) fun i h1 h2 => ?_
  have q := key i (by rw [← lw]; exact h1)
  rw [getD_get h1, getD_get h2] at q
  exact q
/-- the support of weights -/
def supp (w : List Int) : List Nat := (List.range w.length).filter fun i => decide (0 < w.getD i 0)
theorem supp_nd (w : List Int) : (supp w).Nodup := List.Pairwise.sublist List.filter_sublist List.nodup_range
theorem supp_mem {w : List Int} {j : Nat} : j ∈ supp w ↔ j < w.length ∧ 0 < w.getD j 0 := by
  unfold supp
  rw [List.mem_filter, List.mem_range, decide_eq_true_eq]
theorem supp_len {n : Nat} {w : List Int} (hn : w.length = n) : ((supp w).length : Int) = cnt n (fun i => decide (0 < w.getD i 0)) := by
  unfold cnt
  rw [sm_list (supp w) (fun i => if decide (0 < w.getD i 0) = true then 1 else 0) (supp_nd w) (fun j hj => by rw [← hn]; exact (supp_mem.mp hj).1) fun j hj hm => by
    (try dsimp only)
    rw [if_neg]
    intro z
    exact hm (supp_mem.mpr ⟨by omega, of_decide_eq_true z⟩)]
  have e : sm (supp w).length (fun k => if decide (0 < w.getD ((supp w).getD k 0) 0) = true then (1 : Int) else 0) = sm (supp w).length (fun _ => 1) := sm_congr fun k hk => by
    rw [if_pos]
    rw [getD_get hk]
    exact decide_eq_true (supp_mem.mp (List.getElem_mem hk)).2
  rw [e]
  generalize (supp w).length = m
  induction m with
  | zero => rfl
  | succ m ih => rw [sm_succ, ← ih]; omega
/-- COMPLETE: the search accepts the support of the lottery, with all signs alike -/
theorem complete {n : Nat} {a : Nat → Nat → Int} (T : Tab n a) {p : List Int} (hp : IsLot n a p) : (supp p).length % 2 = 1 ∧ ((∀ x ∈ lev a (supp p), 0 < x) ∨ (∀ x ∈ lev a (supp p), x < 0)) ∧ whole n (supp p) (lev a (supp p)) = p := by
  have nd := supp_nd p
  have hlt : ∀ j ∈ supp p, j < n := fun j hj => by rw [← hp.len]; exact (supp_mem.mp hj).1
  have hc := supp_odd T hp.bald
  have ho : (supp p).length % 2 = 1 := by
    have := supp_len hp.len
    (try dsimp only at hc)
    omega
  let M := supp p
  let x : Nat → Int := fun j => if j ∈ M then (lev a M).getD (M.idxOf j) 0 else 0
  have xk : ∀ k, k < M.length → x (M.getD k 0) = (lev a M).getD k 0 := fun k hk => by
    have e : M.getD k 0 = M[k] := getD_get hk
    show (if M.getD k 0 ∈ M then (lev a M).getD (M.idxOf (M.getD k 0)) 0 else 0) = _
    rw [e, if_pos (List.getElem_mem hk), nd_idx nd hk]
  have hk : ∀ i, i < n → decide (0 < p.getD i 0) = true → sm n (fun j => x j * a i j) = 0 := fun i hi hpi => by
    have hm : i ∈ M := supp_mem.mpr ⟨by rw [hp.len]; exact hi, of_decide_eq_true hpi⟩
    rw [sm_list M _ nd hlt fun j _ hn => by
      show (if j ∈ M then (lev a M).getD (M.idxOf j) 0 else 0) * a i j = 0
      rw [if_neg hn]; simp]
    rw [← lev_kernel hm (T.dg i hi) fun c hc => T.sk i c hi (hlt c hc)]
    exact sm_congr fun k hk => by rw [xk k hk]
  have pk : ∀ i, i < n → decide (0 < p.getD i 0) = true → sm n (fun j => p.getD j 0 * a i j) = 0 := fun i hi h => cross T hp.bald hp.bald i hi (of_decide_eq_true h)
  have pr := odd_ker T hc (x := fun j => p.getD j 0) (y := x) (fun i hi h => by
      have h1 := hp.bald.nn i hi
      have h2 := of_decide_eq_false h
      (try dsimp only at h1)
      (try dsimp only)
      omega) (fun i hi h => by
      show (if i ∈ M then _ else (0 : Int)) = 0
      rw [if_neg]
      intro z
      exact of_decide_eq_false h (supp_mem.mp z).2) pk hk
  have h0 : 0 < M.length := by show 0 < (supp p).length; omega
  have sg : ∀ k, k < M.length → ∀ l, l < M.length → 0 < (lev a M).getD k 0 → 0 < (lev a M).getD l 0 := fun k hk l hl h => by
    have mk : M.getD k 0 ∈ M := by rw [getD_get hk]; exact List.getElem_mem hk
    have ml : M.getD l 0 ∈ M := by rw [getD_get hl]; exact List.getElem_mem hl
    have q := pr (M.getD k 0) (M.getD l 0) (hlt _ mk) (hlt _ ml)
    rw [xk k hk, xk l hl] at q
    have q1 := (supp_mem.mp mk).2
    have q2 := (supp_mem.mp ml).2
    have q3 := Int.mul_pos h q2
    (try dsimp only at q)
    rw [← q] at q3
    rcases Int.lt_trichotomy ((lev a M).getD l 0) 0 with z | z | z
    · have := Int.mul_neg_of_pos_of_neg q1 z
      omega
    · rw [z] at q3; simp at q3
    · exact z
  have od : ∀ k, k < M.length → (lev a M).getD k 0 % 2 = 1 := fun k hk => lev_odd T nd hlt ho hk
  refine ⟨ho, ?_, ?_⟩
  · by_cases z : 0 < (lev a M).getD 0 0
    · left
      intro y hy
      obtain ⟨k, hk, rfl⟩ := mem_getD hy
      exact sg 0 h0 k (by rw [lev_len] at hk; exact hk) z
    · right
      intro y hy
      obtain ⟨k, hk, rfl⟩ := mem_getD hy
      have hk' : k < M.length := by rw [lev_len] at hk; exact hk
      have q1 := od k hk'
      have q2 : ¬ 0 < (lev a M).getD k 0 := fun h => z (sg k hk' 0 h0 h)
      show (lev a M).getD k 0 < 0
      omega
  · have g0 : (lev a M).getD 0 0 ∈ lev a M := getD_mem (by rw [lev_len]; exact h0)
    have gne : (lev a M).getD 0 0 ≠ 0 := by have := od 0 h0; omega
    refine prop_eq (n := n) (whole_len _ _ _) hp.len (fun y hy => ?_) hp.nn (whole_gc nd hlt (lev_len a M).symm g0 gne) hp.gc fun i j hi hj => ?_
    · rcases whole_cases nd hlt (lev_len a M).symm hy with rfl | h
      · omega
      · obtain ⟨y, _, rfl⟩ := List.mem_map.mp h
        exact Int.natCast_nonneg _
    · have gp := gL_pos g0 gne
      -- each weight is |x| / g
      have wx : ∀ j, j < n → (((gL (lev a M) : Nat) : Int)) * (whole n M (lev a M)).getD j 0 = ((x j).natAbs : Int) := fun j hj => by
        by_cases q : j ∈ M
        · obtain ⟨k, hk, rfl⟩ := List.mem_iff_getElem.mp q
          have e := whole_at nd hlt (lev_len a M).symm hk
          have e' := xk k hk
          rw [getD_get hk] at e e'
          rw [e, e', ← Int.natCast_mul, Nat.mul_div_cancel' (gL_dvd (getD_mem (by rw [lev_len]; exact hk)))]
        · rw [whole_no q]
          have : x j = 0 := if_neg q
          rw [this]; simp
      have q := pr i j hi hj
      (try dsimp only at q)
      have qa : ((x i).natAbs : Int) * p.getD j 0 = p.getD i 0 * ((x j).natAbs : Int) := by
        have h1 := congrArg Int.natAbs q
        rw [Int.natAbs_mul, Int.natAbs_mul] at h1
        have p1 := hp.bald.nn i hi
        have p2 := hp.bald.nn j hj
        (try dsimp only at p1 p2)
        have e1 : ((p.getD i 0).natAbs : Int) = p.getD i 0 := by omega
        have e2 : ((p.getD j 0).natAbs : Int) = p.getD j 0 := by omega
        rw [← e1, ← e2, ← Int.natCast_mul, ← Int.natCast_mul]
        omega
      rw [← wx i hi, ← wx j hj] at qa
      have gi : (0 : Int) < ((gL (lev a M) : Nat) : Int) := by omega
      refine Int.eq_of_mul_eq_mul_left (a := ((gL (lev a M) : Nat) : Int)) (by omega) ?_
      show _ * ((whole n M (lev a M)).getD i 0 * p.getD j 0) = _ * (p.getD i 0 * (whole n M (lev a M)).getD j 0)
      grind
/-- weights without a common divisor -/
theorem exist_lot {n : Nat} {a : Nat → Nat → Int} (hn : 0 < n) (T : Tab n a) : ∃ w, IsLot n a w := by
  obtain ⟨p, p0, ⟨m, hm, pm⟩, hb⟩ := exist_bal hn T.sk
  let v : List Int := (List.range n).map p
  have vl : v.length = n := by show ((List.range n).map p).length = n; rw [List.length_map, List.length_range]
  have vg : ∀ j, j < n → v.getD j 0 = p j := fun j hj => by
    rw [getD_get (by rw [vl]; exact hj)]
    show ((List.range n).map p)[j]'_ = p j
    rw [List.getElem_map, List.getElem_range]
  have vm : p m ∈ v := List.mem_map.mpr ⟨m, List.mem_range.mpr hm, rfl⟩
  have nd : (List.range n).Nodup := List.nodup_range
  have hlt : ∀ j ∈ List.range n, j < n := fun j hj => List.mem_range.mp hj
  have el : (List.range n).length = v.length := by rw [vl, List.length_range]
  have g0 := gL_pos vm (by omega)
  have wg : ∀ j, j < n → ((gL v : Nat) : Int) * (whole n (List.range n) v).getD j 0 = p j := fun j hj => by
    have e := whole_at nd hlt el (k := j) (by rw [List.length_range]; exact hj)
    have e' : (List.range n).getD j 0 = j := by rw [getD_get (by rw [List.length_range]; exact hj), List.getElem_range]
    rw [e', vg j hj] at e
    rw [e, ← Int.natCast_mul, Nat.mul_div_cancel' (gL_dvd (List.mem_map.mpr ⟨j, List.mem_range.mpr hj, rfl⟩))]
    have := p0 j
    omega
  refine ⟨whole n (List.range n) v, whole_len _ _ _, fun y hy => ?_, whole_gc nd hlt el vm (by omega), fun i hi => ?_⟩
  · rcases whole_cases nd hlt el hy with rfl | h
    · omega
    · obtain ⟨y, _, rfl⟩ := List.mem_map.mp h
      exact Int.natCast_nonneg _
  · have h1 := hb i hi
    have e : bal n a p i = ((gL v : Nat) : Int) * bal n a (fun j => (whole n (List.range n) v).getD j 0) i := by
      unfold bal
      rw [← sm_mul]
      exact sm_congr fun j hj => by
        have := wg j hj
        (try dsimp only)
        rw [← this]; grind
    rw [e] at h1
    have gi : (0 : Int) < ((gL v : Nat) : Int) := by omega
    rcases Int.lt_trichotomy (bal n a (fun j => (whole n (List.range n) v).getD j 0) i) 0 with z | z | z
    · omega
    · omega
    · have := Int.mul_pos gi z
      omega
end Duel
end
section
set_option autoImplicit false
namespace Duel
/-! the laws: other tables -/
theorem tab_re {n : Nat} {a : Nat → Nat → Int} (T : Tab n a) {s : List Nat} (nd : s.Nodup) (hlt : ∀ j ∈ s, j < n) : Tab s.length (fun i j => a (s.getD i 0) (s.getD j 0)) := by
  have m : ∀ i, i < s.length → s.getD i 0 < n := fun i hi => hlt _ (by rw [getD_get hi]; exact List.getElem_mem hi)
  refine ⟨fun i hi => T.dg _ (m i hi), fun i j hi hj => T.sk _ _ (m i hi) (m j hj), fun i j hi hj ne => T.pm _ _ (m i hi) (m j hj) fun e => ne ?_⟩
  rw [getD_get hi, getD_get hj] at e
  exact nd_inj nd hi hj e
/-- some alternatives in some order, the support among them -/
theorem lot_re {n : Nat} {a : Nat → Nat → Int} {w : List Int} (h : IsLot n a w) {s : List Nat} (nd : s.Nodup) (hlt : ∀ j ∈ s, j < n) (hs : ∀ j, j < n → 0 < w.getD j 0 → j ∈ s) :
    IsLot s.length (fun i j => a (s.getD i 0) (s.getD j 0)) (s.map fun j => w.getD j 0) := by
  have z : ∀ j, j < n → j ∉ s → w.getD j 0 = 0 := fun j hj hn => by
    have h1 := h.bald.nn j hj
    have h2 : ¬ 0 < w.getD j 0 := fun q => hn (hs j hj q)
    (try dsimp only at h1)
    omega
  refine ⟨List.length_map _, fun x hx => ?_, ?_, fun i hi => ?_⟩
  · obtain ⟨j, hj, rfl⟩ := List.mem_map.mp hx
    exact h.bald.nn j (hlt j hj)
  · rw [← h.gc]
    refine gL_eq (fun x hx => ?_) fun x hx => ?_
    · obtain ⟨j, hj, rfl⟩ := List.mem_map.mp hx
      exact .inr (getD_mem (by rw [h.len]; exact hlt j hj))
    · obtain ⟨j, hj, rfl⟩ := mem_getD hx
      by_cases q : j ∈ s
      · exact .inr (List.mem_map.mpr ⟨j, q, rfl⟩)
      · exact .inl (z j (by rw [← h.len]; exact hj) q)
  · have hm : s.getD i 0 < n := hlt _ (by rw [getD_get hi]; exact List.getElem_mem hi)
    have e : bal s.length (fun i j => a (s.getD i 0) (s.getD j 0)) (fun j => (s.map fun j => w.getD j 0).getD j 0) i = bal n a (fun j => w.getD j 0) (s.getD i 0) := by
      unfold bal
      rw [sm_list (n := n) s (fun j => w.getD j 0 * a (s.getD i 0) j) nd hlt fun j hj hn => by
        (try dsimp only)
        rw [z j hj hn]; simp]
      refine sm_congr fun k hk => ?_
      have : (s.map fun j => w.getD j 0).getD k 0 = w.getD (s.getD k 0) 0 := by
        rw [getD_get (by rw [List.length_map]; exact hk), List.getElem_map, getD_get hk]
      (try dsimp only)
      rw [this]
    rw [e]
    exact h.bl _ hm
/-- one more, which loses to all -/
def wider (n : Nat) (a : Nat → Nat → Int) : Nat → Nat → Int := fun i j => if i < n then (if j < n then a i j else 1) else (if j < n then -1 else 0)
theorem tab_wider {n : Nat} {a : Nat → Nat → Int} (T : Tab n a) : Tab (n + 1) (wider n a) := by
  refine ⟨fun i hi => ?_, fun i j hi hj => ?_, fun i j hi hj ne => ?_⟩
  · unfold wider
    by_cases q : i < n
    · rw [if_pos q, if_pos q]; exact T.dg i q
    · rw [if_neg q, if_neg q]
  · unfold wider
    by_cases q : i < n <;> by_cases r : j < n
    · rw [if_pos q, if_pos r, if_pos r, if_pos q]; exact T.sk i j q r
    · rw [if_pos q, if_neg r, if_neg r, if_pos q]; rfl
    · rw [if_neg q, if_pos r, if_pos r, if_neg q]
    · rw [if_neg q, if_neg r, if_neg r, if_neg q]; rfl
  · unfold wider
    by_cases q : i < n <;> by_cases r : j < n
    · rw [if_pos q, if_pos r]; exact T.pm i j q r ne
    · rw [if_pos q, if_neg r]; exact .inl rfl
    · rw [if_neg q, if_pos r]; exact .inr rfl
    · omega
theorem lot_wider {n : Nat} {a : Nat → Nat → Int} {w : List Int} (h : IsLot n a w) : IsLot (n + 1) (wider n a) (w ++ [0]) := by
  have g1 : ∀ j, j < n → (w ++ [0]).getD j 0 = w.getD j 0 := fun j hj => by
    rw [List.getD_eq_getElem?_getD, List.getElem?_append_left (by rw [h.len]; exact hj), ← List.getD_eq_getElem?_getD]
  have g2 : (w ++ [0]).getD n 0 = 0 := by
    rw [List.getD_eq_getElem?_getD, List.getElem?_append_right (by rw [h.len]; exact Nat.le_refl _), h.len, Nat.sub_self]; rfl
  refine ⟨by rw [List.length_append, h.len]; rfl, fun x hx => ?_, ?_, fun i hi => ?_⟩
  · rcases List.mem_append.mp hx with hx | hx
    · exact h.nn x hx
    · rw [List.mem_singleton] at hx; omega
  · rw [← h.gc]
    refine gL_eq (fun x hx => ?_) fun x hx => .inr (List.mem_append_left _ hx)
    rcases List.mem_append.mp hx with hx | hx
    · exact .inr hx
    · rw [List.mem_singleton] at hx; exact .inl hx
  · unfold bal
    rw [sm_succ]
    (try dsimp only)
    rw [g2]
    by_cases q : i < n
    · have e : sm n (fun j => (w ++ [0]).getD j 0 * wider n a i j) = bal n a (fun j => w.getD j 0) i := sm_congr fun j hj => by
        rw [g1 j hj]
        unfold wider
        rw [if_pos q, if_pos hj]
      rw [e]
      have := h.bl i q
      omega
    · have e : sm n (fun j => (w ++ [0]).getD j 0 * wider n a i j) ≤ 0 := sm_nonpos fun j hj => by
        rw [g1 j hj]
        unfold wider
        rw [if_neg q, if_pos hj]
        have := h.bald.nn j hj
        (try dsimp only at this)
        omega
      omega
/-- the duel of x and y turned: as the program writes it -/
def turned (a : Nat → Nat → Int) (x y : Nat) : Nat → Nat → Int := fun i j => if i = x ∧ j = y then a y x else if i = y ∧ j = x then a x y else a i j
theorem tab_turned {n : Nat} {a : Nat → Nat → Int} (T : Tab n a) {x y : Nat} (hx : x < n) (hy : y < n) (ne : x ≠ y) : Tab n (turned a x y) := by
  refine ⟨fun i hi => ?_, fun i j hi hj => ?_, fun i j hi hj nij => ?_⟩
  · unfold turned
    rw [if_neg (by omega), if_neg (by omega)]; exact T.dg i hi
  · unfold turned
    by_cases q : i = x ∧ j = y
    · obtain ⟨rfl, rfl⟩ := q
      rw [if_pos ⟨rfl, rfl⟩, if_neg (by omega), if_pos ⟨rfl, rfl⟩]; exact T.sk _ _ hy hx
    · by_cases r : i = y ∧ j = x
      · obtain ⟨rfl, rfl⟩ := r
        rw [if_neg q, if_pos ⟨rfl, rfl⟩, if_pos ⟨rfl, rfl⟩]; exact T.sk _ _ hx hy
      · rw [if_neg q, if_neg r, if_neg (by omega), if_neg (by omega)]; exact T.sk i j hi hj
  · unfold turned
    by_cases q : i = x ∧ j = y
    · rw [if_pos q]; exact T.pm _ _ hy hx (fun e => ne e.symm)
    · by_cases r : i = y ∧ j = x
      · rw [if_neg q, if_pos r]; exact T.pm _ _ hx hy ne
      · rw [if_neg q, if_neg r]; exact T.pm i j hi hj nij
/-- an alternative of the support stays in it if a duel that it loses is turned -/
theorem stays {n : Nat} {a : Nat → Nat → Int} (T : Tab n a) {w v : List Int} (hw : IsLot n a w) {x y : Nat} (hx : x < n) (hy : y < n) (l : a x y = -1) (hs : 0 < w.getD x 0) (hv : IsLot n (turned a x y) v) : 0 < v.getD x 0 := by
  have ne : x ≠ y := fun e => by subst e; rw [T.dg x hx] at l; omega
  refine Classical.byContradiction fun z => ?_
  have v0 := hv.bald.nn x hx
  (try dsimp only at v0)
  have vx : v.getD x 0 = 0 := by omega
  have lw : IsLot n a v := by
    refine ⟨hv.len, hv.nn, hv.gc, fun i hi => ?_⟩
    have h1 := hv.bl i hi
    refine Int.le_trans ?_ h1
    unfold bal
    refine sm_le fun j hj => ?_
    have vj := hv.bald.nn j hj
    (try dsimp only at vj)
    (try dsimp only)
    unfold turned
    by_cases q : i = x ∧ j = y
    · obtain ⟨rfl, rfl⟩ := q
      rw [if_pos ⟨rfl, rfl⟩, T.sk j i hj hi, l]
      omega
    · by_cases r : i = y ∧ j = x
      · obtain ⟨rfl, rfl⟩ := r
        rw [vx]; simp
      · rw [if_neg q, if_neg r]; exact Int.le_refl _
  have e := IsLot.uniq T lw hw
  rw [e] at vx
  omega
end Duel
end
section
namespace Duel
/-! a bound of the pairing numbers -/
theorem alt_bound : ∀ (l : List Nat) (F : Nat → List Nat → Int) (B : Nat), (∀ y r, (y :: r).Perm l → (F y r).natAbs ≤ B) → (alt l F).natAbs ≤ l.length * B
  | [], F, B, _ => by show (0 : Int).natAbs ≤ _; simp
  | x :: l, F, B, h => by
    show (F x l - alt l (fun y r => F y (x :: r))).natAbs ≤ (l.length + 1) * B
    have h1 := h x l (List.Perm.refl _)
    have h2 := alt_bound l (fun y r => F y (x :: r)) B fun y r p => h y (x :: r) ((List.Perm.swap x y r).trans (List.Perm.cons x p))
    rw [Nat.add_mul]
    omega
theorem pf_bound {a : Nat → Nat → Int} : ∀ (k : Nat) (l : List Nat), l.length ≤ 9 → (∀ i ∈ l, ∀ j ∈ l, (a i j).natAbs ≤ 1) → (pf a k l).natAbs ≤ 9 ^ k
  | 0, [], _, _ => by show (1 : Int).natAbs ≤ _; decide
  | 0, _ :: _, _, _ => by show (0 : Int).natAbs ≤ _; decide
  | _ + 1, [], _, _ => by show (0 : Int).natAbs ≤ _; simp
  | k + 1, x :: l, hl, h => by
    show (alt l (fun y r => a x y * pf a k r)).natAbs ≤ _
    have h1 := alt_bound l (fun y r => a x y * pf a k r) (9 ^ k) fun y r p => by
      have hy : y ∈ l := p.subset List.mem_cons_self
      have hr : ∀ i ∈ r, i ∈ l := fun i hi => p.subset (List.mem_cons_of_mem _ hi)
      have e1 := h x List.mem_cons_self y (List.mem_cons_of_mem _ hy)
      have el : r.length + 1 = l.length := p.length_eq
      have hl' : l.length + 1 ≤ 9 := hl
      have e2 := pf_bound k r (by omega) fun i hi j hj => h i (List.mem_cons_of_mem _ (hr i hi)) j (List.mem_cons_of_mem _ (hr j hj))
      rw [Int.natAbs_mul]
      calc _ ≤ 1 * 9 ^ k := Nat.mul_le_mul e1 e2
        _ = 9 ^ k := Nat.one_mul _
    have hl' : l.length + 1 ≤ 9 := hl
    calc _ ≤ l.length * 9 ^ k := h1
      _ ≤ 9 * 9 ^ k := Nat.mul_le_mul_right _ (by omega)
      _ = 9 ^ (k + 1) := by rw [Nat.pow_succ, Nat.mul_comm]
theorem gL_le {v : List Int} {x : Int} (h : x ∈ v) (h0 : x ≠ 0) : gL v ≤ x.natAbs := Nat.le_of_dvd (by omega) (gL_dvd h)
theorem lev_gL {n : Nat} {a : Nat → Nat → Int} (T : Tab n a) (hn : n ≤ 9) {M : List Nat} (nd : M.Nodup) (hlt : ∀ j ∈ M, j < n) (h9 : M.length ≤ 9) (ho : M.length % 2 = 1) : 0 < gL (lev a M) ∧ gL (lev a M) < 1073741824 := by
  have hk : 0 < M.length := by omega
  have hx : (lev a M).getD 0 0 ∈ lev a M := getD_mem (by rw [lev_len]; exact hk)
  have h1 := lev_odd T nd hlt ho hk
  have h0 : (lev a M).getD 0 0 ≠ 0 := fun z => by rw [z] at h1; revert h1; decide
  refine ⟨gL_pos hx h0, Nat.lt_of_le_of_lt (gL_le hx h0) ?_⟩
  rw [lev_get a M hk, Int.natAbs_mul]
  have hb := pf_bound (a := a) ((M.length - 1) / 2) (M.eraseIdx 0) (Nat.le_trans (List.length_eraseIdx_le M 0) h9) fun i hi j hj => by
    have hi' := hlt i ((List.eraseIdx_sublist M 0).subset hi)
    have hj' := hlt j ((List.eraseIdx_sublist M 0).subset hj)
    by_cases e : i = j
    · subst e; rw [T.dg i hi']; decide
    · rcases T.pm i j hi' hj' e with h | h <;> rw [h] <;> decide
  have hp : (9 : Nat) ^ ((M.length - 1) / 2) ≤ 9 ^ 4 := Nat.pow_le_pow_right (by decide) (by omega)
  have hs : (sgn 0).natAbs = 1 := by decide
  rw [hs, Nat.one_mul]
  have : (9 : Nat) ^ 4 = 6561 := by decide
  omega
end Duel
end
section
namespace Duel
/-! a bound of the weights; the laws' lists -/
theorem lot_bound {n : Nat} {a : Nat → Nat → Int} (T : Tab n a) (hn : n ≤ 9) {w : List Int} (hw : IsLot n a w) : ∀ x ∈ w, x ≤ 6561 := by
  intro x hx
  have c := complete T hw
  have nd := supp_nd w
  have hlt : ∀ j ∈ supp w, j < n := fun j hj => by rw [← hw.len]; exact (supp_mem.mp hj).1
  have h9 : (supp w).length ≤ 9 := by
    have : (supp w).length ≤ (List.range w.length).length := List.length_filter_le _ _
    rw [List.length_range, hw.len] at this
    omega
  rw [← c.2.2] at hx
  rcases whole_cases nd hlt (lev_len a _).symm hx with h | h
  · omega
  · obtain ⟨y, hy, rfl⟩ := List.mem_map.mp h
    obtain ⟨k, hk, rfl⟩ := mem_getD hy
    rw [lev_len] at hk
    rw [lev_get a _ hk, Int.natAbs_mul]
    have hb := pf_bound (a := a) (((supp w).length - 1) / 2) ((supp w).eraseIdx k) (Nat.le_trans (List.length_eraseIdx_le _ k) h9) fun i hi j hj => by
      have hi' := hlt i ((List.eraseIdx_sublist _ k).subset hi)
      have hj' := hlt j ((List.eraseIdx_sublist _ k).subset hj)
      by_cases e : i = j
      · subst e; rw [T.dg i hi']; decide
      · rcases T.pm i j hi' hj' e with h | h <;> rw [h] <;> decide
    have hp : (9 : Nat) ^ (((supp w).length - 1) / 2) ≤ 9 ^ 4 := Nat.pow_le_pow_right (by decide) (by omega)
    have hs : (sgn k).natAbs = 1 := by unfold sgn; split <;> decide
    rw [hs, Nat.one_mul]
    have h1 := Nat.div_le_self (pf a (((supp w).length - 1) / 2) ((supp w).eraseIdx k)).natAbs (gL (lev a (supp w)))
    have : (9 : Nat) ^ 4 = 6561 := by decide
    omega
/-- taking the positive ones of a list is taking them at the support -/
theorem supp_vals (w : List Int) : (supp w).map (fun j => w.getD j 0) = w.filter fun x => decide (0 < x) := by
  unfold supp
  have h : w = (List.range w.length).map fun j => w.getD j 0 := by
    apply List.ext_getElem
    · simp
    · intro i h1 h2
      rw [List.getElem_map, List.getElem_range, getD_get h1]
  conv => rhs; rw [h, List.filter_map]
  rfl
theorem erase_vals (w : List Int) {x : Nat} (hx : x < w.length) : ((List.range w.length).filter fun k => decide (k ≠ x)).map (fun j => w.getD j 0) = w.take x ++ w.drop (x + 1) := by
  have hf : ((List.range w.length).filter fun k => decide (k ≠ x)) = (List.range w.length).eraseIdx x := by
    have e : (List.range w.length).eraseIdx x = (List.range w.length).erase x := by
      have := List.erase_eq_eraseIdx_of_idxOf (l := List.range w.length) (a := x) (i := x) (by
        have h := nd_idx (l := List.range w.length) List.nodup_range (k := x) (by rw [List.length_range]; exact hx)
        rw [List.getElem_range] at h
        exact h)
      exact this.symm
    rw [e, List.Nodup.erase_eq_filter List.nodup_range]
    refine List.filter_congr fun k _ => ?_
    by_cases h : k = x <;> simp [h]
  rw [hf, List.eraseIdx_eq_take_drop_succ, List.map_append, List.map_take, List.map_drop]
  have h : (List.range w.length).map (fun j => w.getD j 0) = w := by
    apply List.ext_getElem
    · simp
    · intro i h1 h2
      rw [List.getElem_map, List.getElem_range, getD_get h2]
  rw [h]
end Duel
end
section
namespace Du
open PySem PySem.Spec PyProof.Rows L2
/-! ### max of a tuple of ints -/
section
variable {prog : Program} {w : World} {A : Around} {E : Value → Shared → Prop} {s : Shared}
theorem max_tup {t : Addr} {its : List Value} {ns : List Int} {Q : Value → Shared → Prop} (hh : A.handled = none) (ht : s.heap.IsTuple t its.toArray) (hi : IntsAre its ns) (hne : 0 < ns.length)
    (h : ∀ h' tk M t', (∀ b o, s.heap.get? b = some o → h'.get? b = some o) → M ∈ ns → (∀ a, a ∈ ns → a ≤ M) → Q (.int M t') { s with heap := h', toks := tk }) : wpAny (model prog w) A (call (.builtin "max") [.ref t]) Q E s := by
  obtain ⟨xs, e⟩ := hi.allInts.items
  have hn : numsOf (intItems xs).toList = ns := by rw [← e]; exact hi.numsOf
  rw [nums_intItems] at hn
  subst hn
  rw [e] at ht
  have hsz : 0 < xs.size := by simpa using hne
  have hlt : t < s.heap.objs.size := by obtain ⟨_, e, _⟩ := ht; exact Heap.lt_size e
  refine call_max_walk (wpAny_pyIter_tuple ht ⟨_, _, _, _, _, _, _, rfl, Walks.tuple (A := A.in1) hh s.heap.objs.size t (Nat.ne_of_lt hlt) (intItems xs), ⟨⟨_, Heap.get?_push_size _ rfl, rfl, rfl⟩, Heap.IsTuple.push ht _⟩, fun b hb => ?_, by simpa [intItems] using hsz, CmpOf.ints_gt (numAt xs) (fun _ _ => intItems_at), fun v h' tk hP hk => ?_⟩)
  · show b < (s.heap.push _).objs.size
    rw [Heap.size_push]
    rcases List.mem_cons.mp hb with rfl | hb
    · exact Nat.lt_succ_self _
    · rcases List.mem_cons.mp hb with rfl | hb
      · exact Nat.lt_succ_of_lt hlt
      · cases hb
  · have hP' : (intItems xs)[argBest (fun i j => decide (numAt xs i > numAt xs j)) (xs.size - 1)]? = some v := by simpa [intItems] using hP
    obtain ⟨t', rfl⟩ := intItems_at hP'
    obtain ⟨h1, h2⟩ := argBest_gt (numAt xs) (xs.size - 1)
    refine h h' tk _ t' (fun b o q => hk b o (fun hm => ?_) (Heap.get?_push_of_some _ q)) ?_ fun a ha => ?_
    · have z := List.mem_singleton.mp hm
      subst z
      exact absurd (Heap.lt_size q) (Nat.lt_irrefl _)
    · rw [numAt_eq]; exact PySem.getD_mem (by rw [List.length_map, Array.length_toList]; omega)
    · obtain ⟨j, hj, rfl⟩ := mem_getD ha
      rw [List.length_map, Array.length_toList] at hj
      rw [← numAt_eq]; exact h2 j (by omega)
end
section
variable {X : Cx}
def rMaxT (K : PySem.W.Frag) : List V → Hp → VK → Prop := fun vs H Q => ∃ (a : Addr) (ns : List Int), vs = [V.ref a] ∧ SqT K H a (ns.map V.int) ∧ 0 < ns.length ∧ ∀ m, m ∈ ns → (∀ y, y ∈ ns → y ≤ m) → Q (.int m) H
theorem cr_maxT (hc : X.calm = true) : CallR X (.builtin "max") (rMaxT X.K) := by
  intro pins s σ H vs us Q I r h
  obtain ⟨a, ns, rfl, hs, hne, q⟩ := h
  obtain ⟨its, rv, hl, _⟩ := I.tuple hs
  rw [Vals.ref1 r]
  exact max_tup (I.ok.hd hc) (show s.heap.IsTuple a its.toArray from hl) rv.ints hne fun h' tk m t' hk h1 h2 => ⟨.int _, H, I.kept hk, ⟨_, rfl⟩, q m h1 h2⟩
/-! ### repr of a bool -/
theorem call_repr_bool : CallR X (.builtin "repr") (fun xs H Q => ∃ b, xs = [.bl b] ∧ Q (.str (if b then "True" else "False")) H) := by
  intro pins s σ H xs us Q I r h
  obtain ⟨b, rfl, q⟩ := h
  obtain ⟨u, rfl, e⟩ := vals1 r
  obtain rfl : u = Value.bool b := e
  exact PySem.P.repr_of_bool ⟨.str _, H, I.tok _, ⟨_, rfl⟩, q⟩
/-! ### a text repeated -/
def repS (z : Str) (n : Nat) : Str := ⟨(List.replicate n z.cps.toList).flatten.toArray⟩
theorem foldl_arr (c : Array Nat) : ∀ (n : Nat) (acc : Array Nat), (List.replicate n c).foldl (· ++ ·) acc = acc ++ (List.replicate n c.toList).flatten.toArray
  | 0, acc => by simp
  | n + 1, acc => by
    rw [List.replicate_succ, List.foldl_cons, foldl_arr c n, List.replicate_succ, List.flatten_cons]
    apply Array.ext'
    simp
theorem op_mulS : OpR X (binaryOp .Mult) (fun x y H Q => ∃ z n, x = .str z ∧ y = .int n ∧ z.length = 1 ∧ 1 ≤ n ∧ n ≤ 1000 ∧ Q (.str (repS z n.toNat)) H) := by
  intro pins s σ H x y v u Q I rx ry h
  obtain ⟨z, n, rfl, rfl, hz, h1, h2, q⟩ := h
  obtain ⟨t, rfl⟩ := rx
  obtain ⟨k, rfl⟩ := ry
  have hd : (decide (n < -(2 ^ 63 : Int)) || decide (n ≥ 2 ^ 63)) = false := by
    rw [decide_eq_false (by omega), decide_eq_false (by omega)]; rfl
  refine PySem.P.mul_str hd (fun _ h => ?_) (fun _ h => ?_) ?_
  · rw [hz]
    have : (1 : Int) ≤ (2 ^ 63 - 1) / n := by
      rw [Int.le_ediv_iff_mul_le (by omega)]
      omega
    omega
  · rw [hz]
    unfold Builtin.Str.tooLong
    rw [sizeLine_eq]
    exact decide_eq_false (by omega)
  · rw [if_neg (show ¬ n < 1 by omega)]
    split
    · rename_i e
      have hn : n = 1 := by
        rw [Bool.or_eq_true] at e
        rcases e with e | e
        · simpa using e
        · rw [hz] at e
          exact absurd e (by decide)
      subst hn
      have e2 : repS z (1 : Int).toNat = z := by
        unfold repS
        show (⟨(List.replicate 1 z.cps.toList).flatten.toArray⟩ : Str) = z
        simp
      rw [e2] at q
      exact ⟨.str z, H, I, ⟨_, rfl⟩, q⟩
    · have e2 : repS z n.toNat = ⟨(List.replicate n.toNat z.cps).foldl (· ++ ·) #[]⟩ := by
        unfold repS
        rw [foldl_arr]
        simp
      rw [e2] at q
      refine ⟨?_, .str _, H, I.tok _, ⟨_, rfl⟩, q⟩
      show (List.foldl (· ++ ·) #[] (List.replicate n.toNat z.cps)).size ≤ _
      rw [foldl_arr]
      have hz' : z.cps.toList.length = 1 := by rw [Array.length_toList]; exact hz
      simp [List.length_flatten, hz', List.sum_replicate_nat]
      rw [sizeLine_eq]
      omega
end
end Du
end
section
namespace Du
open PySem PySem.Spec PyProof.Rows L2
/-! ### enumerate of a tuple -/
def IteT (K : PySem.W.Frag) (a : Addr) : It :=
  ⟨fun i H => ∃ (xs : List V) (x : V), SqT K H a xs ∧ xs[i]? = some x, fun i H v H' => ∃ T x, v = .ref T ∧ H T = none ∧ H' = upd H T (.tup [.int (i : Nat), x]) ∧ ∀ xs, SqT K H a xs → xs[i]? = some x, fun i H => ∃ xs : List V, SqT K H a xs ∧ i = xs.length⟩
theorem turn_enumT {P : Program} {w : World} {K : PySem.W.Frag} {elts : List Expr} {kk : Nat} {tpos : Pos} (a e it : Addr) (hai : a ≠ it) (hae : a ≠ e) :
    Turn P w K (.Tuple elts kk tpos) (IteT K a) [e, it] e (fun i h => (∃ old, IsEnum h e it ((0 : Int) + ((i : Nat) : Int)) old) ∧ h.IsTupleIter it a i ∧ e ≠ it) where
  mem := by simp
  obj := fun i h st b hb => by
    obtain ⟨⟨old, he⟩, ⟨o, ho, hc, hd⟩, _⟩ := st
    have e' : b = e ∨ b = it := by simpa using hb
    rcases e' with z | z
    · rw [z]; exact ⟨_, he, fun v q => nomatch q⟩
    · rw [z]; exact ⟨o, ho, fun v q => by rw [hd] at q; cases q⟩
  keep := fun i h h' st k => let ⟨⟨old, he⟩, hi, hne⟩ := st; ⟨⟨old, k e (by simp) _ he⟩, hi.at fun o q => k it (by simp) o q, hne⟩
  item := by
    intro X hP hw hK hc i pins s σ H E I hf st hg
    subst hP hw hK
    obtain ⟨⟨old, he⟩, hit, hne⟩ := st
    obtain ⟨xs, x, hq, hx⟩ := hg
    obtain ⟨its, rv, p, hz⟩ := I.tuple hq
    obtain ⟨u, hu, ru⟩ := rv.get hx
    have hel : e < s.heap.objs.size := Heap.lt_size he
    have hil : it < s.heap.objs.size := by obtain ⟨_, q, _⟩ := hit; exact Heap.lt_size q
    have hlt : i < its.toArray.size := by
      rw [List.size_toArray]
      exact (List.getElem?_eq_some_iff.mp hu).1
    refine wpAny_pyNext_enum_itemC (Draws.tuple (prog := X.prog) (w := X.w) (A := X.A.in1) (I.ok.hd hc) it a hai its.toArray) he ⟨hit, show s.heap.IsTuple a its.toArray from p⟩ hlt hne (by simp [hne, Ne.symm hae]) fun y h' tk hP ho hst' hT hsz hk => ?_
    have ey : y = u := by
      have h1 : its.toArray[i]? = some y := hP
      have h2 : its.toArray[i]? = some u := by simpa using hu
      exact Option.some.inj (h1.symm.trans h2)
    subst ey
    refine ⟨_, rfl, wpAny_letOwnedTupleGo_enum (s := { s with heap := h', toks := tk + 1 }) ho fun h'' he' sb => ?_⟩
    have hT2 : h''.get? s.heap.objs.size = some { cls := .type "tuple", data := .seq #[.int (0 + (i : Int)) tk, y] } := (sb.2 _ (Nat.ne_of_gt hel)).trans hT
    have e0 : (0 : Int) + ((i : Nat) : Int) = ((i : Nat) : Int) := by omega
    have new : ObjOk X.prog X.w (upd H s.heap.objs.size (.tup [.int (i : Nat), x])) h'' s.heap.objs.size (.tup [.int (i : Nat), x]) :=
      ⟨by show 2 ≤ sizeLine; decide, [.int (0 + (i : Int)) tk, y], .cons ⟨_, by rw [e0]⟩ (.cons ru .nil), ⟨_, hT2, rfl, _, rfl⟩⟩
    have I1 : Inv X pins σ (upd H s.heap.objs.size (.tup [.int (i : Nat), x])) { s with heap := h'', toks := tk + 1 } :=
      I.turnedNew (ch := [e, it]) (fun b ob hb q => (sb.2 b (fun z => hb (by simp [z]))).trans (hk b ob (fun z => hb (by simp [z])) (fun z => hb (by simp [z])) q)) hf (Nat.le_refl _) new
    refine ⟨.ref s.heap.objs.size, _, I1, rfl, ⟨_, x, rfl, I.hok.fresh (Nat.le_refl _), rfl, fun ys hy => by rw [I.tuple_inj hy hq]; exact hx⟩, ⟨⟨y, ?_⟩, hst'.1.at fun o q => (sb.2 it (Ne.symm hne)).trans q, hne⟩, fun b hb => ?_⟩
    · have e1 : (0 : Int) + ((i + 1 : Nat) : Int) = 0 + (i : Int) + 1 := by omega
      rw [e1]; exact he'
    · have hb' : b < s.heap.objs.size := by
        have e' : b = e ∨ b = it := by simpa using hb
        rcases e' with z | z
        · rw [z]; exact hel
        · rw [z]; exact hil
      rw [upd_ne (Nat.ne_of_lt hb')]
      exact (hf b hb).1
  done := by
    intro X hP hw hK hc i pins s σ H E I hf st hg
    subst hP hw hK
    obtain ⟨⟨old, he⟩, hit, hne⟩ := st
    obtain ⟨xs, hq, hx⟩ := hg
    obtain ⟨its, rv, p, hz⟩ := I.tuple hq
    obtain ⟨f0, f1, f2, f3, f4, f5⟩ := hf it (by simp)
    have hl := rv.length
    have hn : i = its.toArray.size := by rw [List.size_toArray, ← hl]; exact hx
    have hit2 : s.heap.IsTupleIter it a its.toArray.size := hn ▸ hit
    exact wpAny_pyNext_enum_endD (Draws.tuple (prog := X.prog) (w := X.w) (A := X.A.in1) (I.ok.hd hc) it a hai its.toArray) he ⟨hit2, show s.heap.IsTuple a its.toArray from p⟩ fun h' eb => ⟨rfl, I.turned (t' := s.toks) (fun b o hb q => eb b o hb q) f0 f1 f3 f4 f5⟩
  self := fun A i s Q E st h => let ⟨⟨_, he⟩, _⟩ := st; wpAny_pyIter_enum he h
def iEnumT (K : PySem.W.Frag) (ta : TA) : TI := fun σ H R => ta σ H fun vs H1 => ∃ a xs, vs = [.ref a] ∧ SqT K H1 a xs ∧ R (IteT K a) H1
set_option maxHeartbeats 1000000 in
theorem meets_enumerate_new1 {v : Value} {o : Obj} {H : Heap → Prop} (B : Begins v o H) :
    Meets (Builtin.«enumerate.__new__» ⟨[.type "enumerate", v], []⟩) (fun _ R s => H s.heap ∧
      R (.ok (.ret (.ref (s.heap.push o).objs.size))) { s with heap := (s.heap.push o).push { cls := .type "enumerate", data := .fields #[.none, .bool false, .ref s.heap.objs.size, rawInt 0, .none, .none] } }) :=
  .of_wp fun prog w A R s h => by
    obtain ⟨hp, g, d, tk, os⟩ := s; obtain ⟨h1, h⟩ := h
    have hsub := sub_enumerate
    have q1 : ∀ {A' : Around} {E : Value → Shared → Prop} {Q : Value → Shared → Prop}, Q (.ref hp.objs.size) ⟨hp.push o, g, d, tk, os⟩ → wpAny (model prog w) A' (pyIter v) Q E ⟨hp, g, d, tk, os⟩ :=
      fun q => B.iter prog w _ _ ⟨hp, g, d, tk, os⟩ _ h1 q
    wp_walk using q1
    refine wpAny_stack_any fun st => wpAny_pure ?_
    split
    · rename_i c _ _ _ _ _
      cases (c == Value.type "enumerate")
      · wp_walk using q1
        exact ⟨_, rfl, h⟩
      · wp_walk using q1
        exact ⟨_, rfl, h⟩
    · wp_walk using q1
      exact ⟨_, rfl, h⟩
theorem call_enumerate1 {prog : Program} {w : World} {A : Around} {E : Value → Shared → Prop} {s : Shared} {t : Addr} {items : Array Value} {Q : Value → Shared → Prop} (ht : s.heap.IsTuple t items)
    (h : ∀ h', IsEnum h' (s.heap.objs.size + 1) s.heap.objs.size 0 .none → h'.IsTupleIter s.heap.objs.size t 0 → (∀ b o, s.heap.get? b = some o → h'.get? b = some o) → Q (.ref (s.heap.objs.size + 1)) { s with heap := h' }) :
    wpAny (model prog w) A (call (.type "enumerate") [.ref t]) Q E s := by
  refine callType_new F.called_enumerate (by decide) (F.typeCall_enumerate_1 _) (F.newCall_enumerate_1 _) (fun obj => F.args_object_init_2 obj _) F.entry_enumerate_new
    (meets_enumerate_new1 (begins_tuple t items)) ⟨ht, ?_⟩
  have hz : (s.heap.push { cls := .type "tuple_iterator", data := .fields #[.ref t, .int 0 0] }).objs.size = s.heap.objs.size + 1 := Heap.size_push ..
  show _ ∧ _
  rw [hz]
  have he : IsEnum ((s.heap.push { cls := .type "tuple_iterator", data := .fields #[.ref t, .int 0 0] }).push
      { cls := .type "enumerate", data := .fields #[.none, .bool false, .ref s.heap.objs.size, rawInt 0, .none, .none] }) (s.heap.objs.size + 1) s.heap.objs.size 0 .none := by
    have := Heap.get?_push_size (s.heap.push { cls := .type "tuple_iterator", data := .fields #[.ref t, .int 0 0] })
      (o := { cls := .type "enumerate", data := .fields #[.none, .bool false, .ref s.heap.objs.size, rawInt 0, .none, .none] }) rfl
    rw [hz] at this; exact this
  exact ⟨⟨_, he, rfl⟩, h _ he ⟨_, Heap.get?_push_of_some _ (Heap.get?_push_size _ rfl), rfl, rfl⟩ fun b o x => Heap.get?_push_of_some _ (Heap.get?_push_of_some _ x)⟩
theorem pi_enumT {X : Cx} {e : Expr} {ta : TA} {p pos tpos : Pos} {elts : List Expr} {kk : Nat} (hg : Gl X "enumerate") (hm : X.mg "enumerate" = none) (ha : PA X [e] ta) (hs : starEach [e] X.env = [(false, eval e X.env)] := by rfl) :
    PI X (.Tuple elts kk tpos) (.Call (.Name "enumerate" p) [e] [] pos) (iEnumT X.K ta) := by
  refine ⟨fun pins s σ H R I h => ?_⟩
  refine Call_ (ld_blt I hg hm boot_enumerate (PyProof.Rows.callWith_type1 (thn (ha.run pos pins s σ H _ I h) fun us s1 ⟨vs, H1, I1, r1, q1⟩ => ?_) hs rfl))
  obtain ⟨a, xs, ex, hq, q⟩ := q1
  subst ex
  cases r1 with
  | cons r rr =>
    cases rr
    cases r
    obtain ⟨its, rv, p', hz⟩ := I1.tuple hq
    have hlt : a < s1.heap.objs.size := p'.lt
    refine call_enumerate1 (show s1.heap.IsTuple a its.toArray from p') fun h' he hit hk => wpAny_pyIter_enum he ?_
    have I2 : Inv X pins σ H1 { s1 with heap := h' } := I1.kept (t' := s1.toks) hk
    refine ⟨s1.heap.objs.size + 1, [s1.heap.objs.size + 1, s1.heap.objs.size], _, _, H1, rfl, I2, turn_enumT a (s1.heap.objs.size + 1) s1.heap.objs.size (Nat.ne_of_lt hlt) (Nat.ne_of_lt (Nat.lt_succ_of_lt hlt)), ⟨⟨.none, he⟩, hit, Nat.succ_ne_self _⟩, fun b hb => ?_, q⟩
    have e' : b = s1.heap.objs.size + 1 ∨ b = s1.heap.objs.size := by simpa using hb
    have hle : s1.heap.objs.size ≤ b := by
      rcases e' with z | z
      · rw [z]; exact Nat.le_add_right _ _
      · rw [z]; exact Nat.le_refl _
    exact I1.fpOk hle (I1.hok.fresh hle)
theorem walk_enumT {K : PySem.W.Frag} {a : Addr} {xs : List V} : Walk (IteT K a) xs.length (fun H => SqT K H a xs) (YPair (fun i => some (.int (i : Nat))) (fun i => xs[i]?)) := by
  refine ⟨fun i _ hi q => ⟨xs, xs[i], q, by simp [hi]⟩, fun _ q => ⟨xs, q, rfl⟩, fun i H v H' _ q y => ?_⟩
  obtain ⟨T, x, h1, h2, h3, h4⟩ := y
  exact ⟨T, .int (i : Nat), x, h1, h2, h3, rfl, h4 xs q⟩

/-! ### zip of a tuple and a list -/
def ItzM (K : PySem.W.Frag) (a b : Addr) : It :=
  ⟨fun i H => ∃ (xs ys : List V) (x y : V), SqT K H a xs ∧ SqL K H b ys ∧ xs[i]? = some x ∧ ys[i]? = some y,
    fun i H v H' => ∃ T x y, v = .ref T ∧ H T = none ∧ H' = upd H T (.tup [x, y]) ∧ (∀ xs, SqT K H a xs → xs[i]? = some x) ∧ ∀ ys, SqL K H b ys → ys[i]? = some y,
    fun i H => ∃ xs ys : List V, SqT K H a xs ∧ SqL K H b ys ∧ i ≤ xs.length ∧ i ≤ ys.length ∧ (i = xs.length ∨ i = ys.length)⟩
theorem turn_zipM {P : Program} {w : World} {K : PySem.W.Frag} {elts : List Expr} {kk : Nat} {tpos : Pos} {a b z TI TO i1 i2 : Addr} (S : ZipSep2 z TI TO i1 i2 [i1, a] [i2, b]) (ha : a ≠ i1) (hb : b ≠ i2) :
    Turn P w K (.Tuple elts kk tpos) (ItzM K a b) [z, TI, TO, i1, i2] z (fun i h => IsZip h z TI TO .none ∧ IsTupOf2 h TI (.ref i1) (.ref i2) ∧ (∃ x y, IsTupOf2 h TO x y) ∧ h.IsTupleIter i1 a i ∧ h.IsListIter i2 b i) where
  mem := by simp
  obj := fun i h st c hc => by
    obtain ⟨hz, hTI, ⟨x, y, hTO⟩, ⟨o1, e1, _, d1⟩, ⟨o2, e2, _, d2⟩⟩ := st
    have e' : c = z ∨ c = TI ∨ c = TO ∨ c = i1 ∨ c = i2 := by simpa using hc
    rcases e' with q | q | q | q | q
    · rw [q]; exact ⟨_, hz, fun v q => nomatch q⟩
    · rw [q]; exact ⟨_, hTI, fun v q => nomatch q⟩
    · rw [q]; exact ⟨_, hTO, fun v q => nomatch q⟩
    · rw [q]; exact ⟨o1, e1, fun v q => by rw [d1] at q; cases q⟩
    · rw [q]; exact ⟨o2, e2, fun v q => by rw [d2] at q; cases q⟩
  keep := fun i h h' st k => by
    obtain ⟨hz, hTI, ⟨x, y, hTO⟩, h1, h2⟩ := st
    exact ⟨k z (by simp) _ hz, k TI (by simp) _ hTI, ⟨x, y, k TO (by simp) _ hTO⟩, h1.at fun o q => k i1 (by simp) o q, h2.at fun o q => k i2 (by simp) o q⟩
  item := by
    intro X hP hw hK hc i pins s σ H E I hf st hg
    subst hP hw hK
    obtain ⟨hz, hTI, ⟨x0, y0, hTO⟩, h1, h2⟩ := st
    obtain ⟨xs, ys, x, y, hqx, hqy, hx, hy⟩ := hg
    obtain ⟨its, rv, p, _⟩ := I.tuple hqx
    obtain ⟨its2, rv2, p2, _⟩ := I.list hqy
    obtain ⟨u, hu, ru⟩ := rv.get hx
    obtain ⟨u2, hu2, ru2⟩ := rv2.get hy
    have hzl : z < s.heap.objs.size := Heap.lt_size hz
    have n1 : i < its.toArray.size := by rw [List.size_toArray]; exact (List.getElem?_eq_some_iff.mp hu).1
    have n2 : i < its2.toArray.size := by rw [List.size_toArray]; exact (List.getElem?_eq_some_iff.mp hu2).1
    refine wpAny_pyNext_zipD2_item S (Draws.tuple (prog := X.prog) (w := X.w) (A := X.A.in1) (I.ok.hd hc) i1 a ha its.toArray) (Draws.list (prog := X.prog) (w := X.w) (A := X.A.in1) (I.ok.hd hc) i2 b hb its2.toArray)
      hz hTI hTO ⟨h1, show s.heap.IsTuple a its.toArray from p⟩ ⟨h2, p2.isList⟩ n1 n2 fun x1 x2 h' tk P1 P2 z' TO' st1 st2 hT hsz hk => ?_
    have e1 : x1 = u := by
      have q1 : its.toArray[i]? = some x1 := P1
      have q2 : its.toArray[i]? = some u := by simpa using hu
      exact Option.some.inj (q1.symm.trans q2)
    have e2 : x2 = u2 := by
      have q1 : its2.toArray[i]? = some x2 := P2
      have q2 : its2.toArray[i]? = some u2 := by simpa using hu2
      exact Option.some.inj (q1.symm.trans q2)
    subst e1 e2
    refine ⟨_, rfl, wpAny_letOwnedTupleGo_zip (s := { s with heap := h', toks := tk }) z' fun h'' z'' sb => ?_⟩
    have hT2 : h''.get? s.heap.objs.size = some { cls := .type "tuple", data := .seq #[x1, x2] } := (sb.2 _ (Nat.ne_of_gt hzl)).trans hT
    have new : ObjOk X.prog X.w (upd H s.heap.objs.size (.tup [x, y])) h'' s.heap.objs.size (.tup [x, y]) :=
      ⟨by show 2 ≤ sizeLine; decide, [x1, x2], .cons ru (.cons ru2 .nil), ⟨_, hT2, rfl, _, rfl⟩⟩
    have I1 : Inv X pins σ (upd H s.heap.objs.size (.tup [x, y])) { s with heap := h'', toks := tk } :=
      I.turnedNew (ch := [z, TI, TO, i1, i2]) (fun c o hb q => (sb.2 c (fun q' => hb (by simp [q']))).trans (hk c o (fun q' => hb (by simp [q'])) (fun q' => hb (by simp [q'])) (fun q' => hb (by simp [q'])) (fun q' => hb (by simp [q'])) q)) hf (Nat.le_refl _) new
    refine ⟨.ref s.heap.objs.size, _, I1, rfl, ⟨_, x, y, rfl, I.hok.fresh (Nat.le_refl _), rfl, fun l hl => by rw [I.tuple_inj hl hqx]; exact hx, fun l hl => by rw [I.list_inj hl hqy]; exact hy⟩, ⟨z'', ?_, ⟨x1, x2, ?_⟩, ?_, ?_⟩, fun c hcm => ?_⟩
    · exact (sb.2 _ S.TIz).trans (hk _ _ S.TIz S.TITO S.TIi1 S.TIi2 hTI)
    · exact (sb.2 _ S.TOz).trans TO'
    · exact st1.1.at fun o q => (sb.2 _ (fun e => S.zf1 (by rw [← e]; simp))).trans q
    · exact st2.1.at fun o q => (sb.2 _ (fun e => S.zf2 (by rw [← e]; simp))).trans q
    · have hlt : c < s.heap.objs.size := by
        have e' : c = z ∨ c = TI ∨ c = TO ∨ c = i1 ∨ c = i2 := by simpa using hcm
        rcases e' with q | q | q | q | q
        · rw [q]; exact hzl
        · rw [q]; exact Heap.lt_size hTI
        · rw [q]; exact Heap.lt_size hTO
        · rw [q]; obtain ⟨_, e1, _⟩ := h1; exact Heap.lt_size e1
        · rw [q]; obtain ⟨_, e2, _⟩ := h2; exact Heap.lt_size e2
      rw [upd_ne (Nat.ne_of_lt hlt)]
      exact (hf c hcm).1
  done := by
    intro X hP hw hK hc i pins s σ H E I hf st hg
    subst hP hw hK
    obtain ⟨hz, hTI, ⟨x0, y0, hTO⟩, h1, h2⟩ := st
    obtain ⟨xs, ys, hqx, hqy, q1, q2, hend⟩ := hg
    obtain ⟨its, rv, p, _⟩ := I.tuple hqx
    obtain ⟨its2, rv2, p2, _⟩ := I.list hqy
    have l1 := rv.length
    have l2 := rv2.length
    refine wpAny_pyNext_zipD2_end S (Draws.tuple (prog := X.prog) (w := X.w) (A := X.A.in1) (I.ok.hd hc) i1 a ha its.toArray) (Draws.list (prog := X.prog) (w := X.w) (A := X.A.in1) (I.ok.hd hc) i2 b hb its2.toArray)
      hz hTI hTO ⟨h1, show s.heap.IsTuple a its.toArray from p⟩ ⟨h2, p2.isList⟩ (by rw [List.size_toArray]; omega) (by rw [List.size_toArray]; omega) (by rw [List.size_toArray, List.size_toArray]; omega) fun h' tk hk => ⟨rfl, I.turnedL (ch := [z, TI, TO, i1, i2]) (fun c o hb q =>
      hk c o (fun q' => hb (by simp [q'])) (fun q' => hb (by simp [q'])) (fun q' => hb (by simp [q'])) (fun q' => hb (by simp [q'])) q) hf⟩
  self := fun A i s Q E st h => wpAny_pyIter_zip st.1 h
def iZipM (K : PySem.W.Frag) (ta : TA) : TI := fun σ H R => ta σ H fun vs H1 => ∃ a b xs ys, vs = [.ref a, .ref b] ∧ SqT K H1 a xs ∧ SqL K H1 b ys ∧ R (ItzM K a b) H1
theorem pi_zipM {X : Cx} {e e2 : Expr} {ta : TA} {p pos tpos : Pos} {elts : List Expr} {kk : Nat} (hg : Gl X "zip") (hm : X.mg "zip" = none) (ha : PA X [e, e2] ta)
    (hs : starEach [e, e2] X.env = (false, eval e X.env) :: starEach [e2] X.env := by rfl) (hpl : (backTo pos (starEach [e2] X.env)).any (·.1) = false := by rfl) :
    PI X (.Tuple elts kk tpos) (.Call (.Name "zip" p) [e, e2] [] pos) (iZipM X.K ta) := by
  refine ⟨fun pins s σ H R I h => ?_⟩
  refine Call_ (ld_blt I hg hm PyProof.Rows.boot_zip (PyProof.Rows.callWith_type1 (thn (ha.run pos pins s σ H _ I h) fun us s1 ⟨vs, H1, I1, r1, q1⟩ => ?_) hs hpl))
  obtain ⟨a, b, xs, ys, ex, hqx, hqy, q⟩ := q1
  subst ex
  cases r1 with
  | cons r rr =>
    cases rr with
    | cons r' rr =>
      cases rr
      cases r
      cases r'
      have fresh5 : ∀ c, c ∈ [s1.heap.objs.size + 4, s1.heap.objs.size + 2, s1.heap.objs.size + 3, s1.heap.objs.size, s1.heap.objs.size + 1] → FpOk X pins H1 c := fun c hcm => by
        have e' : c = s1.heap.objs.size + 4 ∨ c = s1.heap.objs.size + 2 ∨ c = s1.heap.objs.size + 3 ∨ c = s1.heap.objs.size ∨ c = s1.heap.objs.size + 1 := by simpa using hcm
        have hle : s1.heap.objs.size ≤ c := by
          rcases e' with z | z | z | z | z
          · rw [z]; exact Nat.le_add_right _ _
          · rw [z]; exact Nat.le_add_right _ _
          · rw [z]; exact Nat.le_add_right _ _
          · rw [z]; exact Nat.le_refl _
          · rw [z]; exact Nat.le_add_right _ _
        exact I1.fpOk hle (I1.hok.fresh hle)
      obtain ⟨its, rv, p1, _⟩ := I1.tuple hqx
      obtain ⟨its2, rv2, p2, _⟩ := I1.list hqy
      have la : a < s1.heap.objs.size := p1.lt
      have lb : b < s1.heap.objs.size := p2.lt
      refine zip_begins2 (begins_tuple a its.toArray) (begins_list b its2.toArray) (show s1.heap.IsTuple a its.toArray from p1) p2.isList fun h' hz hTI hTO g1 g2 hsz hk => wpAny_pyIter_zip hz ?_
      have I2 : Inv X pins σ H1 { s1 with heap := h' } := I1.kept (t' := s1.toks) hk
      exact ⟨s1.heap.objs.size + 4, [s1.heap.objs.size + 4, s1.heap.objs.size + 2, s1.heap.objs.size + 3, s1.heap.objs.size, s1.heap.objs.size + 1], _, _, H1, rfl, I2,
        turn_zipM (zip_sep2 (fp1 := [a]) (fp2 := [b]) (fun c hc => by rw [List.mem_singleton.mp hc]; exact la) (fun c hc => by rw [List.mem_singleton.mp hc]; exact lb)) (Nat.ne_of_lt la) (Nat.ne_of_lt (Nat.lt_succ_of_lt lb)), ⟨hz, hTI, ⟨_, _, hTO⟩, ⟨_, g1, rfl, rfl⟩, ⟨_, g2, rfl, rfl⟩⟩, fresh5, q⟩
theorem walk_zipM {K : PySem.W.Frag} {a b : Addr} {xs ys : List V} {n : Nat} (hn : n = min xs.length ys.length) : Walk (ItzM K a b) n (fun H => SqT K H a xs ∧ SqL K H b ys) (YPair (fun i => xs[i]?) (fun i => ys[i]?)) := by
  subst hn
  refine ⟨fun i _ hi q => ?_, fun _ q => ⟨xs, ys, q.1, q.2, by omega, by omega, by omega⟩, fun i H v H' _ q y => ?_⟩
  · have h1 : i < xs.length := by omega
    have h2 : i < ys.length := by omega
    exact ⟨xs, ys, xs[i], ys[i], q.1, q.2, by simp [h1], by simp [h2]⟩
  · obtain ⟨T, x, z, h1, h2, h3, h4, h5⟩ := y
    exact ⟨T, x, z, h1, h2, h3, h4 xs q.1, h5 ys q.2⟩
theorem walk_zipT {K : PySem.W.Frag} {a b : Addr} {xs ys : List V} {n : Nat} (hn : n = min xs.length ys.length) : Walk (RZ.ItzT K a b) n (fun H => SqT K H a xs ∧ SqT K H b ys) (YPair (fun i => xs[i]?) (fun i => ys[i]?)) := by
  subst hn
  refine ⟨fun i _ hi q => ?_, fun _ q => ⟨xs, ys, q.1, q.2, by omega⟩, fun i H v H' _ q y => ?_⟩
  · have h1 : i < xs.length := by omega
    have h2 : i < ys.length := by omega
    exact ⟨xs, ys, xs[i], ys[i], q.1, q.2, by simp [h1], by simp [h2]⟩
  · obtain ⟨T, x, z, h1, h2, h3, h4, h5⟩ := y
    exact ⟨T, x, z, h1, h2, h3, h4 xs q.1, h5 ys q.2⟩
end Du
end
section
namespace Du
open PySem PySem.Spec PyProof.Rows L2
/-! ### sorted of a list of tuples of ints, the first one empty -/
/-- v is a tuple of these ints -/
def IsTI (h : Heap) (v : Value) (ns : List Int) : Prop := ∃ a items, v = .ref a ∧ IsTup h a items ∧ IntsAre items.toList ns
theorem IsTI.keeps {h h' : Heap} {v : Value} {ns : List Int} (x : IsTI h v ns) (k : ∀ b o, h.get? b = some o → o.cls = .type "tuple" → h'.get? b = some o) : IsTI h' v ns := by
  obtain ⟨a, items, e, ⟨o, g, c, d⟩, i⟩ := x
  exact ⟨a, items, e, ⟨o, k _ _ g c, c, d⟩, i⟩
section
variable {prog : Program} {w : World} {A : Around} {E : Value → Shared → Prop} {s : Shared}
theorem lt_ti {v u : Value} {ns ms : List Int} {Q : Bool → Shared → Prop} (hu : A.units < cLine) (hv : IsTI s.heap v ns) (hw : IsTI s.heap u ms) (h : Q (HT.lexLt ns ms) s) : wpAny (model prog w) A (keyLt' oneType' v u) Q E s := by
  obtain ⟨a, items, rfl, ⟨⟨cls, dd, data, sl⟩, ga, hc, n, hd⟩, ia⟩ := hv
  obtain ⟨b, items2, rfl, ⟨⟨cls2, dd2, data2, sl2⟩, gb, hc2, n2, hd2⟩, ib⟩ := hw
  simp only at hc hd hc2 hd2
  subst hc hd hc2 hd2
  rw [keyLt'_oneType, oneLt'_eq]
  simp only [if_true]
  refine wpAny_bind (wpAny_cRoomFor hu ?_)
  refine wpAny_bind (wpAny_callSpecialIfBound?_slot ⟨_, ga, rfl⟩ PySem.F.slot_tuple_lt (call_meets PySem.F.slot_tuple_lt ⟨_, ga, rfl⟩ PySem.F.entry_tuple_lt (PySem.F.args_tuple_lt_2 _ _)
    (HT.tuple_lt_ints a b items items2 n n2 dd dd2 sl sl2 ns ms ia ib) ⟨ga, gb, ?_⟩))
  exact wpAny_truthy_bool h
theorem mapM_rel {M : Model} {α β : Type} {f : α → Sem β} {R : α → β → Prop} : ∀ (l : List α) {Q : List β → Shared → Prop}, (∀ v ∈ l, ∃ r, R v r ∧ ∀ (Q' : β → Shared → Prop), Q' r s → wpAny M A (f v) Q' E s) → (∀ rs, Paired R l rs → Q rs s) → wpAny M A (l.mapM f) Q E s
  | [], _, _, h => by rw [List.mapM_nil]; exact wpAny_pure (h [] .nil)
  | x :: l, Q, hf, h => by
    rw [List.mapM_cons]
    obtain ⟨r, hr, g⟩ := hf x (.head _)
    exact wpAny_bind (g _ (wpAny_bind (mapM_rel l (Q := fun bs s' => wpAny M A (pure (r :: bs)) Q E s') (fun v hv => hf v (.tail _ hv)) fun rs p => wpAny_pure (h _ (.cons hr p)))))
theorem ti_type {M : Model} {h : Heap} {v : Value} {ns : List Int} (x : IsTI h v ns) : PySem.W.Looks M h (typeOf v) (.type "tuple") := by
  obtain ⟨a, items, rfl, ⟨o, g, c, n, d⟩, i⟩ := x
  rw [← c]
  exact (PySem.W.Looks.ld g).andThen .now
theorem kind_ti {v₀ : Value} {rest : List Value} {Q : SortKind → Shared → Prop} {M : Model} (h0 : IsTI s.heap v₀ []) (hv : ∀ v ∈ rest, ∃ ns, IsTI s.heap v ns) (h : Q oneType' s) : wpAny M A (keyKind' (v₀ :: rest).toArray) Q E s := by
  have hall : ∀ v ∈ v₀ :: rest, ∃ ns, IsTI s.heap v ns := fun v m => by
    rcases List.mem_cons.mp m with rfl | m
    · exact ⟨[], h0⟩
    · exact hv v m
  have hT : ∀ v ∈ v₀ :: rest, PySem.W.Looks M s.heap (typeOf v) (.type "tuple") := fun v m => by
    obtain ⟨ns, x⟩ := hall v m
    exact ti_type x
  rw [keyKind'_eq, List.mapM_toArray, map_eq_pure_bind]
  refine wpAny_bind (wpAny_bind (mapM_rel (R := fun v r => v = v₀ → r = none) _ (fun v hv => ?_) fun rs p => wpAny_pure ?_))
  · obtain ⟨ns, a, items, rfl, ⟨o, g, c, n, d⟩, i⟩ := hall v hv
    refine ⟨items[0]?, fun e => ?_, fun Q' q => ?_⟩
    · obtain ⟨a0, items0, e0, ⟨o0, g0, c0, n0, d0⟩, i0⟩ := h0
      have e1 : Value.ref a = Value.ref a0 := e.trans e0
      cases e1
      rw [g0] at g
      cases g
      rw [d0] at d
      injection d with d1 d2
      subst d1
      have z := i0.length
      have : items0.size = 0 := by simpa using z
      exact Array.getElem?_eq_none (by omega)
    · rw [PySem.W.kas_first_eq]
      refine wpAny_bind (PySem.W.Looks.here (show PySem.W.Looks M s.heap (typeOf (.ref a)) o.cls from (PySem.W.Looks.ld g).andThen .now) ?_)
      rw [c, if_neg (by first | decide | simp)]
      exact wpAny_bind (listItems_at g d (wpAny_pure q))
  · cases p with
    | cons p0 pr =>
      rename_i r0 rr
      have e0 : r0 = none := p0 rfl
      subst e0
      rw [if_neg (by simp), if_neg (by simp)]
      rw [oneTypeOnly'_eq, List.mapM_toArray, map_eq_pure_bind]
      refine wpAny_bind (wpAny_bind (wpAny_bind (PySem.W.kas_mapM (r := Value.type "tuple") _ (fun v hv Q' hq => (hT v hv).here hq) (wpAny_pure ?_))))
      have hall : ((List.map (fun _ => Value.type "tuple") (v₀ :: rest)).toArray.all fun x => x == Value.type "tuple") = true := by
        simp only [List.all_toArray, List.all_map, List.all_eq_true]
        intro _ _
        rfl
      have hh0 : (List.map (fun _ => Value.type "tuple") (v₀ :: rest)).toArray[0]? = some (Value.type "tuple") := by simp
      rw [hh0]
      simp only [hall, if_true]
      exact wpAny_pure (wpAny_pure h)
theorem ti_sortable {a : Addr} {v₀ : Value} {rest : List Value} {k : Value → List Int} (hu : A.units < cLine) (hv : ∀ v ∈ v₀ :: rest, IsTI s.heap v (k v)) (h0 : k v₀ = []) (ha : ∀ o, s.heap.get? a = some o → o.cls ≠ .type "tuple") :
    SrtO.SortableO prog w A s a (v₀ :: rest) fun v u => HT.lexLt (k v) (k u) := by
  intro h' keep
  have hv' : ∀ v ∈ v₀ :: rest, IsTI h' v (k v) := fun v hm => (hv v hm).keeps fun b o e c => keep b o (fun z => by subst z; exact ha o e c) e
  refine ⟨oneType', fun Q E hq => ?_, fun p q hp hq => ?_⟩
  · exact kind_ti (s := { s with heap := h' }) (by have := hv' v₀ List.mem_cons_self; rw [h0] at this; exact this) (fun v m => ⟨_, hv' v (List.mem_cons_of_mem _ m)⟩) hq
  · exact lt_ti (s := { s with heap := h' }) (Q := fun r s' => s' = { s with heap := h' } ∧ r = HT.lexLt (k p.1) (k q.1)) (E := fun _ _ => False) hu (hv' p.1 hp) (hv' q.1 hq) ⟨rfl, rfl⟩
end
section
variable {X : Cx}
/-- sorted of a list of tuples of ints, the first one empty: some arrangement -/
def rSortTI (K : PySem.W.Frag) : List V → Hp → VK → Prop := fun vs H Q => ∃ (a : Addr) (t₀ : Addr) (ts : List Addr) (k : Addr → List Int), vs = [.ref a] ∧ SqL K H a ((t₀ :: ts).map V.ref) ∧ (∀ t ∈ t₀ :: ts, SqT K H t ((k t).map V.int)) ∧ k t₀ = [] ∧
  ∀ (ts' : List Addr) (p : Addr), ts'.Perm (t₀ :: ts) → H p = none → Q (.ref p) (upd H p (.lst (ts'.map V.ref)))
theorem cr_sortTI (hu : X.A.units + 64 < cLine) : CallR X (.builtin "sorted") (rSortTI X.K) := by
  intro pins s σ H vs us Q I r h
  obtain ⟨a, t₀, ts, k, rfl, hs, hT, h0, q⟩ := h
  obtain rfl := Vals.ref1 r
  obtain ⟨its, rv, hl, hz⟩ := I.list hs
  have ei := nts_of rv
  have hzs : its.length ≤ sizeLine := by rw [← rv.length]; exact hz
  have hv : ∀ u ∈ its, IsTI s.heap u (k (adO u)) := fun u hm => by
    rw [ei] at hm
    obtain ⟨t, ht, rfl⟩ := List.mem_map.mp hm
    obtain ⟨its2, rv2, p2, _⟩ := I.tuple (hT t ht)
    exact ⟨t, its2.toArray, rfl, p2, rv2.ints⟩
  have ei2 : its = Value.ref t₀ :: ts.map Value.ref := by rw [ei]; rfl
  refine SrtO.sorted_ord (NtL.swo_lexL fun u => k (adO u)) hl.isList hzs (fun h2 h₁ a' ha' kk => ?_) fun out h1 h2 => ?_
  · rw [ei2]
    refine ti_sortable (s := { s with heap := h₁ }) (by show X.A.units + 1 + 1 < cLine; omega) (fun v hm => ?_) h0 fun o e c => ?_
    · rw [← ei2] at hm
      exact (hv v hm).keeps fun b o e _ => (kk b o e).2
    · have e' : some o = some (seqObj "list" its.toArray 0) := e.symm.trans ha'
      cases e'
      exact absurd (Value.type.inj c) (by decide)
  · obtain ⟨ep, he'⟩ := PyProof.Rows.sortedAll_at s.heap its out.toArray
    have eo : out = (out.map adO).map Value.ref := ref_map fun u hm => by
      have hm' : u ∈ its := h2.perm.mem_iff.mp hm
      rw [ei] at hm'
      obtain ⟨t, _, e⟩ := List.mem_map.mp hm'
      exact ⟨t, e.symm⟩
    have hp : (out.map adO).Perm (t₀ :: ts) := by
      have p1 := h2.perm.map adO
      rw [ei, ad_map] at p1
      exact p1
    have hlen : ((out.map adO).map V.ref).length ≤ sizeLine := by
      rw [List.length_map, hp.length_eq]
      rw [List.length_map] at hz
      exact hz
    have rvo : Vals ((out.map adO).map V.ref) out := by
      have z := of_nts (out.map adO)
      rw [← eo] at z
      exact z
    exact ⟨.ref _, upd H (s.heap.objs.size + 1) (.lst ((out.map adO).map V.ref)), I.laid (t' := s.toks) (fun _ _ => PyProof.Rows.sortedAll_old) (Nat.le_succ _) ⟨hlen, out, ep, rvo, he'⟩, rfl, q _ _ hp (I.hok.fresh (Nat.le_succ _))⟩
end
end Du
end
section
namespace Du
open PySem PySem.Spec PyProof.Rows L2
/-! ### sorted of a tuple of tuples, by their lengths -/
section
variable {prog : Program} {w : World} {A : Around} {E : Value → Shared → Prop} {s : Shared}
theorem collect_tup {l : Addr} {vs : List Value} {Q : List Value → Shared → Prop} (hl : IsTup s.heap l vs.toArray)
    (h : Q vs { s with heap := (s.heap.push (seqObj "list" #[] 0)).update s.heap.objs.size (Obj.mapSeq (· ++ vs.toArray)) }) (hsz : vs.length ≤ sizeLine := by size_fits) :
    wpAny (model prog w) A (collect (.ref l)) Q E s := by
  obtain ⟨o, ho, hc, n, hd⟩ := id hl
  unfold collect
  refine wpAny_bind (wpAny_runValue (codeAny_builtin entry_proto_collect' ?_))
  show wpAny _ _ (do again (.builtin "list.__iadd__" ⟨[← newList [], .ref l], []⟩)) _ _ s
  refine wpAny_bind (wpAny_newList (wpAny_pure ⟨Code.quiet_builtin _ (by decide +kernel), codeAny_builtin entry_list_iadd' ?_⟩))
  show wpAny _ _ (Builtin.List.listExtendWith (.ref s.heap.objs.size) (.ref l) (.ref s.heap.objs.size)) _ _ { s with heap := s.heap.push (seqObj "list" #[] 0) }
  unfold Builtin.List.listExtendWith
  have ho' : (s.heap.push (seqObj "list" #[] 0)).get? l = some o := Heap.get?_push_of_some _ ho
  refine wpAny_bind (wpAny_typeOf (T := "tuple") ⟨o, ho', hc⟩ ?_)
  have ht : (Value.type "tuple" == Value.type "tuple") = true := by rfl
  rw [if_pos (by rw [ht]; simp)]
  refine wpAny_bind (listItems_at ho' hd ?_)
  refine wpAny_bind (listItems_at (xs := #[]) (n := 0) (Heap.get?_push_size _ rfl) rfl ?_)
  rw [if_neg (by simp)]
  refine wpAny_bind (listUpdate_at (xs := #[]) (n := 0) (Heap.get?_push_size _ rfl) rfl ?_ (Nat.zero_le _) (by show (#[] ++ vs.toArray).size ≤ sizeLine + 1; simp only [Array.size_append, List.size_toArray, List.length_nil]; omega))
  refine wpAny_pure ?_
  show wpAny (model prog w) A (do
      let o ← load s.heap.objs.size
      match o.data with
      | .seq xs _ => pure xs.toList
      | _ => unsupported "internal:collect") Q E { s with heap := (s.heap.push (seqObj "list" #[] 0)).update s.heap.objs.size (Obj.mapSeq (· ++ vs.toArray)) }
  refine wpAny_bind (wpAny_load (get?_update_seq (Heap.get?_push_size _ rfl) _) ?_)
  show wpAny _ _ (pure ((#[] : Array Value) ++ vs.toArray).toList) Q E _
  rw [show ((#[] : Array Value) ++ vs.toArray).toList = vs by simp]
  exact wpAny_pure h
theorem sorted_of_sortT {l : Addr} {vs : List Value} {kw : List (Str × Value)} {Q : Value → Shared → Prop} (hl : IsTup s.heap l vs.toArray) (hL : vs.length ≤ sizeLine) (ha1 : argsOk "sorted" ⟨[.ref l], kw⟩) (ha2 : ∀ x, argsOk "list.sort" ⟨[.ref x], kw⟩)
    (body : ∀ E' : Value → Shared → Prop, wpAny (model prog w) A.in1.in1 (Builtin.«list.sort» ⟨[.ref (s.heap.objs.size + 1)], kw⟩) (fun f s' => f = .done (.ret .none) ∧ Q (.ref (s.heap.objs.size + 1)) s') E' { s with heap := PySem.W.copyHeap s.heap vs }) :
    wpAny (model prog w) A (call (.builtin "sorted") [.ref l] kw) Q E s := by
  refine call_function_entry_kw kind_sorted plain_sorted entry_sorted ha1 ?_
  unfold Builtin.«sorted»
  refine wpAny_bind (m := checkCount "sorted" 1 1 _) (wpAny_pure ?_)
  refine wpAny_bind (collect_tup hl ?_ hL)
  refine wpAny_bind (wpAny_newList ?_ hL)
  have hsz : ((s.heap.push (seqObj "list" #[] 0)).update s.heap.objs.size (Obj.mapSeq (· ++ vs.toArray))).objs.size = s.heap.objs.size + 1 := by
    rw [Heap.size_update, size_push']
  show wpAny _ _ _ _ _ { s with heap := PySem.W.copyHeap s.heap vs }
  rw [hsz]
  refine wpAny_bind (wpAny_holding (wpAny_call_entry_kw slot_list_sort ⟨_, PySem.W.copyHeap_at s.heap vs, rfl⟩ entry_list_sort ?body (ha2 _)))
  case body =>
    show wpAny (model prog w) A.in1.in1 (Builtin.«list.sort» ⟨[.ref (s.heap.objs.size + 1)], kw⟩) _ _ _
    refine wpAny_mono (body _) (fun f s' hf => ?_) fun _ _ e => e
    obtain ⟨rfl, hq⟩ := hf
    exact ⟨_, rfl, wpAny_pure ⟨_, rfl, hq⟩⟩
theorem len_ti {t : Addr} {items : Array Value} {Q : Value → Shared → Prop} {A : Around} (ht : IsTup s.heap t items) (hfit : items.size ≤ sizeLine) (h : ∀ u, Q (.int items.size u) { s with toks := s.toks + 1 + 1 }) : wpAny (model prog w) A (call (.builtin "len") [.ref t]) Q E s :=
  PyProof.Rows.len_tuple ht (by rw [sizeLine_eq] at hfit; omega) (h _)

theorem each_refs {ts : List Addr} : ∀ {us : List Value}, us = ts.map Value.ref → PySem.W.EachIs (fun v t => v = Value.ref t) us ts := by
  intro us e
  subst e
  induction ts with
  | nil => exact .nil
  | cons t ts ih => exact .cons rfl ih
theorem refs_each : ∀ {us : List Value} {ts : List Addr}, PySem.W.EachIs (fun v t => v = Value.ref t) us ts → us = ts.map Value.ref
  | _, _, .nil => rfl
  | _, _, .cons e r => by rw [List.map_cons, ← refs_each r, e]
theorem sorted_lenT {l : Addr} {ts : List Addr} {κ : Addr → Nat} {Q : Value → Shared → Prop} (hl : IsTup s.heap l (ts.map Value.ref).toArray) (ht : ∀ t ∈ ts, ∃ items, IsTup s.heap t items ∧ items.size = κ t ∧ items.size ≤ sizeLine) (hL : ts.length ≤ sizeLine) (hu : A.units + 3 < cLine)
    (h : ∀ (ts' : List Addr) c h' tk, (∀ b o, s.heap.get? b = some o → h'.get? b = some o) → h'.get? (s.heap.objs.size + 1) = some (seqObj "list" (List.toArray (ts'.map Value.ref)) c) → ts'.Perm ts → ts'.Pairwise (fun x y => κ x ≤ κ y) →
      Q (.ref (s.heap.objs.size + 1)) { s with heap := h', toks := tk }) :
    wpAny (model prog w) A (call (.builtin "sorted") [.ref l] [(Str.ofString "key", .builtin "len")]) Q E s := by
  let k : Addr → PyData := fun t => .int ((κ t : Nat) : Int)
  have hal : PySem.W.AllAlike (ts.map k) := PySem.W.AllAlike.of fun b b' => by simp [k, PySem.W.alike]
  have hk : PySem.W.Sortable (ts.map k) := PySem.W.Sortable.others fun b => ⟨fun e => PyData.noConfusion e, fun xs e => PyData.noConfusion e⟩
  have e : PySem.W.EachIs (fun v t => v = Value.ref t) (ts.map Value.ref) ts := each_refs rfl
  have up : ∀ {g : Heap}, PySem.W.KeepsBut (s.heap.objs.size + 1) (PySem.W.copyHeap s.heap (ts.map Value.ref)) g → ∀ b o, s.heap.get? b = some o → g.get? b = some o := fun {g} kp b o q =>
    kp b o (Nat.ne_of_lt (Nat.lt_succ_of_lt (Heap.lt_size q))) (PySem.W.copyHeap_old q)
  refine sorted_of_sortT hl (by rw [List.length_map]; exact hL) (ksk_s1 _ _) (fun x => ksk_l1 _ _) fun E' => ?_
  rw [ksk_t4]
  refine PySem.W.keyH_tree (kz := ts.map k) (s := { s with heap := PySem.W.copyHeap s.heap (ts.map Value.ref) }) (PySem.W.copyHeap_at s.heap (ts.map Value.ref)) (by rw [List.length_map, List.length_map]) (by rw [List.length_map]; exact hL) hal hk (PySem.W.bound_map (A := A.in1.in1) fun b _ => by show A.units + 1 + 1 + PyData.depth (PyData.int _) < cLine; simp [PyData.depth]; omega)
    (PySem.W.keyH_turns (s := { s with heap := PySem.W.copyHeap s.heap (ts.map Value.ref) }) e fun v x hR hx h tk kp => ?_) fun h' tk out c kp hD ko => ⟨rfl, ?_⟩
  · subst hR
    obtain ⟨items, ⟨o, g, c, d⟩, hs, hz⟩ := ht x hx
    refine len_ti (s := { s with heap := h, toks := tk }) (⟨o, up kp _ _ g, c, d⟩ : IsTup h x items) hz fun u => ⟨h, tk + 1 + 1, rfl, fun _ _ q => q, ?_⟩
    show PySem.Reads h (.int ((items.size : Nat) : Int) u) (.int ((κ x : Nat) : Int)) []
    rw [hs]
    exact .int _ _
  · have z := PySem.W.keyedOut_each k ko e
    have eo := refs_each z
    rw [eo] at hD
    have hp : (ts.mergeSort (PySem.W.dataLe false k)).Perm ts := List.mergeSort_perm _ _
    have el : PySem.W.dataLe false k = fun a b => decide (((κ a : Nat) : Int) ≤ ((κ b : Nat) : Int)) := PySem.W.dataLe_int fun t => ((κ t : Nat) : Int)
    have hs : (ts.mergeSort (PySem.W.dataLe false k)).Pairwise (fun x y => κ x ≤ κ y) := by
      have q := List.pairwise_mergeSort (le := PySem.W.dataLe false k) (fun a b c h1 h2 => by
        rw [el] at h1 h2 ⊢
        have h1 := of_decide_eq_true h1
        have h2 := of_decide_eq_true h2
        exact decide_eq_true (by omega)) (fun a b => by
        rw [el]
        by_cases q : ((κ a : Nat) : Int) ≤ ((κ b : Nat) : Int)
        · simp [q]
        · have : ((κ b : Nat) : Int) ≤ ((κ a : Nat) : Int) := by omega
          simp [this]) ts
      refine q.imp fun {x y} z => ?_
      rw [el] at z
      have z := of_decide_eq_true z
      omega
    exact h _ c h' tk (up kp) hD hp hs
end
section
variable {X : Cx}
/-- sorted(e, key=len), e a tuple of tuples -/
def rSortLen (K : PySem.W.Frag) : List V → Hp → VK → Prop := fun vs H1 Q => ∃ (a : Addr) (ts : List Addr) (κ : Addr → List V), vs = [.ref a] ∧ SqT K H1 a (ts.map V.ref) ∧ (∀ t ∈ ts, SqT K H1 t (κ t)) ∧
  ∀ (ts' : List Addr) (p : Addr), ts'.Perm ts → ts'.Pairwise (fun x y => (κ x).length ≤ (κ y).length) → H1 p = none → Q (.ref p) (upd H1 p (.lst (ts'.map V.ref)))
theorem pe_sortLen {e : Expr} {t : TA} {p p2 pos kpos : Pos} (hu : X.A.units + 64 < cLine) (hg : Gl X "sorted") (hm : X.mg "sorted" = none) (hg2 : Gl X "len") (hm2 : X.mg "len" = none) (he : PA X [e] t)
    (hs : starEach [e] X.env = (false, eval e X.env) :: starEach [] X.env := by rfl) :
    PE X (.Call (.Name "sorted" p) [e] [⟨some "key", .Name "len" p2, kpos⟩] pos) (tCB (rSortLen X.K) t) := by
  refine ⟨fun pins s σ H Q I h => ?_⟩
  refine wpAny_Call_Name_kw (ld_blt I hg hm (show bootBuiltins "sorted" = some (.builtin "sorted") by decide +kernel) ?_ (by decide) (by decide))
  refine PyProof.Rows.callWith_kw (thn (he.run pos pins s σ H _ I h) fun us s1 ⟨vs, H1, I1, r1, q1⟩ => ?_) (by rw [hs]; rfl) (by rw [hs]; rfl) rfl rfl
  show wpAny _ _ (evalAll [(do let v ← eval (.Name "len" p2) X.env; standAt pos; pure v)]) _ _ s1
  refine wpAny_evalAll_cons (wpAny_bind (ld_blt I1 hg2 hm2 PySem.boot_len (wpAny_bind (wpAny_standAt (wpAny_pure ?_))) (by decide) (by decide)))
  refine wpAny_evalAll_nil ?_
  show wpAny _ _ (call (.builtin "sorted") us [(Str.ofString "key", .builtin "len")]) _ _ s1
  obtain ⟨a, ts, κ, rfl, hT, hκ, q⟩ := q1
  obtain rfl := Vals.ref1 r1
  obtain ⟨its, rv, hl, hz⟩ := I1.tuple hT
  have ei := nts_of rv
  subst ei
  have hz' : ts.length ≤ sizeLine := by rw [List.length_map] at hz; exact hz
  refine sorted_lenT (κ := fun t => (κ t).length) hl (fun t ht => ?_) hz' (by omega) fun ts' c h' tk kp hD hp hs => ?_
  · obtain ⟨its, rv, p2, z⟩ := I1.tuple (hκ t ht)
    exact ⟨its.toArray, p2, by rw [List.size_toArray]; exact rv.length.symm, by rw [List.size_toArray, ← rv.length]; exact z⟩
  · have hlen : (ts'.map V.ref).length ≤ sizeLine := by rw [List.length_map, hp.length_eq]; exact hz'
    exact ⟨.ref _, upd H1 (s1.heap.objs.size + 1) (.lst (ts'.map V.ref)), I1.laid (t' := tk) kp (Nat.le_succ _) ⟨hlen, _, c, of_nts ts', hD⟩, rfl, q _ _ hp hs (I1.hok.fresh (Nat.le_succ _))⟩
end
end Du
end
section
namespace Du
open PySem PySem.Spec PyProof.Rows L2
/-! ### {t: e}, t a tuple -/
def tDisp1T (trs : List (TE × TE)) : TE := fun σ H Q => ∀ p, H p = none → tPairs trs σ (upd H p (.dT [])) fun ps H2 => H2 p = some (.dT []) ∧ ∃ (k : List Key) (b : Addr) (y : V), ps = [(.ref b, y)] ∧ H2 b = some (.tup (k.map kV)) ∧ Q (.ref p) (upd H2 p (.dT [(k, y)]))
theorem pe_disp1T {X : Cx} {pos : Pos} {k v : Expr} {trs : List (TE × TE)} (hu : X.A.units + 1 < cLine) (h : PPs X pos [some k] [v] trs) : PE X (.Dict [some k] [v] pos) (tDisp1T trs) := by
  refine ⟨fun pins s σ H Q I q => ?_⟩
  have hn := I.hok.fresh (Nat.le_refl s.heap.objs.size)
  have I1 := I.laid (a := s.heap.objs.size) (o := .dT []) (h' := s.heap.push { cls := .type "dict", data := .dict #[] }) (t' := s.toks) (fun _ _ q => Heap.get?_push_of_some _ q) (Nat.le_refl _) (dt_empty s.heap I.big)
  have hshape : (evalEachOpt [some k] X.env).zip ((evalEach [v] X.env).map fun v => do let x ← v; standAt pos; pure x) = (pairTrees [some k] [v] X.env pos).map fun p => (some p.1, p.2) := rfl
  rw [arm_eval_Dict, hshape, dictDisplay_pairs (pairTrees [some k] [v] X.env pos) (by intro z; cases z) (by show 1 < 17; omega)]
  refine wpAny_bind (wpAny_standAt (wpAny_bind (wpAny_subDictH (knd := tupleKind (mixKind X.prog X.w)) (Q := fun d s' => wpAny (model X.prog X.w) X.A (pure (Value.ref d)) (EP X pins σ Q) X.xe s') (show X.A.units < cLine by omega) (by show 1 ≤ 15; omega) ?_)))
  refine thn (h.run pins _ σ _ _ I1 (q _ hn)) fun ws s2 ⟨ps, H2, I2, rel, e, kk, b, y, ep, hb, q2⟩ => ?_
  subst ep
  obtain ⟨z, hd, xs, rx, dd⟩ := dt_of I2.hok e
  cases rx
  cases rel with
  | @cons _ wv _ _ r0 rr =>
    cases rr
    obtain ⟨w1, w2⟩ := wv
    obtain ⟨r1, r2⟩ := r0
    cases (show w1 = Value.ref b from r1)
    refine ⟨[(kk, b, w2)], ⟨rfl, rfl, key_of I2.hok hb, trivial⟩, dd, fun h' tk dd' hs => wpAny_pure ⟨.ref s.heap.objs.size, _, ?_, rfl, q2⟩⟩
    obtain ⟨o, es, ep, ho, h2, h3, h4, _, h5⟩ := dd'
    refine d_write I2 (by rw [e]; exact True.intro) hs ⟨o, ho⟩ ⟨by show 1 ≤ sizeLine; decide, hd, [(kk, b, w2)], .cons ⟨rfl, ?_, r2⟩ .nil, o, es, ep, ho, h2, h3, h4, h5⟩
    have hb' : b ≠ s.heap.objs.size := fun z => by
      subst z
      rw [e] at hb
      cases hb
    rw [upd_ne hb']
    exact hb
end Du
end
section
namespace Du
open PySem PySem.Spec PyProof.Rows L2 PpSet
/-! ### len(set(bools)) -/
/-- how many truth values are met -/
def nB (bs : List Bool) : Nat := (if bs.any (· == true) then 1 else 0) + (if bs.any (· == false) then 1 else 0)
theorem nB_snoc (bs : List Bool) (b : Bool) : nB (bs ++ [b]) = if bs.any (· == b) then nB bs else nB bs + 1 := by
  unfold nB
  rw [List.any_append, List.any_append]
  cases b <;> cases h1 : bs.any (· == true) <;> cases h2 : bs.any (· == false) <;> simp
theorem nB_le (bs : List Bool) : nB bs ≤ 2 := by
  unfold nB
  split <;> split <;> omega
section
variable {prog : Program} {w : World} {A : Around} {E : Value → Shared → Prop} {s : Shared}
/-- the loop of set.update over a walk that gives the truth values bs -/
theorem update_bools {I : Addr} {fp wr : List Addr} {G : Array GenState → Array GenState → Prop} {Pv : Nat → Value → Prop} {St : Nat → Shared → Prop} {R : Result → Shared → Prop} {bs : List Bool}
    (W : WalksS prog w A.in1 I fp wr G bs.length Pv St) (S : Addr) (hSf : S ∉ fp) (hval : ∀ i v, Pv i v → ∃ b, bs[i]? = some b ∧ v = .bool b) :
    ∀ (k i : Nat) (s : Shared), bs.length - i = k → i ≤ bs.length → St i s → s.heap.SetOf (boolK prog w) S (fun c => (bs.take i).any (· == c)) (nB (bs.take i)) →
      (∀ s', Moved (S :: wr) G s s' → s'.heap.SetOf (boolK prog w) S (fun c => bs.any (· == c)) (nB bs) → R (.ok (.ret .none)) s') →
      codeAny (model prog w) A (.builtin "set.update.loop" ⟨[.ref S, .ref I], []⟩) R s := by
  have hSw : S ∉ wr := fun h => hSf (W.sub _ h)
  have still : ∀ {i : Nat} {s s' : Shared}, Moved wr G s s' → s.heap.SetOf (boolK prog w) S (fun c => (bs.take i).any (· == c)) (nB (bs.take i)) → s'.heap.SetOf (boolK prog w) S (fun c => (bs.take i).any (· == c)) (nB (bs.take i)) := fun hm ⟨o, es, ep, tb, ho, r⟩ => ⟨o, es, ep, tb, hm.heap S _ hSw ho, r⟩
  intro k
  induction k with
  | zero =>
    intro i s hk hi hst hS hR
    obtain rfl : i = bs.length := by omega
    refine codeAny_builtin F.entry_set_update_loop ?_
    rw [Around.under_plainId F.plain_set_update_loop _]
    refine wpAny_bind (m := pyNext (.ref I)) (W.done s _ _ hst fun s' hm => wpAny_pure (hR s' (hm.mono fun b hb => List.mem_cons_of_mem _ hb) ?_))
    have z := still hm hS
    rw [List.take_length] at z
    exact z
  | succ k ih =>
    intro i s hk hi hst hS hR
    have hlt : i < bs.length := by omega
    refine codeAny_builtin F.entry_set_update_loop ?_
    rw [Around.under_plainId F.plain_set_update_loop _]
    refine wpAny_bind (m := pyNext (.ref I)) (W.item i s _ _ hlt hst fun v s' hP hst' hm => ?_)
    obtain ⟨b, hb, rfl⟩ := hval i v hP
    have hS1 := still hm hS
    have e1 : bs.take (i + 1) = bs.take i ++ [b] := by rw [List.take_add_one, hb]; rfl
    refine wpAny_bind (m := holding [Value.bool b] (setAdd S (.bool b))) (wpAny_holding ?_)
    unfold setAdd
    refine wpAny_holding (wpAny_bind ((boolK prog w).pyHash (k := b) (boolK_is _ _ _) ?_))
    refine wpAny_setAddHashed_of (knd := boolK prog w) (s := { s' with toks := s'.toks + 1 }) (boolK_is _ _ _) rfl hS1 (by have := nB_le (bs.take i); unfold scanBound; omega) fun h' hsb hS2 => ?_
    have hS3 : h'.SetOf (boolK prog w) S (fun c => (bs.take (i + 1)).any (· == c)) (nB (bs.take (i + 1))) := SetOf_congr hS2 (fun c => by
        rw [e1, List.any_append]
        cases b <;> cases c <;> simp) (by rw [e1, nB_snoc])
    refine wpAny_pure ⟨plainId_quiet F.plain_set_update_loop _, ih (i + 1) _ (by omega) hlt (W.frame _ s' _ _ hst' (Nat.le_succ _) fun c hc o e => (hsb.2 c fun z => hSf (z ▸ hc)).trans e) hS3 fun s'' hm'' hS'' => ?_⟩
    exact hR s'' (Moved.trans W.gtrans ((hm.mono fun b hb => List.mem_cons_of_mem _ hb).then_heap (Nat.le_succ _) fun c o hc e => (hsb.2 c fun z => hc (z ▸ List.mem_cons_self)).trans e) hm'') hS''
set_option maxHeartbeats 3200000 in
theorem call_set_bools {l : Addr} {items : Array Value} {bs : List Bool} {Q : Value → Shared → Prop} (hh : A.handled = none) (hl : s.heap.IsList l items) (hi : items.toList = bs.map Value.bool)
    (h : ∀ (h' : Heap) (tk : Nat), h'.SetOf (boolK prog w) s.heap.objs.size (fun c => bs.any (· == c)) (nB bs) → (∀ b o, b < s.heap.objs.size → s.heap.get? b = some o → h'.get? b = some o) → Q (.ref s.heap.objs.size) { s with heap := h', toks := tk }) :
    wpAny (model prog w) A (call (.type "set") [.ref l]) Q E s := by
  have hz : items.size = bs.length := by rw [← Array.length_toList, hi, List.length_map]
  obtain ⟨c, tl, hmro⟩ := PySem.F.called_set.mro
  have hmade := PySem.F.called_set.made
  have hsub := PySem.F.called_set.sub
  refine wpAny_call (codeAny_of_tree ?_)
  show wpAny _ _ (callAny (.type "set") _) _ _ _
  refine wpAny_pure ⟨Code.quiet_builtin _ (by decide +kernel), codeAny_builtin PySem.F.entry_type_call ?_⟩
  rw [Around.under_plain (weight_type_call_type "set" [.ref l] []) rfl]
  have h1 := PySem.F.called_set.notType
  have h2 := PySem.F.called_set.canCreate
  have hct := PySem.F.typeCall_set_1 (.ref l)
  repeat (any_goals (first | assumption | wp_step))
  refine codeAny_mono (code_set_new_1 (.ref l) (E := E) (Q₁ := fun obj s₁ => ∃ led : Bool, obj = .ref s.heap.objs.size ∧ s₁ = { s with heap := s.heap.push { cls := .type "set", dict := none, data := .set #[] 0 (.fresh 0 0 led) } }) fun led => ⟨led, rfl, rfl⟩) fun r s₁ hr => ?_
  cases r with
  | error e => exact hr
  | ok fl =>
    cases fl with
    | ret obj =>
      obtain ⟨led, rfl, rfl⟩ := hr
      generalize hg : s.heap.push { cls := .type "set", dict := none, data := .set #[] 0 (.fresh 0 0 led) } = g
      have gS : g.get? s.heap.objs.size = some { cls := .type "set", dict := none, data := .set #[] 0 (.fresh 0 0 led) } := by rw [← hg]; exact Heap.get?_push_size _ rfl
      have gz : g.objs.size = s.heap.objs.size + 1 := by rw [← hg]; exact Heap.size_push ..
      have gk : ∀ b o, s.heap.get? b = some o → g.get? b = some o := fun b o e => by rw [← hg]; exact Heap.get?_push_of_some _ e
      have hT : Shared.TypeIs { s with heap := g } (.ref s.heap.objs.size) "set" := ⟨_, gS, rfl⟩
      have hli := PySem.F.called_set.init.lookup
      have hbi := PySem.F.called_set.init.bind (.ref s.heap.objs.size)
      repeat (any_goals (first | assumption | wp_step))
      refine codeAny_mono (codeAny_call_builtin (R := wants (fun r s₂ => r = .none ∧ ∃ h' tk, s₂ = { s with heap := h', toks := tk } ∧ h'.SetOf (boolK prog w) s.heap.objs.size (fun c => bs.any (· == c)) (nB bs) ∧
          (∀ b o, b < s.heap.objs.size → s.heap.get? b = some o → h'.get? b = some o)) E) PySem.F.called_set.init.plain PySem.F.entry_set_init (check_set_init_1 hT ?_)) fun r₂ s₂ hr₂ => ?_
      · obtain ⟨⟨ocls, odict, odata, oslots⟩, hol, hcl, nl, hdl⟩ := hl
        simp only at hcl hdl
        subst hcl hdl
        have hol' := gk _ _ hol
        have hsls := PySem.F.sub_list_set
        have hslf := PySem.F.sub_list_frozenset
        have hne : (Value.type "list" == Value.type "dict") = false := by decide
        have hl1 : g.IsList l items := ⟨_, hol', rfl, nl, rfl⟩
        unfold Builtin.«set.__init__» noKeywords Builtin.Frozenset.updateFrom
        generalize hPI : pyIter = PI
        wp_walk
        subst hPI
        refine wpAny_pyIter_list hl1 (wpAny_bind (wpAny_runValue ?_))
        have hlS : l < s.heap.objs.size := Heap.lt_size hol
        have hh3 : A.in1.in1.in1.handled = none := by simp [hh]
        have W := (Walks.list (prog := prog) (w := w) (A := A.in1.in1.in1) hh3 g.objs.size l (by rw [gz]; exact Nat.ne_of_lt (Nat.lt_succ_of_lt hlS)) items).toS
        rw [hz] at W
        refine update_bools W s.heap.objs.size (by rw [gz]; simp only [List.mem_cons, List.not_mem_nil, or_false, not_or]; exact ⟨Nat.ne_of_lt (Nat.lt_succ_self _), Nat.ne_of_gt hlS⟩) (fun i v hv => ?_) (bs.length - 0) 0 _ (by omega) (Nat.zero_le _)
          ⟨⟨_, Heap.get?_push_size _ rfl, rfl, rfl⟩, (hl1.push _)⟩ ?hS0 ?hR
        · have hv' : items.toList[i]? = some v := by rw [Array.getElem?_toList]; exact hv
          rw [hi, List.getElem?_map] at hv'
          cases e : bs[i]? with
          | none => rw [e] at hv'; cases hv'
          | some b => rw [e] at hv'; exact ⟨b, rfl, (Option.some.inj hv').symm⟩
        case hS0 =>
          have hget : (g.push { cls := .type "list_iterator", data := .fields #[.ref l, .int 0 0] }).get? s.heap.objs.size = some { cls := .type "set", dict := none, data := .set #[] 0 (.fresh 0 0 led) } := Heap.get?_push_of_some _ gS
          exact SetOf_congr ((setObjOf_fresh (knd := boolK prog w) led).setOf hget (by unfold scanBound; omega)) (fun _ => rfl) rfl
        case hR =>
          intro s' hm hS'
          obtain ⟨h', g', d', tk', os'⟩ := s'
          have eg : g' = s.gens := hm.gens
          have ed : d' = s.drawn := hm.drawn
          have eo : os' = s.os := hm.os
          subst eg ed eo
          show wpAny _ _ _ _ _ _
          refine wpAny_pure ?_
          show wpAny _ _ (ret Value.none) _ _ _
          refine wpAny_pure ⟨rfl, h', tk', rfl, hS', fun b o hb e => hm.heap b o ?_ (Heap.get?_push_of_some _ (gk _ _ e))⟩
          rw [gz]
          simp only [List.mem_cons, List.not_mem_nil, or_false, not_or]
          exact ⟨Nat.ne_of_lt hb, Nat.ne_of_lt (Nat.lt_succ_of_lt hb)⟩
      · cases r₂ with
        | error e => exact hr₂
        | ok fl₂ =>
          cases fl₂ with
          | ret r =>
            obtain ⟨rfl, h', tk, rfl, hS', hk'⟩ := hr₂
            repeat (any_goals (first | assumption | wp_step))
            exact h _ _ hS' hk'
          | _ => exact hr₂.elim
    | _ => exact hr.elim
end
def tLenSetB (K : PySem.W.Frag) (ta : TE) : TE := fun σ H Q => ta σ H fun x H1 => ∃ (l : Addr) (bs : List Bool), x = .ref l ∧ SqL K H1 l (bs.map V.bl) ∧ Q (.int (nB bs : Nat)) H1
theorem pe_lenSetB {X : Cx} {a : Expr} {ta : TE} {p p2 q pos : Pos} (hg : Gl X "len") (hm : X.mg "len" = none) (hg2 : Gl X "set") (hm2 : X.mg "set" = none) (ha : PE X a ta) (hc : X.calm = true := by rfl)
    (na : starEach [a] X.env = (false, eval a X.env) :: starEach [] X.env := by rfl) : PE X (.Call (.Name "len" p) [.Call (.Name "set" p2) [a] [] q] [] pos) (tLenSetB X.K ta) := by
  refine ⟨fun pins s σ H Q I h => ?_⟩
  refine Call_ (ld_blt I hg hm boot_len (PyProof.Rows.callWith_builtin1 (PyProof.Rows.args_cons ?_ rfl) rfl rfl))
  refine Call_ (ld_blt I hg2 hm2 boot_set (PyProof.Rows.callWith_type1 (PyProof.Rows.args_cons (thn (ha.run pins s σ H _ I h) fun v s1 ⟨x, H1, I1, r1, q1⟩ => PyProof.Rows.args_nil ?_) na) na rfl))
  obtain ⟨l, bs, rfl, hq, q1⟩ := q1
  cases r1
  obtain ⟨its, r, pl, hz⟩ := I1.list hq
  refine call_set_bools (I1.ok.hd hc) pl.isList r.bls fun h' tk hS hk => PyProof.Rows.args_nil ?_
  obtain ⟨o, es, ep, t, ho, hex, hd, _, _, _, hf, hn⟩ := hS
  have I2 : L2.Inv X pins σ H1 { s1 with heap := h', toks := tk } := I1.kept fun b o e => hk b o (Heap.lt_size e) e
  exact call_len_set ho hex hd hf (by rw [hn]; have := nB_le bs; omega) ⟨.int (nB bs : Nat), H1, I2.tok _, ⟨_, by rw [hn]⟩, q1⟩
end Du
end
section
namespace Du
open PySem PySem.Spec PyProof.Rows L2
/-! ### a def of the text, and a def that keeps a promise -/
/-- what the top's run leaves of a def, as the head shows it -/
def RawDef (K : PySem.W.Frag) (x : Str) (st : Stmt) : Prop := ∃ (f : Addr) (oc : Value) (od : Option Addr) (kV dc pm : Value) (an : Option Addr) (cd ct : Value) (sl : Array (Option Value)), PySem.W.nsIn K mainGlobals x = some (some (.ref f)) ∧
  K.lookup f = some ⟨oc, od, .func (PySem.W.fnOf x x (defArgs st) (defBody st) (defScope st) .none kV dc pm an cd ct), sl⟩ ∧ PySem.W.codeIn K cd x = true ∧ PySem.W.keepIn K (.ref f) = true
def DefAt (K : PySem.W.Frag) (mg : Str → Option Value) (x : Str) (st : Stmt) (ps : List Str) : Prop := ∃ f fd, mg x = some (.ref f) ∧ Fun K x x st f fd ∧ Binds K fd ps [] ∧
  ∃ (kV dc pm : Value) (an : Option Addr) (cd ct : Value), fd = PySem.W.fnOf x x (defArgs st) (defBody st) (defScope st) .none kV dc pm an cd ct
theorem RawDef.at {K : PySem.W.Frag} {h : Heap} {mg : Str → Option Value} {x : Str} {st : Stmt} {ps : List Str} (R : RawDef K x st) (X : K.In h) (G : h.Ns mainGlobals mg)
    (b : ∀ (kV doc pm : Value) (an : Option Addr) (cdv ct : Value) (us : List Value), us.length = ps.length → bindArgs (PySem.W.fnOf x x (defArgs st) (defBody st) (defScope st) .none kV doc pm an cdv ct) ⟨us, []⟩ = pure (ps.zip us)) : DefAt K mg x st ps := by
  obtain ⟨f, oc, od, kV, dc, pm, an, cd, ct, sl, a, l, c, k⟩ := R
  have F := fun_mk (st := st) l c k
  exact ⟨f, _, PySem.W.mg_of X G a, F, F.binds b, kV, dc, pm, an, cd, ct, rfl⟩
/-- the module's name x is a def that keeps the promise sp -/
def Has (P : Program) (w : World) (K : PySem.W.Frag) (mg : Str → Option Value) (base : Heap) (k : Nat) (x : Str) (ps : List Str) (sp : Sp) : Prop := ∃ f fd, mg x = some (.ref f) ∧ PySem.W.keepIn K (.ref f) = true ∧ Binds K fd ps [] ∧ FnOk P w K mg base CX0 k f fd ps sp
theorem pe_callH {X : Cx} {k : Nat} {x : Str} {ps : List Str} {sp : Sp} {p pos : Pos} {e : Expr} {es : List Expr} {t : TA} (F : Has X.prog X.w X.K X.mg X.base k x ps sp) (hr : Room k X.A) (hg : Gl X x) (ha : PA X (e :: es) t)
    (hdb : (x == ("__debug__" : Str)) = false := by decide) (hs : starEach (e :: es) X.env = (false, eval e X.env) :: starEach es X.env := by rfl) (hpl : (backTo pos (starEach es X.env)).any (·.1) = false := by rfl) :
    PE X (.Call (.Name x p) (e :: es) [] pos) (tCall sp [] E0 t) := by
  obtain ⟨f, fd, hm, hk, hb, F⟩ := F
  exact pe_call F hr hg hm hk hb .nil pass0 ha (hdb := hdb) (he := hs) (hpl := hpl)
section
variable {P : Program} {w : World} {K : PySem.W.Frag} {mg : Str → Option Value} {base : Heap}
theorem DefAt.has {x : Str} {st : Stmt} {N ps : List Str} {k : Nat} {sp : Sp} (D : DefAt K mg x st ps) (S : FnScope N ps (defScope st)) (len : ∀ vs H Q E, sp vs H Q E → vs.length = ps.length)
    (hbody : ∀ (f : Addr) (cdv : Value) (A : Around) (outer : List Env) (s : Shared) (H : Hp) (vs : List V) (Q : VK) (E : XK), Room k (A.deeper (envOfC x (defScope st) s.heap.objs.size f cdv)) → sp vs H Q E →
      ∃ t, PSs (cxOf CX0 P w K mg base N x (defScope st) f cdv A outer s H E).nox (defBody st) t ∧ t { nx := fun _ H' => Q .non H', rt := Q } (start N vs) H) : Has P w K mg base (k + 1) x ps sp := by
  obtain ⟨f, fd, hm, F, b, _⟩ := D
  exact ⟨f, fd, hm, F.kp, b, F.ok S len fun cdv A outer s H vs Q E hr h => hbody f cdv A outer s H vs Q E hr h⟩
theorem Has.mono {j k : Nat} {x : Str} {ps : List Str} {sp : Sp} (F : Has P w K mg base j x ps sp) (h : j ≤ k) : Has P w K mg base k x ps sp := by
  obtain ⟨f, fd, a, b, c, d⟩ := F
  exact ⟨f, fd, a, b, c, d.mono h⟩
end
/-! ### the text -/
def topS (i : Nat) : Stmt := PySem.Challenge.pw_duelsets_k24_whole_only_one_lottery.main.body.getD i (.Pass ⟨0, 0, 0, 0⟩)
abbrev s_is_alternative : Stmt := topS 6
abbrev s_require_alternative : Stmt := topS 7
abbrev s_is_set : Stmt := topS 8
abbrev s_reordered : Stmt := topS 9
abbrev s_restrict_table : Stmt := topS 10
abbrev s_with_sign : Stmt := topS 11
abbrev s_turn_duel : Stmt := topS 12
abbrev s_relabel_table : Stmt := topS 13
abbrev s_all_sets : Stmt := topS 14
abbrev s_sign_of : Stmt := topS 17
abbrev s_balances : Stmt := topS 18
abbrev s_greatest_divisor : Stmt := topS 19
abbrev s_is_weights : Stmt := topS 20
abbrev s_is_lottery : Stmt := topS 21
abbrev s_pairing_numbers : Stmt := topS 22
abbrev s_level_weights : Stmt := topS 23
abbrev s_whole_weights : Stmt := topS 24
abbrev s_lottery : Stmt := topS 25
abbrev s_support : Stmt := topS 26
abbrev s_l_deck : Stmt := topS 28
abbrev s_l_draw : Stmt := topS 29
abbrev s_l_mixed : Stmt := topS 31
abbrev s_l_table : Stmt := topS 32
abbrev s_l_same : Stmt := topS 33
abbrev s_l_without : Stmt := topS 34
abbrev s_l_stays : Stmt := topS 35
abbrev s_law : Stmt := topS 36
structure Txt (K : PySem.W.Frag) (mg : Str → Option Value) (w : World) : Prop where
  d_is_alternative : DefAt K mg "is_alternative" s_is_alternative ["table", "value"]
  d_require_alternative : DefAt K mg "require_alternative" s_require_alternative ["table", "value"]
  d_is_set : DefAt K mg "is_set" s_is_set ["table", "value"]
  d_reordered : DefAt K mg "reordered" s_reordered ["table", "items"]
  d_restrict_table : DefAt K mg "restrict_table" s_restrict_table ["table", "members"]
  d_with_sign : DefAt K mg "with_sign" s_with_sign ["table", "one", "other", "sign"]
  d_turn_duel : DefAt K mg "turn_duel" s_turn_duel ["table", "one", "other"]
  d_relabel_table : DefAt K mg "relabel_table" s_relabel_table ["table", "order"]
  d_all_sets : DefAt K mg "all_sets" s_all_sets ["table"]
  d_sign_of : DefAt K mg "sign_of" s_sign_of ["table", "one", "other"]
  d_balances : DefAt K mg "balances" s_balances ["table", "weights"]
  d_greatest_divisor : DefAt K mg "greatest_divisor" s_greatest_divisor ["numbers"]
  d_is_weights : DefAt K mg "is_weights" s_is_weights ["table", "value"]
  d_is_lottery : DefAt K mg "is_lottery" s_is_lottery ["table", "value"]
  d_pairing_numbers : DefAt K mg "pairing_numbers" s_pairing_numbers ["table"]
  d_level_weights : DefAt K mg "level_weights" s_level_weights ["numbers", "members"]
  d_whole_weights : DefAt K mg "whole_weights" s_whole_weights ["table", "members", "found"]
  d_lottery : DefAt K mg "lottery" s_lottery ["table"]
  d_support : DefAt K mg "support" s_support ["table"]
  d_l_deck : DefAt K mg "_law_deck" s_l_deck ["_law_script"]
  d_l_draw : DefAt K mg "_law_draw" s_l_draw ["_law_deck_here", "_law_many"]
  d_l_mixed : DefAt K mg "_law_mixed" s_l_mixed ["_law_deck_here", "_law_row"]
  d_l_table : DefAt K mg "_law_table" s_l_table ["_law_deck_here", "_law_most"]
  d_l_same : DefAt K mg "_law_same" s_l_same ["_law_found", "_law_due"]
  d_l_without : DefAt K mg "_law_without" s_l_without ["_law_deck_here", "_law_table_here", "_law_told"]
  d_l_stays : DefAt K mg "_law_stays" s_l_stays ["_law_deck_here", "_law_table_here", "_law_told"]
  d_law : DefAt K mg "law" s_law ["_law_script"]
  b_len : mg "len" = none
  b_range : mg "range" = none
  b_sorted : mg "sorted" = none
  b_tuple : mg "tuple" = none
  b_zip : mg "zip" = none
  b_enumerate : mg "enumerate" = none
  b_all : mg "all" = none
  b_sum : mg "sum" = none
  b_max : mg "max" = none
  b_abs : mg "abs" = none
  b_isinstance : mg "isinstance" = none
  b_int : mg "int" = none
  b_bool : mg "bool" = none
  b_set : mg "set" = none
  b_list : mg "list" = none
  b_repr : mg "repr" = none
  signs : ∃ dS, mg "SIGNS" = some (.ref dS) ∧ KDct K w dS "+" (.int 1) ∧ KDct K w dS "-" (.int (-1)) ∧ KDct K w dS "." (.int 0)
theorem txt_mk {K : PySem.W.Frag} {h : Heap} {mg : Str → Option Value} {w : World} (X : K.In h) (G : h.Ns mainGlobals mg)
    (r_is_alternative : RawDef K "is_alternative" s_is_alternative)
    (r_require_alternative : RawDef K "require_alternative" s_require_alternative)
    (r_is_set : RawDef K "is_set" s_is_set)
    (r_reordered : RawDef K "reordered" s_reordered)
    (r_restrict_table : RawDef K "restrict_table" s_restrict_table)
    (r_with_sign : RawDef K "with_sign" s_with_sign)
    (r_turn_duel : RawDef K "turn_duel" s_turn_duel)
    (r_relabel_table : RawDef K "relabel_table" s_relabel_table)
    (r_all_sets : RawDef K "all_sets" s_all_sets)
    (r_sign_of : RawDef K "sign_of" s_sign_of)
    (r_balances : RawDef K "balances" s_balances)
    (r_greatest_divisor : RawDef K "greatest_divisor" s_greatest_divisor)
    (r_is_weights : RawDef K "is_weights" s_is_weights)
    (r_is_lottery : RawDef K "is_lottery" s_is_lottery)
    (r_pairing_numbers : RawDef K "pairing_numbers" s_pairing_numbers)
    (r_level_weights : RawDef K "level_weights" s_level_weights)
    (r_whole_weights : RawDef K "whole_weights" s_whole_weights)
    (r_lottery : RawDef K "lottery" s_lottery)
    (r_support : RawDef K "support" s_support)
    (r_l_deck : RawDef K "_law_deck" s_l_deck)
    (r_l_draw : RawDef K "_law_draw" s_l_draw)
    (r_l_mixed : RawDef K "_law_mixed" s_l_mixed)
    (r_l_table : RawDef K "_law_table" s_l_table)
    (r_l_same : RawDef K "_law_same" s_l_same)
    (r_l_without : RawDef K "_law_without" s_l_without)
    (r_l_stays : RawDef K "_law_stays" s_l_stays)
    (r_law : RawDef K "law" s_law)
    (z_len : PySem.W.nsIn K mainGlobals "len" = some none)
    (z_range : PySem.W.nsIn K mainGlobals "range" = some none)
    (z_sorted : PySem.W.nsIn K mainGlobals "sorted" = some none)
    (z_tuple : PySem.W.nsIn K mainGlobals "tuple" = some none)
    (z_zip : PySem.W.nsIn K mainGlobals "zip" = some none)
    (z_enumerate : PySem.W.nsIn K mainGlobals "enumerate" = some none)
    (z_all : PySem.W.nsIn K mainGlobals "all" = some none)
    (z_sum : PySem.W.nsIn K mainGlobals "sum" = some none)
    (z_max : PySem.W.nsIn K mainGlobals "max" = some none)
    (z_abs : PySem.W.nsIn K mainGlobals "abs" = some none)
    (z_isinstance : PySem.W.nsIn K mainGlobals "isinstance" = some none)
    (z_int : PySem.W.nsIn K mainGlobals "int" = some none)
    (z_bool : PySem.W.nsIn K mainGlobals "bool" = some none)
    (z_set : PySem.W.nsIn K mainGlobals "set" = some none)
    (z_list : PySem.W.nsIn K mainGlobals "list" = some none)
    (z_repr : PySem.W.nsIn K mainGlobals "repr" = some none)
    (zS : ∃ dS, PySem.W.nsIn K mainGlobals "SIGNS" = some (some (.ref dS)) ∧ KDct K w dS "+" (.int 1) ∧ KDct K w dS "-" (.int (-1)) ∧ KDct K w dS "." (.int 0)) : Txt K mg w where
  d_is_alternative := r_is_alternative.at X G fun _ _ _ _ _ _ us hl => match us, hl with | [_, _], _ => rfl
  d_require_alternative := r_require_alternative.at X G fun _ _ _ _ _ _ us hl => match us, hl with | [_, _], _ => rfl
  d_is_set := r_is_set.at X G fun _ _ _ _ _ _ us hl => match us, hl with | [_, _], _ => rfl
  d_reordered := r_reordered.at X G fun _ _ _ _ _ _ us hl => match us, hl with | [_, _], _ => rfl
  d_restrict_table := r_restrict_table.at X G fun _ _ _ _ _ _ us hl => match us, hl with | [_, _], _ => rfl
  d_with_sign := r_with_sign.at X G fun _ _ _ _ _ _ us hl => match us, hl with | [_, _, _, _], _ => rfl
  d_turn_duel := r_turn_duel.at X G fun _ _ _ _ _ _ us hl => match us, hl with | [_, _, _], _ => rfl
  d_relabel_table := r_relabel_table.at X G fun _ _ _ _ _ _ us hl => match us, hl with | [_, _], _ => rfl
  d_all_sets := r_all_sets.at X G fun _ _ _ _ _ _ us hl => match us, hl with | [_], _ => rfl
  d_sign_of := r_sign_of.at X G fun _ _ _ _ _ _ us hl => match us, hl with | [_, _, _], _ => rfl
  d_balances := r_balances.at X G fun _ _ _ _ _ _ us hl => match us, hl with | [_, _], _ => rfl
  d_greatest_divisor := r_greatest_divisor.at X G fun _ _ _ _ _ _ us hl => match us, hl with | [_], _ => rfl
  d_is_weights := r_is_weights.at X G fun _ _ _ _ _ _ us hl => match us, hl with | [_, _], _ => rfl
  d_is_lottery := r_is_lottery.at X G fun _ _ _ _ _ _ us hl => match us, hl with | [_, _], _ => rfl
  d_pairing_numbers := r_pairing_numbers.at X G fun _ _ _ _ _ _ us hl => match us, hl with | [_], _ => rfl
  d_level_weights := r_level_weights.at X G fun _ _ _ _ _ _ us hl => match us, hl with | [_, _], _ => rfl
  d_whole_weights := r_whole_weights.at X G fun _ _ _ _ _ _ us hl => match us, hl with | [_, _, _], _ => rfl
  d_lottery := r_lottery.at X G fun _ _ _ _ _ _ us hl => match us, hl with | [_], _ => rfl
  d_support := r_support.at X G fun _ _ _ _ _ _ us hl => match us, hl with | [_], _ => rfl
  d_l_deck := r_l_deck.at X G fun _ _ _ _ _ _ us hl => match us, hl with | [_], _ => rfl
  d_l_draw := r_l_draw.at X G fun _ _ _ _ _ _ us hl => match us, hl with | [_, _], _ => rfl
  d_l_mixed := r_l_mixed.at X G fun _ _ _ _ _ _ us hl => match us, hl with | [_, _], _ => rfl
  d_l_table := r_l_table.at X G fun _ _ _ _ _ _ us hl => match us, hl with | [_, _], _ => rfl
  d_l_same := r_l_same.at X G fun _ _ _ _ _ _ us hl => match us, hl with | [_, _], _ => rfl
  d_l_without := r_l_without.at X G fun _ _ _ _ _ _ us hl => match us, hl with | [_, _, _], _ => rfl
  d_l_stays := r_l_stays.at X G fun _ _ _ _ _ _ us hl => match us, hl with | [_, _, _], _ => rfl
  d_law := r_law.at X G fun _ _ _ _ _ _ us hl => match us, hl with | [_], _ => rfl
  b_len := PySem.W.mg_none_of X G z_len
  b_range := PySem.W.mg_none_of X G z_range
  b_sorted := PySem.W.mg_none_of X G z_sorted
  b_tuple := PySem.W.mg_none_of X G z_tuple
  b_zip := PySem.W.mg_none_of X G z_zip
  b_enumerate := PySem.W.mg_none_of X G z_enumerate
  b_all := PySem.W.mg_none_of X G z_all
  b_sum := PySem.W.mg_none_of X G z_sum
  b_max := PySem.W.mg_none_of X G z_max
  b_abs := PySem.W.mg_none_of X G z_abs
  b_isinstance := PySem.W.mg_none_of X G z_isinstance
  b_int := PySem.W.mg_none_of X G z_int
  b_bool := PySem.W.mg_none_of X G z_bool
  b_set := PySem.W.mg_none_of X G z_set
  b_list := PySem.W.mg_none_of X G z_list
  b_repr := PySem.W.mg_none_of X G z_repr
  signs := let ⟨d, e, r⟩ := zS; ⟨d, PySem.W.mg_of X G e, r⟩
end Du
end
section
namespace Du
open PySem PySem.Spec PyProof.Rows L2 Duel
/-! ### heaps -/
theorem seqT {K : PySem.W.Frag} {H H' : Hp} {a : Addr} {xs : List V} (e : Same H H') (h : SqT K H a xs) : SqT K H' a xs := by
  rcases h with (h | ⟨o, h⟩) | h
  · exact .inl (.inl (e _ _ h))
  · exact .inl (.inr ⟨o, e _ _ h⟩)
  · exact .inr h
theorem same_upd {H : Hp} {p : Addr} {o : HO} (h : H p = none) : Same H (upd H p o) := fun b x e => by
  rw [upd_ne (ne_of_none e h)]
  exact e
/-! ### comprehensions that only lay new objects -/
theorem range_snoc (f : Nat → V) (i : Nat) : (List.range (i + 1)).map f = (List.range i).map f ++ [f i] := by rw [List.range_succ, List.map_append]; rfl
theorem lc_map {J : It} {n : Nat} {G : Hp → Prop} {Y : Nat → Hp → V → Hp → Prop} {g : TG} {te : TE} {vs : List Nat} {σ : L2.St} {H1 : Hp} {D : Addr} {Qd : Hp → Prop} (w : Walk J n G Y) (f : Nat → V) (hn : n ≤ sizeLine) (hD : H1 D = none) (hG : ∀ H, Same H1 H → G H)
    (hs : ∀ (i : Nat) (x : V) (H H' : Hp) (C : V → Hp → Prop), i < n → Same H1 H → H D = some (.lst ((List.range i).map f)) → Y i H x H' → (∀ H3, Same H H3 → C (f i) H3) → g x (wipe σ vs) H' fun σ2 H2 => wipe σ2 vs = wipe σ vs ∧ te σ2 H2 C)
    (hd : ∀ H, Same H1 H → H D = some (.lst ((List.range n).map f)) → Qd H) :
    ∃ W : Nat → Nat → Hp → Prop, (∃ m, W 0 m (upd H1 D (.lst []))) ∧ ∀ i m H, W i m H →
      (J.stop i H ∧ Qd H) ∨ (J.go i H ∧ ∃ Nx : Hp → Prop, (∀ H', Nx H' → ∃ m', m' < m ∧ W (i + 1) m' H') ∧ ∀ x H', J.yld i H x H' → g x (wipe σ vs) H' fun σ2 H2 => wipe σ2 vs = wipe σ vs ∧ tYes σ2 H2 fun b H3 =>
        if b = true then te σ2 H3 fun y H4 => ∃ acc, H4 D = some (.lst acc) ∧ acc.length < sizeLine ∧ Nx (upd H4 D (.lst (acc ++ [y]))) else Nx H3) := by
  refine lc_it (tt := tYes) w (fun i H => Same H1 H ∧ H D = some (.lst ((List.range i).map f))) ⟨same_upd hD, upd_same⟩ (fun i H _ p => hG H p.1) (fun i x H H' hi p y => ?_) (fun H p => hd H p.1 p.2)
  have z := hs i x H H' (fun y H4 => ∃ acc, H4 D = some (.lst acc) ∧ acc.length < sizeLine ∧ (Same H1 (upd H4 D (.lst (acc ++ [y]))) ∧ (upd H4 D (.lst (acc ++ [y]))) D = some (.lst ((List.range (i + 1)).map f)))) hi p.1 p.2 y fun H3 sm => ?_
  · exact z
  · refine ⟨_, sm _ _ p.2, by rw [List.length_map, List.length_range]; omega, fun b o e => ?_, ?_⟩
    · rw [upd_ne (ne_of_none e hD)]
      exact sm _ _ (p.1 _ _ e)
    · rw [upd_same, range_snoc]
theorem filt_snoc (p : Nat → Bool) (f : Nat → V) (i : Nat) : ((List.range (i + 1)).filter p).map f = if p i = true then ((List.range i).filter p).map f ++ [f i] else ((List.range i).filter p).map f := by
  rw [List.range_succ, List.filter_append, List.map_append]
  cases h : p i <;> simp [h]
theorem lc_filter {J : It} {n : Nat} {G : Hp → Prop} {Y : Nat → Hp → V → Hp → Prop} {g : TG} {tt : TT} {te : TE} {vs : List Nat} {σ : L2.St} {H1 : Hp} {D : Addr} {Qd : Hp → Prop} (w : Walk J n G Y) (p : Nat → Bool) (f : Nat → V) (hn : n ≤ sizeLine) (hD : H1 D = none) (hG : ∀ H, Same H1 H → G H)
    (hs : ∀ (i : Nat) (x : V) (H H' : Hp) (N : Hp → Prop) (C : V → Hp → Prop), i < n → Same H1 H → Y i H x H' → (p i = true → ∀ H3, Same H H3 → C (f i) H3) → (p i = false → ∀ H3, Same H H3 → N H3) →
      g x (wipe σ vs) H' fun σ2 H2 => wipe σ2 vs = wipe σ vs ∧ tt σ2 H2 fun b H3 => if b = true then te σ2 H3 C else N H3)
    (hd : ∀ H, Same H1 H → H D = some (.lst (((List.range n).filter p).map f)) → Qd H) :
    ∃ W : Nat → Nat → Hp → Prop, (∃ m, W 0 m (upd H1 D (.lst []))) ∧ ∀ i m H, W i m H →
      (J.stop i H ∧ Qd H) ∨ (J.go i H ∧ ∃ Nx : Hp → Prop, (∀ H', Nx H' → ∃ m', m' < m ∧ W (i + 1) m' H') ∧ ∀ x H', J.yld i H x H' → g x (wipe σ vs) H' fun σ2 H2 => wipe σ2 vs = wipe σ vs ∧ tt σ2 H2 fun b H3 =>
        if b = true then te σ2 H3 fun y H4 => ∃ acc, H4 D = some (.lst acc) ∧ acc.length < sizeLine ∧ Nx (upd H4 D (.lst (acc ++ [y]))) else Nx H3) := by
  refine lc_it w (fun i H => Same H1 H ∧ H D = some (.lst (((List.range i).filter p).map f))) ⟨same_upd hD, upd_same⟩ (fun i H _ p => hG H p.1) (fun i x H H' hi q y => ?_) (fun H p => hd H p.1 p.2)
  refine hs i x H H' (fun H3 => Same H1 H3 ∧ H3 D = some (.lst (((List.range (i + 1)).filter p).map f))) (fun y H4 => ∃ acc, H4 D = some (.lst acc) ∧ acc.length < sizeLine ∧ (Same H1 (upd H4 D (.lst (acc ++ [y]))) ∧ (upd H4 D (.lst (acc ++ [y]))) D = some (.lst (((List.range (i + 1)).filter p).map f)))) hi q.1 y (fun ht H3 sm => ?_) fun hf H3 sm => ?_
  · refine ⟨_, sm _ _ q.2, ?_, fun b o e => ?_, ?_⟩
    · have h1 : ((List.range i).filter p).length ≤ (List.range i).length := List.length_filter_le _ _
      rw [List.length_range] at h1
      rw [List.length_map]
      omega
    · rw [upd_ne (ne_of_none e hD)]
      exact sm _ _ (q.1 _ _ e)
    · rw [upd_same, filt_snoc, if_pos ht]
  · refine ⟨q.1.trans sm, ?_⟩
    rw [filt_snoc, if_neg (by rw [hf]; exact Bool.false_ne_true)]
    exact sm _ _ q.2
/-! ### tables -/
def sg (x : Int) : Nat := if x = 0 then 46 else if 0 < x then 43 else 45
/-- the text of row i -/
def rowS (n : Nat) (a : Nat → Nat → Int) (i : Nat) : Str := ⟨((List.range n).map fun j => sg (a i j)).toArray⟩
def tabV (n : Nat) (a : Nat → Nat → Int) : List V := (List.range n).map fun i => V.str (rowS n a i)
theorem tabV_len (n : Nat) (a : Nat → Nat → Int) : (tabV n a).length = n := by unfold tabV; rw [List.length_map, List.length_range]
theorem tabV_get {n : Nat} {a : Nat → Nat → Int} {i : Nat} (h : i < n) : (tabV n a)[i]? = some (V.str (rowS n a i)) := by
  unfold tabV
  rw [List.getElem?_map, List.getElem?_range h]; rfl
theorem rowS_len (n : Nat) (a : Nat → Nat → Int) (i : Nat) : (rowS n a i).length = n := by
  show (((List.range n).map fun j => sg (a i j)).toArray).size = n
  rw [List.size_toArray, List.length_map, List.length_range]
theorem rowS_get {n : Nat} {a : Nat → Nat → Int} {i j : Nat} (h : j < n) : (rowS n a i).cps.toList[j]? = some (sg (a i j)) := by
  show (((List.range n).map fun j => sg (a i j)).toArray).toList[j]? = _
  rw [List.toList_toArray, List.getElem?_map, List.getElem?_range h]; rfl
theorem tab3 {n : Nat} {a : Nat → Nat → Int} (T : Tab n a) {i j : Nat} (hi : i < n) (hj : j < n) : a i j = 0 ∨ a i j = 1 ∨ a i j = -1 := by
  by_cases e : i = j
  · subst e; exact .inl (T.dg i hi)
  · exact .inr (T.pm i j hi hj e)
theorem small9 {n : Nat} (h : n ≤ 1000) : n ≤ sizeLine := Nat.le_of_lt (small1000 h)
section
variable {P : Program} {w : World} {K : PySem.W.Frag} {mg : Str → Option Value} {base : Heap}
/-! ### sign_of -/
def spSign (K : PySem.W.Frag) : Sp := fun vs H Q _ => ∃ (t : Addr) (n : Nat) (a : Nat → Nat → Int) (i j : Nat), vs = [.ref t, .int i, .int j] ∧ SqT K H t (tabV n a) ∧ n ≤ 9 ∧ Tab n a ∧ i < n ∧ j < n ∧ Q (.int (a i j)) H
theorem sc_sign : FnScope ["table", "one", "other"] ["table", "one", "other"] (defScope s_sign_of) := ⟨rfl, rfl, rfl, by decide +kernel, rfl, by decide +kernel, by decide +kernel⟩
theorem ok_sign (T : Txt K mg w) : Has P w K mg base 1 "sign_of" ["table", "one", "other"] (spSign K) := by
  refine T.d_sign_of.has sc_sign (fun vs H Q E h => ?_) (fun f cdv A outer s H vs Q E hr h => ?_)
  · obtain ⟨t, n, a, i, j, rfl, _⟩ := h
    rfl
  · obtain ⟨t, n, a, i, j, rfl, hT, hn, tb, hi, hj, q⟩ := h
    obtain ⟨dS, mS, kp, km, kd⟩ := T.signs
    refine ⟨_, pss_one (ps_ret (pe_ix ix_kdict (pe_glob rfl mS (v := .ref dS) rfl) (pe_ix ix_str (pe_ix ix_tup (pv 0) (pv 1) (fun _ _ => rfl)) (pv 2) (fun _ _ => rfl)) (fun _ _ => rfl))), ?_⟩
    refine ⟨.ref t, rfl, .int i, rfl, t, tabV n a, i, .str (rowS n a i), rfl, rfl, hT, atI_nat (tabV_get hi), .int j, rfl, rowS n a i, j, sg (a i j), rfl, rfl, by rw [rowS_len]; exact small9 (by omega), atI_nat (rowS_get hj), ?_⟩
    rcases tab3 tb hi hj with e | e | e
    · rw [e] at q ⊢
      exact ⟨dS, ".", .int 0, rfl, rfl, kd, q⟩
    · rw [e] at q ⊢
      exact ⟨dS, "+", .int 1, rfl, rfl, kp, q⟩
    · rw [e] at q ⊢
      exact ⟨dS, "-", .int (-1), rfl, rfl, km, q⟩
end
end Du
end
section
namespace Du
open PySem PySem.Spec PyProof.Rows L2 Duel
section
variable {P : Program} {w : World} {K : PySem.W.Frag} {mg : Str → Option Value} {base : Heap}
/-! ### balances -/
def balV (n : Nat) (a : Nat → Nat → Int) (ws : List Int) : List V := (List.range n).map fun i => V.int (bal n a (fun j => ws.getD j 0) i)
def spBal (K : PySem.W.Frag) : Sp := fun vs H Q _ => ∃ (t p : Addr) (n : Nat) (a : Nat → Nat → Int) (ws : List Int), vs = [.ref t, .ref p] ∧ SqT K H t (tabV n a) ∧ SqT K H p (ws.map V.int) ∧ n ≤ 9 ∧ Tab n a ∧ ws.length = n ∧
  ∀ H' q, Same H H' → H q = none → H' q = some (.tup (balV n a ws)) → Q (.ref q) H'
theorem sc_bal : FnScope ["table", "weights", "result", "one", "other", "weight"] ["table", "weights"] (defScope s_balances) := ⟨rfl, rfl, rfl, by decide +kernel, rfl, by decide +kernel, by decide +kernel⟩
theorem sum_sm (f : Nat → Int) : ∀ n : Nat, ((List.range n).map f).sum = sm n f
  | 0 => rfl
  | n + 1 => by
    rw [List.range_succ, List.map_append, List.sum_append, sum_sm f n, sm_succ]
    show sm n f + (f n + 0) = _
    omega
theorem ok_bal (T : Txt K mg w) : Has P w K mg base 2 "balances" ["table", "weights"] (spBal K) := by
  refine T.d_balances.has sc_bal (fun vs H Q E h => ?_) (fun f cdv A outer s H vs Q E hr h => ?_)
  · obtain ⟨t, p, n, a, ws, rfl, _⟩ := h
    rfl
  · obtain ⟨t, p, n, a, ws, rfl, hT, hW, hn, tb, hw, q⟩ := h
    refine ⟨_, pss_cons (ps_set (i := 2) sc_bal.nd rfl (.inl rfl) (pe_lst pa_nil))
      (pss_cons (ps_for PassesOwn.never rfl (pi_range1 rfl T.b_range (pa_cons (pe_callB call_len_seq (by rfl) T.b_len PySem.boot_len (pa_cons (pv 0) pa_nil)) pa_nil)) (pg_name (i := 3) sc_bal.nd rfl (.inr rfl))
        (pss_one (ps_expr (pe_bm PySem.F.plainAttrs_list PySem.F.slot_list_append PySem.F.type_list_append mt_append (pv 2) (pa_cons
          (pe_callB (cr_sum rfl) (by rfl) T.b_sum (by decide +kernel) (pa_cons
            (pe_lc (own := [("other", 4), ("weight", 5)]) (g := gTup K 2 (gCons (gName 4) (gCons (gName 5) gNil))) (tt := tYes) rfl sc_bal.nd (pi_enumT (by rfl) T.b_enumerate (pa_cons (pv 1) pa_nil)) (blkOk_by (N := ["table", "weights", "result", "one", "other", "weight"]) (sc := defScope s_balances) (by decide +kernel))
              (fun _ _ _ _ _ => pg_tup rfl (pgs_cons (pg_name (i := 4) sc_bal.nd rfl (.inl rfl)) (pgs_cons (pg_name (i := 5) sc_bal.nd rfl (.inl rfl)) pgs_nil))) (fun _ _ _ _ _ => pts_nil)
              (fun _ _ _ _ _ => pe_op op_mul (pv 5) (pe_callH (ok_sign T) hr (by rfl) (pa_cons (pv 0) (pa_cons (pv 3) (pa_cons (pv 4) pa_nil)))))) pa_nil)) pa_nil)))))
      (pss_one (ps_ret (pe_callTy call_tuple_of (by rfl) T.b_tuple (by decide +kernel) (pa_cons (pv 2) pa_nil))))), ?_⟩
    -- result = []
    refine ⟨Nat.zero_le _, fun r nr => ?_⟩
    have s1 : Same H (upd H r (.lst [])) := same_upd nr
    -- for one in range(len(table))
    refine ⟨.ref t, rfl, t, tabV n a, rfl, .inr (seqT s1 hT), ((tabV n a).length : Int), rfl, by rw [tabV_len]; omega, by rw [tabV_len]; omega, ?_⟩
    rw [tabV_len]
    refine for_range (lo := 0) (n := (n : Int).toNat) (fun i σ H' => ∃ y3, σ = [some (.ref t), some (.ref p), some (.ref r), y3, none, none] ∧ Same H H' ∧ H' r = some (.lst ((List.range i).map fun i => V.int (bal n a (fun j => ws.getD j 0) i))))
      ⟨none, rfl, s1, upd_same⟩ ?_ ?_
    · rintro i σ H' hi ⟨y3, rfl, sm, er⟩
      have hi' : i < n := by omega
      refine ⟨.ref r, rfl, .inl ⟨rfl, _, SqL.of er⟩, .ref p, rfl, p, ws.map V.int, rfl, seqT sm hW, fun D hD => ?_⟩
      refine lc_map walk_enumT (fun j => V.int (ws.getD j 0 * a i j)) (by rw [List.length_map]; exact small9 (by omega)) hD (fun H' sm' => seqT (sm.trans sm') hW) (fun j x H2 H3 C hj sm2 _ hy hC => ?_) fun H2 sm2 eD => ?_
      · obtain ⟨p2, x1, x2, rfl, np, rfl, e1, e2⟩ := hy
        cases e1
        rw [List.length_map] at hj
        replace e2 : (ws.map V.int)[j]? = some x2 := e2
        rw [List.getElem?_map, List.getElem?_eq_getElem hj] at e2
        cases e2
        have s3 : Same H2 (upd H2 p2 (.tup [V.int (j : Nat), V.int ws[j]])) := same_upd np
        refine ⟨p2, _, rfl, .inl (.inl upd_same), rfl, _, _, rfl, _, _, rfl, rfl, rfl, ?_⟩
        refine ⟨_, rfl, .ref t, rfl, _, rfl, _, rfl, t, n, a, i, j, by simp, seqT (((sm.trans sm2).trans s3)) hT, hn, tb, hi', by omega, ws[j], a i j, rfl, rfl, .inr ?_, ?_⟩
        · rcases tab3 tb hi' (show j < n by omega) with e | e | e <;> rw [e] <;> decide
        · have := hC _ s3
          rw [getD_get hj] at this
          exact this
      · refine ⟨D, (List.range ws.length).map fun j => ws.getD j 0 * a i j, rfl, SqL.of ?_, r, _, _, rfl, rfl, sm2 _ _ er, ?_, ?_⟩
        · rw [eD, List.length_map, List.map_map]
          rfl
        · rw [List.length_map, List.length_range]
          exact small1000 (by omega)
        · refine ⟨_, rfl, fun b o e => ?_, ?_⟩
          · rw [upd_ne (ne_of_none e nr)]
            exact sm2 _ _ (sm _ _ e)
          · rw [upd_same, range_snoc, sum_sm, hw]
            rfl
    · rintro σ H' ⟨y3, rfl, sm, er⟩
      refine ⟨.ref r, rfl, r, _, rfl, .inl ⟨SqL.of er, fun l nl => ?_⟩⟩
      refine q _ l (sm.trans (same_upd nl)) (Same.free sm nl) ?_
      rw [upd_same]
      rfl
end
end Du
end
section
namespace Du
open PySem PySem.Spec PyProof.Rows L2 Duel
section
variable {X : Cx}
/-- a list or a tuple that stands at a name -/
def iSeq (K : PySem.W.Frag) (tl : TE) : TI := fun σ H R => tl σ H fun x H1 => ∃ a, x = .ref a ∧ ((∃ xs, SqL K H1 a xs ∧ R (Itl K a) H1) ∨ (∃ xs, SqT K H1 a xs ∧ R (Itt K a) H1))
theorem pi_seqV {tg l : Expr} {i : Nat} (h : PE X l (tVar i)) : PI X tg l (iSeq X.K (tVar i)) := ⟨fun pins s σ H R I ⟨v, hv, a, e, q⟩ => by
  rcases q with ⟨xs, hq, r⟩ | ⟨xs, hq, r⟩
  · exact (pi_list h).run pins s σ H R I ⟨v, hv, a, e, ⟨xs, hq⟩, r⟩
  · exact (pi_tup h).run pins s σ H R I ⟨v, hv, a, e, ⟨xs, hq⟩, r⟩⟩
end
section
variable {P : Program} {w : World} {K : PySem.W.Frag} {mg : Str → Option Value} {base : Heap}
/-! ### greatest_divisor -/
def spGcd (K : PySem.W.Frag) : Sp := fun vs H Q _ => ∃ (p : Addr) (ns : List Int), vs = [.ref p] ∧ (SqL K H p (ns.map V.int) ∨ SqT K H p (ns.map V.int)) ∧ (∀ x ∈ ns, 0 ≤ x) ∧ Q (.int (gL ns : Nat)) H
theorem sc_gcd : FnScope ["numbers", "result", "number"] ["numbers"] (defScope s_greatest_divisor) := ⟨rfl, rfl, rfl, by decide +kernel, rfl, by decide +kernel, by decide +kernel⟩
theorem gL_snoc (l : List Int) (x : Int) : gL (l ++ [x]) = Nat.gcd (gL l) x.natAbs := by
  unfold gL
  rw [List.foldl_append]; rfl
theorem ok_gcd (T : Txt K mg w) : Has P w K mg base 1 "greatest_divisor" ["numbers"] (spGcd K) := by
  refine T.d_greatest_divisor.has sc_gcd (fun vs H Q E h => ?_) (fun f cdv A outer s H vs Q E hr h => ?_)
  · obtain ⟨p, ns, rfl, _⟩ := h
    rfl
  · obtain ⟨p, ns, rfl, hS, hn, q⟩ := h
    refine ⟨_, pss_cons (ps_set (i := 1) sc_gcd.nd rfl (.inl rfl) pe_int)
      (pss_cons (ps_for PassesOwn.never rfl (pi_seqV (pv 0)) (pg_name (i := 2) sc_gcd.nd rfl (.inl rfl))
        (pss_one (ps_while PassesOwn.never (pt_cmpR op_gt (pv 2) pe_int (nomark _))
          (pss_one (ps_par (i := 1) (j := 2) rfl sc_gcd.nd rfl rfl (by decide) rfl rfl (pa_cons (pv 2) (pa_cons (pe_op op_mod (pv 1) (pv 2)) pa_nil)) rfl)))))
      (pss_one (ps_ret (pv 1)))), ?_⟩
    have turn : ∀ (D : Ends) (i : Nat) (x : V) (σ : L2.St) (H' : Hp), (ns.map V.int)[i]? = some x → (H' = H ∧ ∃ y2, σ = [some (.ref p), some (.int (gL (ns.take i) : Nat)), y2]) → D.nx = (fun σ H' => H' = H ∧ ∃ y2, σ = [some (.ref p), some (.int (gL (ns.take (i + 1)) : Nat)), y2]) →
        tWhile (tTest (tOp (rI0 fun i j => .bl (decide (j < i))) (tVar 2) (tC (.int 0)))) (tPar 1 2 (tCons (tVar 2) (tCons (tOp (rI (fun _ j => 0 < j) fun i j => .int (i % j)) (tVar 1) (tVar 2)) tNil))) D (σ.set 2 (some x)) H' := by
      rintro D i x σ H' hx ⟨rfl, y2, rfl⟩ hD
      have hi : i < ns.length := by have := (List.getElem?_eq_some_iff.mp hx).1; rw [List.length_map] at this; exact this
      rw [List.getElem?_map, List.getElem?_eq_getElem hi] at hx
      cases hx
      have h0 : 0 ≤ ns[i] := hn _ (List.getElem_mem hi)
      refine while_by (fun σ H2 => H2 = H' ∧ ∃ r y : Nat, σ = [some (.ref p), some (.int r), some (.int y)] ∧ Nat.gcd r y = gL (ns.take (i + 1))) (fun σ _ => match σ with | [_, _, some (.int y)] => y.toNat | _ => 0)
        ⟨rfl, gL (ns.take i), ns[i].toNat, ?_, ?_⟩ ?_ ?_
      · rw [Int.toNat_of_nonneg h0]; rfl
      · rw [List.take_add_one, List.getElem?_eq_getElem hi]
        show _ = gL (ns.take i ++ [ns[i]])
        rw [gL_snoc]
        congr 1
        omega
      · rintro σ H2 ⟨rfl, r, y, rfl, e⟩
        refine ⟨_, rfl, (y : Int), 0, rfl, rfl, _, rfl, ite2 (fun hy => ?_) (fun hy => ?_)⟩
        · have hy := of_decide_eq_true hy
          refine ⟨.int y, rfl, .int r, rfl, .int y, rfl, r, y, rfl, rfl, hy, _, _, rfl, ⟨rfl, y, r % y, ?_, ?_⟩, ?_⟩
          · rfl
          · rw [← e, Nat.gcd_comm r y, Nat.gcd_rec y r, Nat.gcd_comm]
          · show (((r : Int) % (y : Int)).toNat) < ((y : Int)).toNat
            have := Nat.mod_lt r (show 0 < y by omega)
            omega
        · have hy : ¬ (0 : Int) < (y : Int) := fun z => hy (decide_eq_true z)
          have y0 : y = 0 := by omega
          subst y0
          rw [Nat.gcd_zero_right] at e
          rw [hD, ← e]
          exact ⟨rfl, _, rfl⟩
      · rintro σ H2 Q1 Q2 h ⟨v, e1, i, j, e2, e3, k, e4, q⟩
        exact ⟨v, e1, i, j, e2, e3, k, e4, h _ _ q⟩
    refine ⟨.ref p, rfl, p, rfl, ?_⟩
    have e0 : (ns.map V.int).length = ns.length := List.length_map _
    rcases hS with hS | hS
    · refine .inl ⟨_, hS, for_list (K := K) (a := p) (xs := ns.map V.int) (fun i σ H' => H' = H ∧ ∃ y2, σ = [some (.ref p), some (.int (gL (ns.take i) : Nat)), y2]) ⟨rfl, none, rfl⟩ (fun i σ H' _ ⟨e, _⟩ => by rw [e]; exact hS) (fun i x σ H' hx hp => turn _ i x σ H' hx hp rfl) ?_⟩
      rintro σ H' ⟨rfl, y2, rfl⟩
      rw [e0, List.take_length]
      exact ⟨_, rfl, q⟩
    · refine .inr ⟨_, hS, for_tup (K := K) (a := p) (xs := ns.map V.int) (fun i σ H' => H' = H ∧ ∃ y2, σ = [some (.ref p), some (.int (gL (ns.take i) : Nat)), y2]) ⟨rfl, none, rfl⟩ (fun i σ H' _ ⟨e, _⟩ => by rw [e]; exact hS) (fun i x σ H' hx hp => turn _ i x σ H' hx hp rfl) ?_⟩
      rintro σ H' ⟨rfl, y2, rfl⟩
      rw [e0, List.take_length]
      exact ⟨_, rfl, q⟩
end
end Du
end
section
namespace Du
open PySem PySem.Spec PyProof.Rows L2 Duel
section
variable {P : Program} {w : World} {K : PySem.W.Frag} {mg : Str → Option Value} {base : Heap}
theorem isi_ii : PySem.W.kitOne K (.type "int") (.type "int") = some true := kit_ty (by decide +kernel)
theorem isi_ib : PySem.W.kitOne K (.type "int") (.type "bool") = some false := kit_ty (by decide +kernel)
theorem isi_tt : PySem.W.kitOne K (.type "tuple") (.type "tuple") = some true := kit_ty (by decide +kernel)
/-! ### is_weights -/
def spIsW (K : PySem.W.Frag) : Sp := fun vs H Q _ => ∃ (t p : Addr) (n : Nat) (a : Nat → Nat → Int) (ws : List Int), vs = [.ref t, .ref p] ∧ SqT K H t (tabV n a) ∧ H p = some (.tup (ws.map V.int)) ∧ n ≤ 9 ∧ ws.length = n ∧ (∀ x ∈ ws, 0 ≤ x) ∧
  ∀ H', Same H H' → Q (.bl (decide (gL ws = 1))) H'
theorem sc_isw : FnScope ["table", "value", "item"] ["table", "value"] (defScope s_is_weights) := ⟨rfl, rfl, rfl, by decide +kernel, rfl, by decide +kernel, by decide +kernel⟩
theorem all_true (n : Nat) : ((List.range n).map fun _ => true).all id = true := by simp
theorem ok_isw (T : Txt K mg w) : Has P w K mg base 2 "is_weights" ["table", "value"] (spIsW K) := by
  refine T.d_is_weights.has sc_isw (fun vs H Q E h => ?_) (fun f cdv A outer s H vs Q E hr h => ?_)
  · obtain ⟨t, p, n, a, ws, rfl, _⟩ := h
    rfl
  · obtain ⟨t, p, n, a, ws, rfl, hT, hW, hn, hl, h0, q⟩ := h
    refine ⟨_, pss_cons (ps_if (PW.pt (pw_or (pt_not (pt_val (pe_callB (id := "isinstance") call_isi (by rfl) T.b_isinstance (by decide +kernel) (pa_cons (pv 1) (pa_cons (pe_bltn (v := .ty "tuple") (by rfl) T.b_tuple (by decide +kernel) rfl) pa_nil)))))
          (pw_or1 (pt_cmpR op_ne (pe_callB call_len_seq (by rfl) T.b_len PySem.boot_len (pa_cons (pv 1) pa_nil)) (pe_callB call_len_seq (by rfl) T.b_len PySem.boot_len (pa_cons (pv 0) pa_nil)) (nomark _)))))
        (pss_one (ps_ret pe_bl)) pss_nil)
      (pss_cons (ps_if (pt_not (pt_val (pe_callB (cr_all rfl) (by rfl) T.b_all (by decide +kernel) (pa_cons
          (pe_lc (own := [("item", 2)]) (g := gName 2) (tt := tYes) rfl sc_isw.nd (pi_tup (pv 1)) (blkOk_by (N := ["table", "value", "item"]) (sc := defScope s_is_weights) (by decide +kernel))
            (fun _ _ _ _ _ => pg_name (i := 2) sc_isw.nd rfl (.inl rfl)) (fun _ _ _ _ _ => pts_nil)
            (fun _ _ _ _ _ => pe_and (pe_callB (show CallR _ (.builtin "isinstance") (rIsi K) from call_isi) (by rfl) T.b_isinstance (by decide +kernel) (pa_cons (pv 2) (pa_cons (pe_bltn (v := .ty "int") (by rfl) T.b_int (by decide +kernel) rfl) pa_nil)))
              (pe_and (pe_not (pe_callB (show CallR _ (.builtin "isinstance") (rIsi K) from call_isi) (by rfl) T.b_isinstance (by decide +kernel) (pa_cons (pv 2) (pa_cons (pe_bltn (v := .ty "bool") (by rfl) T.b_bool (by decide +kernel) rfl) pa_nil))))
                (pe_one (pe_cmpR op_ge (pv 2) pe_int (nomark _)))))) pa_nil))))
        (pss_one (ps_ret pe_bl)) pss_nil)
      (pss_one (ps_ret (pe_cmpR op_eq (pe_callH (ok_gcd T) (hr.mono (by decide)) (by rfl) (pa_cons (pv 1) pa_nil)) pe_int (nomark _))))), ?_⟩
    refine ⟨.ref p, rfl, .ref p, .ty "tuple", .type "tuple", .type "tuple", true, rfl, .ty _, .base (.tup hW), isi_tt, true, rfl, ?_⟩
    refine iteF ⟨.ref p, rfl, p, _, rfl, .inr (SqT.of hW), .ref t, rfl, t, _, rfl, .inr hT, rfl, _, rfl, ?_⟩
    rw [tabV_len, List.length_map, hl]
    have e0 : (!decide (V.int (n : Nat) = V.int (n : Nat))) = false := by simp
    rw [e0]
    refine iteF ⟨.ref p, rfl, p, rfl, ⟨_, SqT.of hW⟩, fun D hD => ?_⟩
    refine lc_map (walk_tup (xs := ws.map V.int)) (fun j => V.bl true) (by rw [List.length_map]; exact small9 (by omega)) hD (fun H' sm => seqT sm (SqT.of hW)) (fun j x H2 H3 C hj sm2 _ hy hC => ?_) fun H2 sm2 eD => ?_
    · obtain ⟨rfl, hx⟩ := hy
      rw [List.length_map] at hj
      rw [List.getElem?_map, List.getElem?_eq_getElem hj] at hx
      cases hx
      have hge : (0 : Int) ≤ ws[j] := h0 _ (List.getElem_mem hj)
      refine ⟨rfl, .int ws[j], rfl, .int ws[j], .ty "int", .type "int", .type "int", true, rfl, .ty _, .base (.int _), isi_ii, true, rfl, iteT ?_⟩
      refine ⟨.int ws[j], rfl, .int ws[j], .ty "bool", .type "int", .type "bool", false, rfl, .ty _, .base (.int _), isi_ib, false, rfl, true, rfl, iteT ?_⟩
      refine ⟨_, rfl, ws[j], 0, rfl, rfl, ?_⟩
      have z := hC _ (Same.refl _)
      rw [← decide_eq_true hge] at z
      exact z
    · refine ⟨D, (List.range (ws.map V.int).length).map fun _ => true, rfl, SqL.of ?_, ?_⟩
      · rw [eD, List.map_map]
        rfl
      · rw [all_true]
        refine ⟨true, rfl, iteF ?_⟩
        refine ⟨.ref p, rfl, p, ws, rfl, .inr (SqT.of (sm2 _ _ hW)), h0, rfl, ?_⟩
        have e1 : decide (V.int (gL ws : Nat) = V.int 1) = decide (gL ws = 1) := decide_eq_decide.mpr ⟨fun z => by have := V.int.inj z; omega, fun z => by rw [z]; rfl⟩
        rw [e1]
        exact q _ sm2
/-! ### is_lottery -/
def spIsLot (K : PySem.W.Frag) : Sp := fun vs H Q _ => ∃ (t p : Addr) (n : Nat) (a : Nat → Nat → Int) (ws : List Int), vs = [.ref t, .ref p] ∧ SqT K H t (tabV n a) ∧ H p = some (.tup (ws.map V.int)) ∧ 1 ≤ n ∧ n ≤ 9 ∧ Tab n a ∧ ws.length = n ∧ (∀ x ∈ ws, 0 ≤ x) ∧
  ∀ H' b, Same H H' → (b = true ↔ IsLot n a ws) → Q (.bl b) H'
theorem sc_isl : FnScope ["table", "value"] ["table", "value"] (defScope s_is_lottery) := ⟨rfl, rfl, rfl, by decide +kernel, rfl, by decide +kernel, by decide +kernel⟩
theorem ok_isl (T : Txt K mg w) : Has P w K mg base 3 "is_lottery" ["table", "value"] (spIsLot K) := by
  refine T.d_is_lottery.has sc_isl (fun vs H Q E h => ?_) (fun f cdv A outer s H vs Q E hr h => ?_)
  · obtain ⟨t, p, n, a, ws, rfl, _⟩ := h
    rfl
  · obtain ⟨t, p, n, a, ws, rfl, hT, hW, h1, hn, tb, hl, h0, q⟩ := h
    refine ⟨_, pss_one (ps_ret (pe_and (pe_callH (ok_isw T) hr (by rfl) (pa_cons (pv 0) (pa_cons (pv 1) pa_nil)))
      (pe_one (pe_cmpR op_le (pe_callB (cr_maxT rfl) (by rfl) T.b_max (by decide +kernel) (pa_cons (pe_callH (ok_bal T) hr (by rfl) (pa_cons (pv 0) (pa_cons (pv 1) pa_nil))) pa_nil)) pe_int (nomark _))))), ?_⟩
    refine ⟨.ref t, rfl, .ref p, rfl, t, p, n, a, ws, rfl, hT, hW, hn, hl, h0, fun H1 s1 => ⟨_, rfl, ite2 (fun hg => ?_) (fun hg => ?_)⟩⟩
    · have hg : gL ws = 1 := of_decide_eq_true hg
      refine ⟨.ref t, rfl, .ref p, rfl, t, p, n, a, ws, rfl, seqT s1 hT, SqT.of (s1 _ _ hW), hn, tb, hl, fun H2 qa s2 nq eq => ?_⟩
      refine ⟨qa, (List.range n).map fun i => bal n a (fun j => ws.getD j 0) i, rfl, SqT.of ?_, by rw [List.length_map, List.length_range]; exact h1, fun m hm hmax => ?_⟩
      · rw [eq]
        unfold balV
        rw [List.map_map]
        rfl
      · refine ⟨m, 0, rfl, rfl, ?_⟩
        refine q _ _ (s1.trans s2) ⟨fun hd => ?_, fun L => ?_⟩
        · have hm0 := of_decide_eq_true hd
          exact ⟨hl, h0, hg, fun i hi => Int.le_trans (hmax _ (List.mem_map.mpr ⟨i, List.mem_range.mpr hi, rfl⟩)) hm0⟩
        · obtain ⟨i, hi, rfl⟩ := List.mem_map.mp hm
          exact decide_eq_true (L.bl i (List.mem_range.mp hi))
    · have hg : ¬ gL ws = 1 := fun z => hg (decide_eq_true z)
      exact q _ false s1 ⟨fun z => Bool.noConfusion z, fun L => absurd L.gc hg⟩
end
end Du
end
section
namespace Du
open PySem PySem.Spec PyProof.Rows L2 Duel
/-! ### tuples of alternatives -/
def nV (M : List Nat) : List V := M.map fun j => V.int (j : Nat)
def kM (M : List Nat) : List Key := M.map fun j => Sum.inl ((j : Nat) : Int)
theorem kM_map (M : List Nat) : (kM M).map kV = nV M := by unfold kM nV; rw [List.map_map]; rfl
theorem kM_inj {M N : List Nat} (e : kM M = kM N) : M = N := by
  induction M generalizing N with
  | nil =>
    cases N with
    | nil => rfl
    | cons => cases e
  | cons x M ih =>
    cases N with
    | nil => cases e
    | cons y N =>
      have e1 : (Sum.inl (x : Int) : Key) = Sum.inl (y : Int) := (List.cons.inj e).1
      have e2 : (x : Int) = y := Sum.inl.inj e1
      rw [ih (List.cons.inj e).2, show x = y by omega]
theorem nV_app (M N : List Nat) : nV (M ++ N) = nV M ++ nV N := List.map_append
theorem nV_len (M : List Nat) : (nV M).length = M.length := List.length_map _
theorem nV_get {M : List Nat} {k : Nat} (h : k < M.length) : (nV M)[k]? = some (V.int (M.getD k 0 : Nat)) := by
  unfold nV
  rw [List.getElem?_map, List.getElem?_eq_getElem h, getD_get h]; rfl
def kOf (H : Hp) (t : Addr) : List Nat := match H t with
  | some (.tup xs) => xs.map fun x => match x with | .int i => i.toNat | _ => 0
  | _ => []
theorem kOf_eq {H : Hp} {t : Addr} {M : List Nat} (h : H t = some (.tup (nV M))) : kOf H t = M := by
  unfold kOf
  rw [h]
  show (nV M).map _ = M
  unfold nV
  rw [List.map_map]
  refine (List.map_congr_left fun j _ => ?_).trans (List.map_id M)
  show ((j : Nat) : Int).toNat = id j
  simp
structure Laid (H : Hp) (ts : List Addr) (Ms : List (List Nat)) : Prop where
  al : ∀ t ∈ ts, H t = some (.tup (nV (kOf H t)))
  mp : ts.map (kOf H) = Ms
theorem Laid.same {H H' : Hp} {ts : List Addr} {Ms : List (List Nat)} (L : Laid H ts Ms) (e : Same H H') : Laid H' ts Ms := by
  have h : ∀ t ∈ ts, kOf H' t = kOf H t := fun t ht => kOf_eq (e _ _ (L.al t ht))
  refine ⟨fun t ht => ?_, ?_⟩
  · rw [h t ht]; exact e _ _ (L.al t ht)
  · rw [List.map_congr_left h]; exact L.mp
theorem Laid.app {H : Hp} {ts us : List Addr} {Ms Ns : List (List Nat)} (L : Laid H ts Ms) (L' : Laid H us Ns) : Laid H (ts ++ us) (Ms ++ Ns) := by
  refine ⟨fun t ht => ?_, ?_⟩
  · rcases List.mem_append.mp ht with h | h
    · exact L.al t h
    · exact L'.al t h
  · rw [List.map_append, L.mp, L'.mp]
theorem Laid.one {H : Hp} {t : Addr} {M : List Nat} (h : H t = some (.tup (nV M))) : Laid H [t] [M] := by
  refine ⟨fun u hu => ?_, ?_⟩
  · rw [List.mem_singleton] at hu
    subst hu
    rw [kOf_eq h]; exact h
  · rw [List.map_singleton, kOf_eq h]
theorem Laid.nil {H : Hp} : Laid H [] [] := ⟨fun t ht => by simp at ht, rfl⟩
theorem Laid.len {H : Hp} {ts : List Addr} {Ms : List (List Nat)} (L : Laid H ts Ms) : ts.length = Ms.length := by rw [← L.mp, List.length_map]
theorem Laid.mem {H : Hp} {ts : List Addr} {Ms : List (List Nat)} (L : Laid H ts Ms) {t : Addr} (h : t ∈ ts) : kOf H t ∈ Ms := by rw [← L.mp]; exact List.mem_map_of_mem h
theorem Laid.of {H : Hp} {ts : List Addr} {Ms : List (List Nat)} (L : Laid H ts Ms) {M : List Nat} (h : M ∈ Ms) : ∃ t, t ∈ ts ∧ kOf H t = M := by rw [← L.mp] at h; exact List.mem_map.mp h
theorem Laid.perm {H : Hp} {ts us : List Addr} {Ms : List (List Nat)} (L : Laid H ts Ms) (p : us.Perm ts) : Laid H us (us.map (kOf H)) ∧ (us.map (kOf H)).Perm Ms := by
  refine ⟨⟨fun t ht => L.al t (p.mem_iff.mp ht), rfl⟩, ?_⟩
  rw [← L.mp]
  exact p.map _
theorem Laid.get {H : Hp} {ts : List Addr} {Ms : List (List Nat)} (L : Laid H ts Ms) {i : Nat} {x : V} (h : (ts.map V.ref)[i]? = some x) : ∃ t M, x = .ref t ∧ H t = some (.tup (nV M)) ∧ Ms[i]? = some M ∧ ts[i]? = some t ∧ kOf H t = M := by
  rw [List.getElem?_map] at h
  cases e : ts[i]? with
  | none => rw [e] at h; cases h
  | some t =>
    rw [e] at h
    cases h
    have ht : t ∈ ts := List.mem_of_getElem? e
    refine ⟨t, kOf H t, rfl, L.al t ht, ?_, rfl, rfl⟩
    rw [← L.mp, List.getElem?_map, e]; rfl
/-- t + u, as a tuple that stands -/
theorem catA {K : PySem.W.Frag} {H : Hp} {a b : Addr} {xs ys : List V} {Q : VK} (ha : H a = some (.tup xs)) (hb : H b = some (.tup ys)) (hz : xs.length + ys.length ≤ sizeLine) (h : ∀ H' p, Same H H' → H' p = some (.tup (xs ++ ys)) → Q (.ref p) H') : rCatA K (.ref a) (.ref b) H Q := by
  refine ⟨a, b, xs, ys, rfl, rfl, SqT.of ha, SqT.of hb, hz, fun e => ?_, fun _ e => ?_, fun _ _ p np => ?_⟩
  · subst e; exact h _ _ (Same.refl _) hb
  · subst e; exact h _ _ (Same.refl _) (by rw [List.append_nil]; exact ha)
  · exact h _ _ (same_upd np) upd_same
/-! ### all sublists -/
def allS : Nat → List (List Nat)
  | 0 => [[]]
  | n + 1 => allS n ++ (allS n).map fun M => M ++ [n]
theorem allS_len : ∀ n, (allS n).length = 2 ^ n
  | 0 => rfl
  | n + 1 => by show (allS n ++ (allS n).map fun M => M ++ [n]).length = _; rw [List.length_append, List.length_map, allS_len n, Nat.pow_succ]; omega
theorem allS_head : ∀ n, ∃ r, allS n = [] :: r
  | 0 => ⟨[], rfl⟩
  | n + 1 => by
    obtain ⟨r, e⟩ := allS_head n
    exact ⟨r ++ (allS n).map fun M => M ++ [n], by show allS n ++ _ = _; rw [e]; rfl⟩
theorem allS_sub : ∀ (n : Nat) (M : List Nat), M ∈ allS n → M.Sublist (List.range n)
  | 0, M, h => by rw [List.mem_singleton.mp h]; exact List.nil_sublist _
  | n + 1, M, h => by
    rw [List.range_succ]
    rcases List.mem_append.mp (show M ∈ allS n ++ _ from h) with h | h
    · exact (allS_sub n M h).trans (List.sublist_append_left _ _)
    · obtain ⟨N, hN, rfl⟩ := List.mem_map.mp h
      exact (allS_sub n N hN).append (List.Sublist.refl _)
theorem allS_all : ∀ (n : Nat) (M : List Nat), M.Sublist (List.range n) → M ∈ allS n
  | 0, M, h => by
    have : M = [] := List.sublist_nil.mp h
    rw [this]; exact List.mem_singleton.mpr rfl
  | n + 1, M, h => by
    rw [List.range_succ] at h
    obtain ⟨A, B, rfl, h1, h2⟩ := List.sublist_append_iff.mp h
    show A ++ B ∈ allS n ++ _
    rcases List.sublist_cons_iff.mp h2 with h3 | ⟨C, rfl, h3⟩
    · rw [List.sublist_nil.mp h3, List.append_nil]
      exact List.mem_append_left _ (allS_all n A h1)
    · rw [List.sublist_nil.mp h3]
      exact List.mem_append_right _ (List.mem_map.mpr ⟨A, allS_all n A h1, rfl⟩)
theorem sub_nd {n : Nat} {M : List Nat} (h : M.Sublist (List.range n)) : M.Nodup := List.Pairwise.sublist h List.nodup_range
theorem sub_lt {n : Nat} {M : List Nat} (h : M.Sublist (List.range n)) : ∀ j ∈ M, j < n := fun j hj => List.mem_range.mp (h.subset hj)
theorem sub_len {n : Nat} {M : List Nat} (h : M.Sublist (List.range n)) : M.length ≤ n := by have := h.length_le; rw [List.length_range] at this; exact this
section
variable {P : Program} {w : World} {K : PySem.W.Frag} {mg : Str → Option Value} {base : Heap}
def spAll (K : PySem.W.Frag) : Sp := fun vs H Q _ => ∃ (t : Addr) (n : Nat) (a : Nat → Nat → Int), vs = [.ref t] ∧ SqT K H t (tabV n a) ∧ n ≤ 9 ∧
  ∀ H' p ts Ms, Same H H' → H' p = some (.tup (ts.map V.ref)) → Laid H' ts Ms → Ms.Perm (allS n) → Q (.ref p) H'
theorem sc_all : FnScope ["table", "found", "one", "members"] ["table"] (defScope s_all_sets) := ⟨rfl, rfl, rfl, by decide +kernel, rfl, by decide +kernel, by decide +kernel⟩
theorem ok_all (T : Txt K mg w) : Has P w K mg base 1 "all_sets" ["table"] (spAll K) := by
  refine T.d_all_sets.has sc_all (fun vs H Q E h => ?_) (fun f cdv A outer s H vs Q E hr h => ?_)
  · obtain ⟨t, n, a, rfl, _⟩ := h
    rfl
  · obtain ⟨t, n, a, rfl, hT, hn, q⟩ := h
    refine ⟨_, pss_cons (ps_set (i := 1) sc_all.nd rfl (.inl rfl) (pe_lst (pa_cons (pe_tup pa_nil) pa_nil)))
      (pss_cons (ps_for PassesOwn.never rfl (pi_range1 rfl T.b_range (pa_cons (pe_callB call_len_seq (by rfl) T.b_len PySem.boot_len (pa_cons (pv 0) pa_nil)) pa_nil)) (pg_name (i := 2) sc_all.nd rfl (.inr rfl))
        (pss_one (ps_set (i := 1) sc_all.nd rfl (.inl rfl) (pe_op op_cat (pv 1)
            (pe_lc (own := [("members", 3)]) (g := gName 3) (tt := tYes) rfl sc_all.nd (pi_list (pv 1)) (blkOk_by (N := ["table", "found", "one", "members"]) (sc := defScope s_all_sets) (by decide +kernel))
              (fun _ _ _ _ _ => pg_name (i := 3) sc_all.nd rfl (.inl rfl)) (fun _ _ _ _ _ => pts_nil)
              (fun _ _ _ _ _ => pe_op (show OpR _ (binaryOp .Add) (rCatA K) from op_catA) (pv 3) (pe_tup (pa_cons (pv 2) pa_nil))))))))
      (pss_one (ps_ret (pe_callTy call_tuple_of (by rfl) T.b_tuple (by decide +kernel) (pa_cons (pe_callB (cr_sortTI hr.units) (by rfl) T.b_sorted (by decide +kernel) (pa_cons (pv 1) pa_nil)) pa_nil))))), ?_⟩
    refine ⟨Nat.zero_le _, fun e ne => ⟨Nat.le_of_lt (small1000 (by show 1 ≤ 1000; decide)), fun r nr => ?_⟩⟩
    have s1 : Same H (upd H e (.tup [])) := same_upd ne
    have s2 : Same (upd H e (.tup [])) (upd (upd H e (.tup [])) r (.lst [V.ref e])) := same_upd nr
    refine ⟨.ref t, rfl, t, tabV n a, rfl, .inr (seqT (s1.trans s2) hT), ((tabV n a).length : Int), rfl, by rw [tabV_len]; omega, by rw [tabV_len]; omega, ?_⟩
    rw [tabV_len]
    have hp9 : ∀ i, i ≤ 8 → 2 ^ i ≤ 256 := fun i hi => Nat.pow_le_pow_right (by decide) hi
    have hz : (1000 : Nat) < sizeLine := small1000 (by decide)
    refine for_range (lo := 0) (n := (n : Int).toNat) (fun i σ H' => ∃ r ts y2, σ = [some (.ref t), some (.ref r), y2, none] ∧ Same H H' ∧ H' r = some (.lst (ts.map V.ref)) ∧ Laid H' ts (allS i))
      ⟨r, [e], none, rfl, s1.trans s2, upd_same, Laid.one (s2 _ _ upd_same)⟩ ?_ ?_
    · rintro i σ H' hi ⟨r, ts, y2, rfl, sm, er, L⟩
      have hi' : i < n := by omega
      have hl : ts.length ≤ 256 := by rw [L.len, allS_len]; exact hp9 i (by omega)
      refine ⟨.ref r, rfl, .ref r, rfl, r, rfl, ⟨_, SqL.of er⟩, fun D hD => ?_⟩
      refine lc_it (tt := tYes) (walk_list (xs := ts.map V.ref)) (fun j H2 => Same H' H2 ∧ ∃ us, H2 D = some (.lst (us.map V.ref)) ∧ us.length = j ∧ Laid H2 us (((allS i).take j).map fun M => M ++ [i])) ⟨same_upd hD, [], upd_same, rfl, Laid.nil⟩
        (fun j H2 _ p => SqL.of (p.1 _ _ er)) (fun j x H2 H3 hj p y => ?_) fun H2 p => ?_
      · obtain ⟨s3, us, eD, lu, Lu⟩ := p
        obtain ⟨rfl, hx⟩ := y
        obtain ⟨m, M, rfl, em, eM, _, _⟩ := L.get hx
        have em3 := s3 _ _ em
        refine ⟨rfl, .ref m, rfl, .int (0 + i), rfl, Nat.le_of_lt (small1000 (by show 1 ≤ 1000; decide)), fun b nb => ?_⟩
        have s4 := same_upd (o := .tup [V.int (0 + i)]) nb
        have hM : M.length ≤ 9 := by
          have := sub_len (allS_sub i M (List.mem_of_getElem? eM)); omega
        refine catA (s4 _ _ em3) upd_same (by rw [nV_len]; show M.length + 1 ≤ _; omega) fun H4 p s5 ep => ?_
        rw [List.length_map] at hj
        refine ⟨us.map V.ref, s5 _ _ (s4 _ _ eD), by rw [List.length_map]; omega, ?_⟩
        have hpD : p ≠ D := fun z => by
          rw [z, s5 _ _ (s4 _ _ eD)] at ep
          cases ep
        have hkeep : ∀ q M, H4 q = some (.tup M) → upd H4 D (.lst (us.map V.ref ++ [V.ref p])) q = some (.tup M) := fun q M hq => by
          have hq' : q ≠ D := fun z => by
            rw [z, s5 _ _ (s4 _ _ eD)] at hq
            cases hq
          rw [upd_ne hq']; exact hq
        refine ⟨fun b o h => ?_, us ++ [p], by rw [upd_same, List.map_append]; rfl, by rw [List.length_append, lu]; rfl, ?_⟩
        · rw [upd_ne (ne_of_none h hD)]
          exact s5 _ _ (s4 _ _ (s3 _ _ h))
        · rw [List.take_add_one, eM, List.map_append]
          refine Laid.app ⟨fun u hu => ?_, ?_⟩ (Laid.one (hkeep _ _ ?_))
          · have h4 := (Lu.same (s4.trans s5)).al u hu
            rw [kOf_eq (hkeep _ _ h4)]
            exact hkeep _ _ h4
          · rw [← (Lu.same (s4.trans s5)).mp]
            exact List.map_congr_left fun u hu => kOf_eq (hkeep _ _ ((Lu.same (s4.trans s5)).al u hu))
          · rw [ep, nV_app]
            show _ = some (HO.tup (nV M ++ [V.int (i : Nat)]))
            rw [show (0 : Int) + i = i by omega]
      · obtain ⟨s3, us, eD, lu, Lu⟩ := p
        rw [List.length_map] at lu
        have e1 : (allS i).take ts.length = allS i := by rw [L.len]; exact List.take_length
        rw [List.length_map, e1] at Lu
        refine ⟨r, D, _, _, rfl, rfl, s3 _ _ er, eD, by rw [List.length_map, List.length_map]; omega, fun p np => ?_⟩
        have s4 := same_upd (o := .lst (ts.map V.ref ++ us.map V.ref)) np
        refine ⟨p, ts ++ us, _, rfl, (sm.trans s3).trans s4, by rw [upd_same, List.map_append], ?_⟩
        exact Laid.app (L.same (s3.trans s4)) (Lu.same s4)
    · rintro σ H' ⟨r, ts, y2, rfl, sm, er, L⟩
      have e0 : (n : Int).toNat = n := by omega
      rw [e0] at L
      obtain ⟨rs, e1⟩ := allS_head n
      have hl : ts.length = 2 ^ n := by rw [L.len, allS_len]
      cases ts with
      | nil => have := Nat.two_pow_pos n; simp at hl; omega
      | cons t0 ts =>
        refine ⟨.ref r, rfl, r, t0, ts, fun u => (kOf H' u).map fun j => ((j : Nat) : Int), rfl, SqL.of er, fun u hu => SqT.of ?_, ?_, fun ts' p hp np => ?_⟩
        · rw [List.map_map]
          exact L.al u hu
        · have := L.mp
          rw [e1, List.map_cons] at this
          show (kOf H' t0).map _ = []
          rw [(List.cons.inj this).1]; rfl
        · have s4 := same_upd (o := .lst (ts'.map V.ref)) np
          refine ⟨p, _, rfl, .inl ⟨SqL.of upd_same, fun l nl => ?_⟩⟩
          have s5 := same_upd (o := .tup (ts'.map V.ref)) nl
          have L5 := (L.same (s4.trans s5)).perm hp
          exact q _ l ts' _ (sm.trans (s4.trans s5)) upd_same L5.1 L5.2
end
end Du
end
section
namespace Du
open PySem PySem.Spec PyProof.Rows L2 Duel
/-! ### ==, != of lists and tuples of ints -/
theorem lay_ints : ∀ ns : List Int, PyData.canLayAll0 (ns.map PyData.int) = true
  | [] => by simp [PyData.canLayAll0]
  | n :: r => by simp [PyData.canLayAll0, PyData.canLay0, lay_ints r]
theorem dep_ints : ∀ ns : List Int, PyData.depthAll (ns.map PyData.int) ≤ 1
  | [] => by simp [PyData.depthAll]
  | n :: r => by
    have := dep_ints r
    simp only [List.map_cons, PyData.depthAll, PyData.depth]
    omega
theorem shp_list (ns : List Int) : SeqAt.shaped (.list (ns.map PyData.int)) = true := by
  have h1 := dep_ints ns
  have h2 : PyData.depth (.list (ns.map PyData.int)) ≤ 64 := by simp only [PyData.depth]; omega
  show (PyData.canLay0 (.list (ns.map PyData.int)) && decide (PyData.depth (.list (ns.map PyData.int)) ≤ 64)) = true
  rw [Bool.and_eq_true]
  exact ⟨by simp only [PyData.canLay0]; exact lay_ints ns, decide_eq_true h2⟩
theorem shp_tup (ns : List Int) : SeqAt.shaped (.tuple (ns.map PyData.int)) = true := by
  have h1 := dep_ints ns
  have h2 : PyData.depth (.tuple (ns.map PyData.int)) ≤ 64 := by simp only [PyData.depth]; omega
  show (PyData.canLay0 (.tuple (ns.map PyData.int)) && decide (PyData.depth (.tuple (ns.map PyData.int)) ≤ 64)) = true
  rw [Bool.and_eq_true]
  exact ⟨by simp only [PyData.canLay0]; exact lay_ints ns, decide_eq_true h2⟩
theorem eqv_ints : ∀ ns ms : List Int, PyData.eqvAll (ns.map PyData.int) (ms.map PyData.int) = decide (ns = ms)
  | [], [] => by simp [PyData.eqvAll]
  | [], _ :: _ => by simp [PyData.eqvAll]
  | _ :: _, [] => by simp [PyData.eqvAll]
  | n :: r, k :: q => by
    simp only [List.map_cons, PyData.eqvAll, PyData.eqv, eqv_ints r q]
    by_cases h : n = k <;> simp [h]
theorem dp_ints {K : PySem.W.Frag} {H : Hp} : ∀ ns : List Int, DpAll K H (ns.map V.int) (ns.map PyData.int)
  | [] => .nil
  | n :: r => .cons (.int n) (dp_ints r)
section
variable {K : PySem.W.Frag} {H : Hp} {a b : Addr} {ns ms : List Int} {Q : VK}
theorem neL (ha : SqL K H a (ns.map V.int)) (hb : SqL K H b (ms.map V.int)) (h : Q (.bl (!decide (ns = ms))) H) : rNeD K (.ref a) (.ref b) H Q := by
  refine ⟨_, _, .lst ha (dp_ints ns), .lst hb (dp_ints ms), shp_list ns, shp_list ms, ?_⟩
  simp only [PyData.eqv]
  rw [eqv_ints]; exact h
theorem eqL (ha : SqL K H a (ns.map V.int)) (hb : SqL K H b (ms.map V.int)) (h : Q (.bl (decide (ns = ms))) H) : rEqD K (.ref a) (.ref b) H Q := by
  refine ⟨_, _, .lst ha (dp_ints ns), .lst hb (dp_ints ms), shp_list ns, shp_list ms, ?_⟩
  simp only [PyData.eqv]
  rw [eqv_ints]; exact h
theorem neT (ha : SqT K H a (ns.map V.int)) (hb : SqT K H b (ms.map V.int)) (h : Q (.bl (!decide (ns = ms))) H) : rNeD K (.ref a) (.ref b) H Q := by
  refine ⟨_, _, .tup ha (dp_ints ns), .tup hb (dp_ints ms), shp_tup ns, shp_tup ms, ?_⟩
  simp only [PyData.eqv]
  rw [eqv_ints]; exact h
theorem eqT (ha : SqT K H a (ns.map V.int)) (hb : SqT K H b (ms.map V.int)) (h : Q (.bl (decide (ns = ms))) H) : rEqD K (.ref a) (.ref b) H Q := by
  refine ⟨_, _, .tup ha (dp_ints ns), .tup hb (dp_ints ms), shp_tup ns, shp_tup ms, ?_⟩
  simp only [PyData.eqv]
  rw [eqv_ints]; exact h
end
/-! ### alternatives as ints -/
def iV (M : List Nat) : List Int := M.map fun j => ((j : Nat) : Int)
theorem iV_map (M : List Nat) : (iV M).map V.int = nV M := by unfold iV nV; rw [List.map_map]; rfl
theorem iV_inj {M N : List Nat} : iV M = iV N ↔ M = N := by
  refine ⟨fun e => ?_, fun e => by rw [e]⟩
  have h : (iV M).map Int.toNat = (iV N).map Int.toNat := by rw [e]
  unfold iV at h
  rw [List.map_map, List.map_map] at h
  have f : (Int.toNat ∘ fun j : Nat => (j : Int)) = id := funext fun j => by simp
  rw [f, List.map_id, List.map_id] at h
  exact h
theorem iV_nil {M : List Nat} : iV M = [] ↔ M = [] := by unfold iV; rw [List.map_eq_nil_iff]
end Du
end
section
namespace Du
open PySem PySem.Spec PyProof.Rows L2 Duel
theorem tIf_pm {c : Bool} {σ : L2.St} {H : Hp} {Qc : VK} (z : Int) (h1 : c = true → z = 1) (h2 : c = false → z = -1) (h : Qc (.int z) H) : if c = true then tC (.int 1) σ H Qc else tUn (rU fun i => .int (-i)) (tC (.int 1)) σ H Qc := by
  cases c with
  | true =>
    rw [h1 rfl] at h
    exact iteT h
  | false =>
    rw [h2 rfl] at h
    exact iteF ⟨1, rfl, h⟩
theorem u1 {A : Around} (h : A.units + 64 < cLine) : A.units + 1 < cLine := by omega
theorem decI (i j : Int) : decide (V.int i = V.int j) = decide (i = j) := decide_eq_decide.mpr ⟨fun z => V.int.inj z, fun z => by rw [z]⟩
/-- a changed dict is no tuple -/
theorem dT_tup {H : Hp} {d q : Addr} {kvs : List (List Key × V)} {o : HO} {xs : List V} (e : H d = some (.dT kvs)) (h : H q = some (.tup xs)) : upd H d o q = some (.tup xs) := by
  have ne : q ≠ d := fun z => by
    subst z
    rw [h] at e; cases e
  rw [upd_ne ne]; exact h
theorem dT_lst {H : Hp} {d q : Addr} {kvs : List (List Key × V)} {o : HO} {xs : List V} (e : H d = some (.dT kvs)) (h : H q = some (.lst xs)) : upd H d o q = some (.lst xs) := by
  have ne : q ≠ d := fun z => by
    subst z
    rw [h] at e; cases e
  rw [upd_ne ne]; exact h
theorem dT_laid {H : Hp} {d : Addr} {kvs : List (List Key × V)} {o : HO} {ts : List Addr} {Ms : List (List Nat)} (e : H d = some (.dT kvs)) (L : Laid H ts Ms) : Laid (upd H d o) ts Ms := by
  have h : ∀ t ∈ ts, kOf (upd H d o) t = kOf H t := fun t ht => kOf_eq (dT_tup e (L.al t ht))
  refine ⟨fun t ht => ?_, ?_⟩
  · rw [h t ht]; exact dT_tup e (L.al t ht)
  · rw [List.map_congr_left h]; exact L.mp
theorem cut_lo {M : List Nat} {k : Nat} : cutV (nV M) (some ((k : Nat) : Int)) none = nV (M.drop k) := by
  unfold cutV
  rw [HT.sIx_nat, HT.sIx_none, nV_len]
  unfold nV
  rw [← List.map_drop, ← List.map_take]
  congr 1
  by_cases h : k ≤ M.length
  · rw [Nat.min_eq_left h]
    exact List.take_of_length_le (by rw [List.length_drop]; omega)
  · rw [Nat.min_eq_right (by omega), List.drop_of_length_le (Nat.le_refl _), List.drop_of_length_le (by omega)]
    exact List.take_nil
theorem cut_hi {M : List Nat} {k : Nat} (h : k ≤ M.length) : cutV (nV M) none (some ((k : Nat) : Int)) = nV (M.take k) := by
  unfold cutV
  rw [HT.sIx_nat, HT.sIx_none, nV_len, Nat.min_eq_left h]
  unfold nV
  rw [← List.map_drop, ← List.map_take]
  rfl
theorem cut_both {M : List Nat} {j k : Nat} (hj : j ≤ k) (h : k ≤ M.length) : cutV (nV M) (some ((j : Nat) : Int)) (some ((k : Nat) : Int)) = nV ((M.drop j).take (k - j)) := by
  unfold cutV
  rw [HT.sIx_nat, HT.sIx_nat, nV_len, Nat.min_eq_left h, Nat.min_eq_left (by omega)]
  unfold nV
  rw [← List.map_drop, ← List.map_take]
section
variable {P : Program} {w : World} {K : PySem.W.Frag} {mg : Str → Option Value} {base : Heap}
def spPair (K : PySem.W.Frag) : Sp := fun vs H Q _ => ∃ (t : Addr) (n : Nat) (a : Nat → Nat → Int), vs = [.ref t] ∧ SqT K H t (tabV n a) ∧ n ≤ 9 ∧ Tab n a ∧
  ∀ H' d kvs, Same H H' → H' d = some (.dT kvs) → (∀ M, M.Sublist (List.range n) → M.length % 2 = 0 → valV kvs (kM M) = some (.int (pf a (M.length / 2) M))) → Q (.ref d) H'
theorem sc_pair : FnScope ["table", "result", "members", "total", "at", "rest"] ["table"] (defScope s_pairing_numbers) := ⟨rfl, rfl, rfl, by decide +kernel, rfl, by decide +kernel, by decide +kernel⟩
theorem ok_pair (T : Txt K mg w) : Has P w K mg base 2 "pairing_numbers" ["table"] (spPair K) := by
  refine T.d_pairing_numbers.has sc_pair (fun vs H Q E h => ?_) (fun f cdv A outer s H vs Q E hr h => ?_)
  · obtain ⟨t, n, a, rfl, _⟩ := h
    rfl
  · obtain ⟨t, n, a, rfl, hT, hn, tb, q⟩ := h
    refine ⟨_, pss_cons (ps_set (i := 1) sc_pair.nd rfl (.inl rfl) (pe_disp1T (u1 hr.units) (pps_cons (pe_tup pa_nil) pe_int pps_nil)))
      (pss_cons (ps_for PassesOwn.never rfl (pi_list (pe_sortLen hr.units (by rfl) T.b_sorted (by rfl) T.b_len (pa_cons (pe_callH (ok_all T) hr (by rfl) (pa_cons (pv 0) pa_nil)) pa_nil))) (pg_name (i := 2) sc_pair.nd rfl (.inl rfl))
        (pss_one (ps_if (PW.pt (pw_and (pt_cmpR op_eq (pe_op op_mod (pe_callB call_len_seq (by rfl) T.b_len PySem.boot_len (pa_cons (pv 2) pa_nil)) pe_int) pe_int (nomark _)) (pw_and1 (pt_cmpR (op_neD hr.units) (pv 2) (pe_tup pa_nil) (nomark _)))))
          (pss_cons (ps_set (i := 3) sc_pair.nd rfl (.inl rfl) pe_int)
            (pss_cons (ps_for PassesOwn.never rfl (pi_range2 rfl T.b_range (pa_cons pe_int (pa_cons (pe_callB call_len_seq (by rfl) T.b_len PySem.boot_len (pa_cons (pv 2) pa_nil)) pa_nil))) (pg_name (i := 4) sc_pair.nd rfl (.inl rfl))
              (pss_cons (ps_set (i := 5) sc_pair.nd rfl (.inl rfl) (pe_op op_catA (pe_slice sl_tup (pv 2) (po_some pe_int) (po_some (pv 4))) (pe_slice sl_tup (pv 2) (po_some (pe_op op_add (pv 4) pe_int)) po_none)))
                (pss_one (ps_aug (i := 3) sc_pair.nd rfl (.inl rfl) (pe_op op_mul (pe_op op_mul (pe_ifExp (pt_cmpR op_eq (pe_op op_mod (pv 4) pe_int) pe_int (nomark _)) pe_int (pe_un un_neg pe_int))
                  (pe_callH (ok_sign T) hr (by rfl) (pa_cons (pv 0) (pa_cons (pe_ix ix_tup (pv 2) pe_int (fun _ _ => rfl)) (pa_cons (pe_ix ix_tup (pv 2) (pv 4) (fun _ _ => rfl)) pa_nil))))) (pe_dget (u1 hr.units) (pv 1) (pv 5) (fun _ _ => rfl))) ip_add))))
              (pss_one (ps_dput (u1 hr.units) (pv 1) (pv 2) (pv 3) rfl))))
          pss_nil)))
      (pss_one (ps_ret (pv 1)))), ?_⟩
    intro d nd
    have n1 : Same H (upd H d (.dT [])) := same_upd nd
    refine ⟨Nat.zero_le _, fun b nb => ⟨by rw [upd_ne (ne_of_none upd_same nb)]; exact upd_same, [], b, .int 1, rfl, upd_same, ?_⟩⟩
    have n2 := same_upd (o := .tup []) nb
    have n3 : Same H (upd (upd (upd H d (.dT [])) b (.tup [])) d (.dT [([], V.int 1)])) := fun c o e => by
      rw [upd_ne (ne_of_none e nd)]
      exact n2 _ _ (n1 _ _ e)
    refine ⟨.ref t, rfl, t, n, a, rfl, seqT n3 hT, hn, fun H1 p ts Ms s1 ep L perm => ?_⟩
    refine ⟨p, ts, fun u => nV (kOf H1 u), rfl, SqT.of ep, fun u hu => SqT.of (L.al u hu), fun ts' l hp hs nl => ?_⟩
    have s2 := same_upd (o := .lst (ts'.map V.ref)) nl
    obtain ⟨L', perm'⟩ := L.perm hp
    have perm2 := perm'.trans perm
    have hmem : ∀ M, M ∈ ts'.map (kOf H1) ↔ M.Sublist (List.range n) := fun M => ⟨fun h => allS_sub n M (perm2.mem_iff.mp h), fun h => perm2.mem_iff.mpr (allS_all n M h)⟩
    have hlen : ts'.length ≤ 512 := by
      have e1 : (ts'.map (kOf H1)).length = (allS n).length := perm2.length_eq
      rw [List.length_map, allS_len] at e1
      rw [e1]
      exact Nat.pow_le_pow_right (n := 2) (by decide) hn
    have hz : (1000 : Nat) < sizeLine := small1000 (Nat.le_refl _)
    have sorted : ∀ i j (hi : i < ts'.length) (hj : j < ts'.length), i < j → (kOf H1 ts'[i]).length ≤ (kOf H1 ts'[j]).length := fun i j hi hj hij => by
      have := List.pairwise_iff_getElem.mp hs i j hi hj hij
      rw [nV_len, nV_len] at this
      exact this
    refine ⟨l, rfl, ⟨_, SqL.of upd_same⟩, ?_⟩
    refine for_list (K := K) (a := l) (xs := ts'.map V.ref) (fun i σ H' => ∃ y2 y3 y4 y5 kvs, σ = [some (.ref t), some (.ref d), y2, y3, y4, y5] ∧ Same H H' ∧ H' l = some (.lst (ts'.map V.ref)) ∧ H' d = some (.dT kvs) ∧ (∀ u ∈ ts', H' u = some (.tup (nV (kOf H1 u)))) ∧ kvs.length ≤ i + 1 ∧
      valV kvs (kM []) = some (.int 1) ∧ ∀ j (hj : j < ts'.length), j < i → (kOf H1 ts'[j]).length % 2 = 0 → valV kvs (kM (kOf H1 ts'[j])) = some (.int (pf a ((kOf H1 ts'[j]).length / 2) (kOf H1 ts'[j]))))
      ⟨none, none, none, none, [([], .int 1)], rfl, n3.trans (s1.trans s2), upd_same, s2 _ _ (s1 _ _ upd_same), fun u hu => s2 _ _ (L'.al u hu), Nat.le_refl _, rfl, fun j _ h => by omega⟩ (fun i σ H' _ ⟨_, _, _, _, _, _, _, e, _⟩ => SqL.of e) ?_ ?_
    · rintro i x σ H' hx ⟨y2, y3, y4, y5, kvs, rfl, sm, el, ed, LL, kl, k0, kj⟩
      have hi : i < ts'.length := by have := (List.getElem?_eq_some_iff.mp hx).1; rw [List.length_map] at this; exact this
      rw [List.getElem?_map, List.getElem?_eq_getElem hi] at hx
      cases hx
      obtain ⟨M, hM⟩ : ∃ M, kOf H1 ts'[i] = M := ⟨_, rfl⟩
      have eM : H' ts'[i] = some (.tup (nV M)) := by rw [← hM]; exact LL _ (List.getElem_mem hi)
      have hsub : M.Sublist (List.range n) := (hmem M).mp (by rw [← hM]; exact List.mem_map_of_mem (List.getElem_mem hi))
      have hl9 := sub_len hsub
      obtain ⟨u, hu⟩ : ∃ u, ts'[i] = u := ⟨_, rfl⟩
      rw [hu] at eM hM ⊢
      have keep : ∀ (σ2 : L2.St) (H2 : Hp) (kvs2 : List (List Key × V)), (∃ y2 y3 y4 y5, σ2 = [some (.ref t), some (.ref d), y2, y3, y4, y5]) → Same H H2 → H2 l = some (.lst (ts'.map V.ref)) → H2 d = some (.dT kvs2) → (∀ u ∈ ts', H2 u = some (.tup (nV (kOf H1 u)))) → kvs2.length ≤ i + 1 + 1 → valV kvs2 (kM []) = some (.int 1) →
          (∀ N, N ≠ M → valV kvs2 (kM N) = valV kvs (kM N)) → (M.length % 2 = 0 → valV kvs2 (kM M) = some (.int (pf a (M.length / 2) M))) → ∃ y2 y3 y4 y5 kvs, σ2 = [some (.ref t), some (.ref d), y2, y3, y4, y5] ∧ Same H H2 ∧ H2 l = some (.lst (ts'.map V.ref)) ∧ H2 d = some (.dT kvs) ∧ (∀ u ∈ ts', H2 u = some (.tup (nV (kOf H1 u)))) ∧ kvs.length ≤ i + 1 + 1 ∧
      valV kvs (kM []) = some (.int 1) ∧ ∀ j (hj : j < ts'.length), j < i + 1 → (kOf H1 ts'[j]).length % 2 = 0 → valV kvs (kM (kOf H1 ts'[j])) = some (.int (pf a ((kOf H1 ts'[j]).length / 2) (kOf H1 ts'[j]))) := by
        rintro σ2 H2 kvs2 ⟨y2, y3, y4, y5, rfl⟩ a1 a2 a3 a4 a5 a6 a7 a8
        refine ⟨y2, y3, y4, y5, kvs2, rfl, a1, a2, a3, a4, a5, a6, fun j hj hji h2 => ?_⟩
        by_cases e : kOf H1 ts'[j] = M
        · rw [e] at h2 ⊢; exact a8 h2
        · rw [a7 _ e]
          refine kj j hj ?_ h2
          rcases Nat.lt_or_eq_of_le (Nat.lt_succ_iff.mp hji) with z | z
          · exact z
          · subst z
            rw [hu] at e
            exact absurd hM e
      refine ⟨.ref u, rfl, u, nV M, rfl, .inr (SqT.of eM), ((nV M).length : Int), 2, rfl, rfl, (show (0 : Int) < 2 by decide), rfl, _, rfl, ite2 (fun h2 => ?_) (fun h2 => ?_)⟩
      · rw [decI, nV_len] at h2
        have h2 : M.length % 2 = 0 := by have := of_decide_eq_true h2; omega
        refine ⟨.ref u, rfl, Nat.zero_le _, fun e ne => neT (ns := iV M) (ms := []) (by rw [iV_map]; exact SqT.of (same_upd ne _ _ eM)) (SqT.of upd_same) ⟨_, rfl, ite2 (fun h3 => ?_) (fun h3 => ?_)⟩⟩
        · have s3 := same_upd (o := .tup []) ne
          cases M with
          | nil => exact absurd h3 (by decide)
          | cons x lm =>
            have hlm : (x :: lm).length = lm.length + 1 := rfl
            have hx : x < n := sub_lt hsub x List.mem_cons_self
            refine ⟨.ref u, rfl, u, nV (x :: lm), rfl, .inr (SqT.of (s3 _ _ eM)), 1, ((nV (x :: lm)).length : Int), rfl, ⟨by decide, by decide, by omega, by rw [nV_len]; omega⟩, ?_⟩
            rw [nV_len, show (((x :: lm).length : Int) - 1).toNat = lm.length by rw [hlm]; omega]
            refine for_range (lo := 1) (n := lm.length) (fun k σ H3 => ∃ y4 y5, σ = [some (.ref t), some (.ref d), some (.ref u), some (.int (altTo (fun y r => a x y * pf a ((x :: lm).length / 2 - 1) r) lm k)), y4, y5] ∧ Same (upd H' e (.tup [])) H3) ⟨_, _, rfl, Same.refl _⟩ ?_ ?_
            · rintro k σ H3 hk ⟨y4, y5, rfl, s4⟩
              rw [show (1 : Int) + (k : Nat) = ((k + 1 : Nat) : Int) by omega]
              have e3 := s4 _ _ (s3 _ _ eM)
              have ln : (nV (x :: lm)).length = lm.length + 1 := nV_len _
              refine ⟨.ref u, rfl, 1, rfl, .int ((k + 1 : Nat) : Int), rfl, _, rfl, u, nV (x :: lm), rfl, SqT.of e3, fun z => ?_, fun p np => ?_⟩
              · have z1 := z.1
                rw [show (1 : Int) = ((1 : Nat) : Int) from rfl, HT.sIx_nat, ln] at z1
                omega
              have s5 := same_upd (o := .tup (cutV (nV (x :: lm)) (some 1) (some ((k + 1 : Nat) : Int)))) np
              refine ⟨.ref u, rfl, .int ((k + 1 : Nat) : Int), rfl, ((k + 1 : Nat) : Int), 1, rfl, rfl, ?_⟩
              refine ⟨((k + 2 : Nat) : Int), congrArg V.int (by omega), u, nV (x :: lm), rfl, SqT.of (s5 _ _ e3), fun z => ?_, fun p2 np2 => ?_⟩
              · have z1 := z.1
                rw [HT.sIx_nat, ln] at z1
                omega
              have s6 := same_upd (o := .tup (cutV (nV (x :: lm)) (some ((k + 2 : Nat) : Int)) none)) np2
              have hc1 := cutV_length (nV (x :: lm)) (some 1) (some ((k + 1 : Nat) : Int))
              have hc2 := cutV_length (nV (x :: lm)) (some ((k + 2 : Nat) : Int)) none
              refine catA (s6 _ _ upd_same) upd_same (by omega) fun H5 r s7 er => ?_
              have s47 : Same H' H5 := s3.trans (s4.trans (s5.trans (s6.trans s7)))
              have er2 : H5 r = some (.tup (nV (lm.eraseIdx k))) := by
                rw [er, show (1 : Int) = ((1 : Nat) : Int) from rfl, cut_both (by omega) (by rw [hlm]; omega), cut_lo, ← nV_app]
                rw [List.eraseIdx_eq_take_drop_succ]
                rfl
              refine ⟨.int (altTo _ lm k), rfl, .int ((k + 1 : Nat) : Int), rfl, ((k + 1 : Nat) : Int), 2, rfl, rfl, (show (0 : Int) < 2 by decide), rfl, _, rfl, ?_⟩
              refine tIf_pm (sgn k) (fun hh => ?_) (fun hh => ?_) ?_
              · rw [decI] at hh
                have := of_decide_eq_true hh
                unfold sgn
                rw [if_pos (by omega)]
              · rw [decI] at hh
                have := of_decide_eq_false hh
                unfold sgn
                rw [if_neg (by omega)]
              have hy : lm.getD k 0 < n := sub_lt hsub _ (List.mem_cons_of_mem _ (by rw [getD_get hk]; exact List.getElem_mem hk))
              refine ⟨.ref t, rfl, .ref u, rfl, u, nV (x :: lm), 0, .int x, rfl, rfl, SqT.of (s47 _ _ eM), atI_nat (j := 0) rfl, .ref u, rfl, .int ((k + 1 : Nat) : Int), rfl, u, nV (x :: lm), ((k + 1 : Nat) : Int), .int (lm.getD k 0 : Nat), rfl, rfl, SqT.of (s47 _ _ eM), atI_nat ?_, t, n, a, x, lm.getD k 0, rfl, seqT (sm.trans s47) hT, hn, tb, hx, hy, sgn k, a x (lm.getD k 0), rfl, rfl, .inl ?_, ?_⟩
              · show (nV lm)[k]? = _
                exact nV_get hk
              · unfold sgn; split <;> decide
              have hR : (lm.eraseIdx k).Sublist (List.range n) := ((List.eraseIdx_sublist lm k).trans (List.sublist_cons_self x lm)).trans hsub
              have lR : (lm.eraseIdx k).length = lm.length - 1 := List.length_eraseIdx_of_lt hk
              have hv : valV kvs (kM (lm.eraseIdx k)) = some (.int (pf a ((x :: lm).length / 2 - 1) (lm.eraseIdx k))) := by
                obtain ⟨v, hv, ev⟩ := List.mem_map.mp ((hmem _).mpr hR)
                obtain ⟨j, hj, rfl⟩ := List.mem_iff_getElem.mp hv
                have hji : j < i := by
                  rcases Nat.lt_trichotomy j i with z | z | z
                  · exact z
                  · subst z
                    rw [hu, hM] at ev
                    have := congrArg List.length ev
                    rw [lR, hlm] at this
                    omega
                  · have := sorted i j hi hj z
                    rw [hu, hM, ev, lR, hlm] at this
                    omega
                have := kj j hj hji (by rw [ev, lR]; rw [hlm] at h2; omega)
                rw [ev, lR] at this
                rw [this, show (lm.length - 1) / 2 = (x :: lm).length / 2 - 1 by rw [hlm]; omega]
              refine ⟨.ref d, rfl, .ref r, rfl, d, _, rfl, hv ▸ DGet.t (s47 _ _ ed) (by rw [kM_map]; exact er2), sgn k * a x (lm.getD k 0), _, rfl, rfl, .inl ?_, ?_⟩
              · have h01 : sgn k = 1 ∨ sgn k = -1 := by unfold sgn; split <;> simp
                rcases h01 with h | h <;> rcases tab3 tb hx hy with h' | h' | h' <;> rw [h, h'] <;> decide
              · refine ⟨_, _, rfl, rfl, some (.int ((k + 1 : Nat) : Int)), some (.ref r), ?_, s4.trans (s5.trans (s6.trans s7))⟩
                rw [Int.mul_assoc]
                rfl
            · rintro σ H3 ⟨y4, y5, rfl, s4⟩
              have s34 := s3.trans s4
              have ed3 := s34 _ _ ed
              have e0 : altTo (fun y r => a x y * pf a ((x :: lm).length / 2 - 1) r) lm lm.length = pf a ((x :: lm).length / 2) (x :: lm) := by
                rw [altTo_all]
                have : (x :: lm).length / 2 = ((x :: lm).length / 2 - 1) + 1 := by rw [hlm] at h2 ⊢; omega
                rw [this]
                rfl
              rw [e0]
              refine ⟨_, rfl, .ref d, rfl, .ref u, rfl, d, _, rfl, DPut.t (k := kM (x :: lm)) ed3 (by rw [kM_map]; exact s34 _ _ eM) (by omega), ?_⟩
              refine keep _ _ _ ⟨_, _, _, _, rfl⟩ (fun c o hc => ?_) (dT_lst ed3 (s34 _ _ el)) upd_same (fun v hv => dT_tup ed3 (s34 _ _ (LL v hv))) ?_ ?_ (fun N hN => ?_) (fun _ => ?_)
              · rw [upd_ne (ne_of_none hc nd)]
                exact s34 _ _ (sm _ _ hc)
              · have := length_putK kvs (kM (x :: lm)) (V.int (pf a ((x :: lm).length / 2) (x :: lm)))
                omega
              · rw [valV_put, if_neg (fun z => by cases kM_inj z)]
                exact k0
              · rw [valV_put, if_neg (fun z => hN (kM_inj z))]
              · rw [valV_put, if_pos rfl]
        · cases M with
          | cons x lm => exact absurd rfl h3
          | nil =>
            have s3 := same_upd (o := .tup []) ne
            exact keep _ _ kvs ⟨_, _, _, _, rfl⟩ (sm.trans s3) (s3 _ _ el) (s3 _ _ ed) (fun v hv => s3 _ _ (LL v hv)) (by omega) k0 (fun N _ => rfl) (fun _ => k0)
      · rw [decI, nV_len] at h2
        refine iteF ?_
        refine keep _ _ kvs ⟨_, _, _, _, rfl⟩ sm el ed LL (by omega) k0 (fun N _ => rfl) (fun h => absurd (decide_eq_true ?_) h2)
        omega
    · rintro σ H' ⟨y2, y3, y4, y5, kvs, rfl, sm, el, ed, LL, kl, k0, kj⟩
      rw [List.length_map] at kj
      refine ⟨_, rfl, q H' d kvs sm ed fun M hM h2 => ?_⟩
      obtain ⟨u, hu, eu⟩ := List.mem_map.mp ((hmem M).mpr hM)
      obtain ⟨j, hj, rfl⟩ := List.mem_iff_getElem.mp hu
      rw [← eu] at h2 ⊢
      exact kj j hj hj h2
end
end Du
end
section
namespace Du
open PySem PySem.Spec PyProof.Rows L2 Duel
theorem tIf_sg {c : Bool} {i : Nat} {σ : L2.St} {H : Hp} {Qc : VK} {z y : Int} (hs : σ[i]? = some (some (.int y))) (h1 : c = true → z = y) (h2 : c = false → z = 0 - y) (h : Qc (.int z) H) : if c = true then tVar i σ H Qc else tOp (rI0 fun i j => .int (i - j)) (tC (.int 0)) (tVar i) σ H Qc := by
  cases c with
  | true =>
    rw [h1 rfl] at h
    exact iteT ⟨_, hs, h⟩
  | false =>
    rw [h2 rfl] at h
    exact iteF ⟨_, hs, 0, y, rfl, rfl, h⟩
theorem setAll_snoc : ∀ (M : List Nat) (u w : List Int) (m : Nat) (x : Int), M.length = u.length → setAll w (M ++ [m]) (u ++ [x]) = (setAll w M u).set m x
  | [], [], w, m, x, _ => by
    show setAll (w.set m x) [] [] = (setAll w [] []).set m x
    unfold setAll; rfl
  | [], _ :: _, _, _, _, h => by simp at h
  | _ :: _, [], _, _, _, h => by simp at h
  | a :: M, b :: u, w, m, x, h => by
    show setAll (w.set a b) (M ++ [m]) (u ++ [x]) = (setAll (w.set a b) M u).set m x
    exact setAll_snoc M u _ m x (by simpa using h)
theorem rep_flat (n : Nat) : (List.replicate n [V.int 0]).flatten = (List.replicate n (0 : Int)).map V.int := by
  induction n with
  | zero => rfl
  | succ n ih => rw [List.replicate_succ, List.flatten_cons, ih, List.replicate_succ]; rfl
theorem ixN_nat {n j : Nat} (h : j < n) : ixN n ((j : Nat) : Int) = some j := by
  unfold ixN
  rw [if_pos (by omega), if_pos (by omega)]
  simp
theorem absI (x : Int) : (if x < 0 then -x else x) = ((x.natAbs : Nat) : Int) := by split <;> omega
section
variable {P : Program} {w : World} {K : PySem.W.Frag} {mg : Str → Option Value} {base : Heap}
/-! ### level_weights -/
def spLev (K : PySem.W.Frag) : Sp := fun vs H Q _ => ∃ (d m : Addr) (a : Nat → Nat → Int) (kvs : List (List Key × V)) (M : List Nat), vs = [.ref d, .ref m] ∧ H d = some (.dT kvs) ∧ H m = some (.tup (nV M)) ∧ M.length ≤ 9 ∧
  (∀ k, k < M.length → valV kvs (kM (M.eraseIdx k)) = some (.int (pf a ((M.length - 1) / 2) (M.eraseIdx k)))) ∧ ∀ H' r, Same H H' → H' r = some (.lst ((lev a M).map V.int)) → Q (.ref r) H'
theorem sc_lev : FnScope ["numbers", "members", "result", "at", "number"] ["numbers", "members"] (defScope s_level_weights) := ⟨rfl, rfl, rfl, by decide +kernel, rfl, by decide +kernel, by decide +kernel⟩
theorem ok_lev (T : Txt K mg w) : Has P w K mg base 1 "level_weights" ["numbers", "members"] (spLev K) := by
  refine T.d_level_weights.has sc_lev (fun vs H Q E h => ?_) (fun f cdv A outer s H vs Q E hr h => ?_)
  · obtain ⟨d, m, a, kvs, M, rfl, _⟩ := h
    rfl
  · obtain ⟨d, m, a, kvs, M, rfl, hd, hm, h9, hk, q⟩ := h
    refine ⟨_, pss_cons (ps_set (i := 2) sc_lev.nd rfl (.inl rfl) (pe_lst pa_nil))
      (pss_cons (ps_for PassesOwn.never rfl (pi_range1 rfl T.b_range (pa_cons (pe_callB call_len_seq (by rfl) T.b_len PySem.boot_len (pa_cons (pv 1) pa_nil)) pa_nil)) (pg_name (i := 3) sc_lev.nd rfl (.inl rfl))
        (pss_cons (ps_set (i := 4) sc_lev.nd rfl (.inl rfl) (pe_dget (u1 hr.units) (pv 0) (pe_op op_catA (pe_slice sl_tup (pv 1) po_none (po_some (pv 3))) (pe_slice sl_tup (pv 1) (po_some (pe_op op_add (pv 3) pe_int)) po_none)) (fun _ _ => rfl)))
          (pss_one (ps_expr (pe_bm PySem.F.plainAttrs_list PySem.F.slot_list_append PySem.F.type_list_append mt_append (pv 2) (pa_cons
            (pe_ifExp (pt_cmpR op_eq (pe_op op_mod (pv 3) pe_int) pe_int (nomark _)) (pv 4) (pe_op op_sub pe_int (pv 4))) pa_nil))))))
      (pss_one (ps_ret (pv 2)))), ?_⟩
    refine ⟨Nat.zero_le _, fun r nr => ?_⟩
    have s1 := same_upd (o := .lst []) nr
    refine ⟨.ref m, rfl, m, nV M, rfl, .inr (SqT.of (s1 _ _ hm)), ((nV M).length : Int), rfl, by rw [nV_len]; omega, by rw [nV_len]; omega, ?_⟩
    rw [nV_len]
    refine for_range (lo := 0) (n := (M.length : Int).toNat) (fun i σ H' => ∃ y3 y4, σ = [some (.ref d), some (.ref m), some (.ref r), y3, y4] ∧ Same H H' ∧ H' r = some (.lst ((List.range i).map fun k => V.int (sgn k * pf a ((M.length - 1) / 2) (M.eraseIdx k)))))
      ⟨none, none, rfl, s1, upd_same⟩ ?_ ?_
    · rintro k σ H' hi ⟨y3, y4, rfl, sm, er⟩
      have hkl : k < M.length := by omega
      rw [show (0 : Int) + (k : Nat) = ((k : Nat) : Int) by omega]
      have em := sm _ _ hm
      have ln : (nV M).length = M.length := nV_len _
      refine ⟨.ref d, rfl, .ref m, rfl, .int ((k : Nat) : Int), rfl, _, rfl, m, nV M, rfl, SqT.of em, fun z => ?_, fun p np => ?_⟩
      · have z1 := z.2
        rw [HT.sIx_nat, ln] at z1
        omega
      have s5 := same_upd (o := .tup (cutV (nV M) none (some ((k : Nat) : Int)))) np
      refine ⟨.ref m, rfl, .int ((k : Nat) : Int), rfl, ((k : Nat) : Int), 1, rfl, rfl, ((k + 1 : Nat) : Int), congrArg V.int (by omega), m, nV M, rfl, SqT.of (s5 _ _ em), fun z => ?_, fun p2 np2 => ?_⟩
      · have z1 := z.1
        rw [HT.sIx_nat, ln] at z1
        omega
      have s6 := same_upd (o := .tup (cutV (nV M) (some ((k + 1 : Nat) : Int)) none)) np2
      have hc1 := cutV_length (nV M) none (some ((k : Nat) : Int))
      have hc2 := cutV_length (nV M) (some ((k + 1 : Nat) : Int)) none
      have hz : (1000 : Nat) < sizeLine := small1000 (Nat.le_refl _)
      refine catA (s6 _ _ upd_same) upd_same (by omega) fun H5 c s7 ec => ?_
      have s47 : Same H' H5 := s5.trans (s6.trans s7)
      have ec2 : H5 c = some (.tup (nV (M.eraseIdx k))) := by
        rw [ec, cut_hi (by omega), cut_lo, ← nV_app, List.eraseIdx_eq_take_drop_succ]
      refine ⟨d, _, rfl, hk k hkl ▸ DGet.t (s47 _ _ (sm _ _ hd)) (by rw [kM_map]; exact ec2), ?_⟩
      refine ⟨.ref r, rfl, .inl ⟨rfl, _, SqL.of (s47 _ _ er)⟩, .int ((k : Nat) : Int), rfl, ((k : Nat) : Int), 2, rfl, rfl, (show (0 : Int) < 2 by decide), rfl, _, rfl, ?_⟩
      refine tIf_sg (z := sgn k * pf a ((M.length - 1) / 2) (M.eraseIdx k)) rfl (fun hh => ?_) (fun hh => ?_) ?_
      · rw [decI] at hh
        have := of_decide_eq_true hh
        unfold sgn
        rw [if_pos (by omega)]; omega
      · rw [decI] at hh
        have := of_decide_eq_false hh
        unfold sgn
        rw [if_neg (by omega)]; omega
      · refine ⟨r, _, _, rfl, rfl, s47 _ _ er, ?_, ?_⟩
        · rw [List.length_map, List.length_range]
          exact small1000 (by omega)
        · refine ⟨_, _, rfl, fun b o e => ?_, ?_⟩
          · rw [upd_ne (ne_of_none e nr)]
            exact s47 _ _ (sm _ _ e)
          · rw [upd_same, range_snoc]
    · rintro σ H' ⟨y3, y4, rfl, sm, er⟩
      refine ⟨.ref r, rfl, q H' r sm ?_⟩
      rw [er]
      unfold lev
      rw [List.map_map]
      rfl
/-! ### whole_weights -/
def spWhole (K : PySem.W.Frag) : Sp := fun vs H Q _ => ∃ (t m f : Addr) (n : Nat) (a : Nat → Nat → Int) (M : List Nat) (v : List Int), vs = [.ref t, .ref m, .ref f] ∧ SqT K H t (tabV n a) ∧ H m = some (.tup (nV M)) ∧ H f = some (.lst (v.map V.int)) ∧ M.length = v.length ∧ n ≤ 9 ∧ M.length ≤ 9 ∧
  (∀ j ∈ M, j < n) ∧ 0 < gL v ∧ gL v < 1073741824 ∧ ∀ H' p, Same H H' → H' p = some (.tup ((whole n M v).map V.int)) → Q (.ref p) H'
theorem sc_whole : FnScope ["table", "members", "found", "divisor", "weights", "member", "number"] ["table", "members", "found"] (defScope s_whole_weights) := ⟨rfl, rfl, rfl, by decide +kernel, rfl, by decide +kernel, by decide +kernel⟩
theorem ok_whole (T : Txt K mg w) : Has P w K mg base 2 "whole_weights" ["table", "members", "found"] (spWhole K) := by
  refine T.d_whole_weights.has sc_whole (fun vs H Q E h => ?_) (fun f cdv A outer s H vs Q E hr h => ?_)
  · obtain ⟨t, m, f, n, a, M, v, rfl, _⟩ := h
    rfl
  · obtain ⟨t, m, fo, n, a, M, v, rfl, hT, hm, hf, hl, hn, h9, hlt, g0, g1, q⟩ := h
    refine ⟨_, pss_cons (ps_set (i := 3) sc_whole.nd rfl (.inl rfl) (pe_callH (ok_gcd T) hr (by rfl) (pa_cons
        (pe_lc (own := [("number", 6)]) (g := gName 6) (tt := tYes) rfl sc_whole.nd (pi_list (pv 2)) (blkOk_by (N := ["table", "members", "found", "divisor", "weights", "member", "number"]) (sc := defScope s_whole_weights) (by decide +kernel))
              (fun _ _ _ _ _ => pg_name (i := 6) sc_whole.nd rfl (.inl rfl)) (fun _ _ _ _ _ => pts_nil)
              (fun _ _ _ _ _ => pe_callB call_abs (by rfl) T.b_abs (by decide +kernel) (pa_cons (pv 6) pa_nil))) pa_nil)))
      (pss_cons (ps_set (i := 4) sc_whole.nd rfl (.inl rfl) (pe_op op_rep (pe_lst (pa_cons pe_int pa_nil)) (pe_callB call_len_seq (by rfl) T.b_len PySem.boot_len (pa_cons (pv 0) pa_nil))))
      (pss_cons (ps_for PassesOwn.never rfl (pi_zipM (by rfl) T.b_zip (pa_cons (pv 1) (pa_cons (pv 2) pa_nil))) (pg_tup rfl (pgs_cons (pg_name (i := 5) sc_whole.nd rfl (.inl rfl)) (pgs_cons (pg_name (i := 6) sc_whole.nd rfl (.inl rfl)) pgs_nil)))
        (pss_one (ps_asg (pe_op op_fdiv (pe_callB call_abs (by rfl) T.b_abs (by decide +kernel) (pa_cons (pv 6) pa_nil)) (pv 3)) (pg_sub (pv 4) (pv 5) set_list))))
      (pss_one (ps_ret (pe_callTy call_tuple_of (by rfl) T.b_tuple (by decide +kernel) (pa_cons (pv 4) pa_nil)))))), ?_⟩
    refine ⟨.ref fo, rfl, fo, rfl, ⟨_, SqL.of hf⟩, fun D hD => ?_⟩
    refine lc_map (walk_list (xs := v.map V.int)) (fun k => V.int ((v.getD k 0).natAbs : Nat)) (by rw [List.length_map]; exact small9 (by omega)) hD (fun H' s => SqL.of (s _ _ hf)) (fun j x H2 H3 C hj s2 _ y hC => ?_) fun H2 s2 eD => ?_
    · obtain ⟨rfl, hx⟩ := y
      rw [List.length_map] at hj
      rw [List.getElem?_map, List.getElem?_eq_getElem hj] at hx
      cases hx
      refine ⟨rfl, .int v[j], rfl, v[j], rfl, ?_⟩
      have z := hC _ (Same.refl _)
      rw [getD_get hj, ← absI] at z
      exact z
    · rw [List.length_map] at eD
      obtain ⟨u, hu⟩ : ∃ u, v.map (fun x => ((x.natAbs : Nat) : Int)) = u := ⟨_, rfl⟩
      have eD2 : H2 D = some (.lst (u.map V.int)) := by
        rw [eD, ← hu, List.map_map]
        congr 2
        apply List.ext_getElem
        · simp
        · intro k h1 h2
          rw [List.length_map, List.length_range] at h1
          simp only [List.getElem_map, List.getElem_range, Function.comp, getD_get h1]
      have hg : gL u = gL v := by rw [← hu]; exact gL_abs v _ (fun x _ => by simp)
      refine ⟨D, u, rfl, .inl (SqL.of eD2), fun x hx => ?_, ?_⟩
      · rw [← hu] at hx
        obtain ⟨y, _, rfl⟩ := List.mem_map.mp hx
        omega
      rw [hg]
      refine ⟨Nat.le_of_lt (small1000 (by show 1 ≤ 1000; decide)), fun z nz => ?_⟩
      have s3 := same_upd (o := .lst [V.int 0]) nz
      refine ⟨.ref t, rfl, t, tabV n a, rfl, .inr (seqT (s2.trans s3) hT), z, ((tabV n a).length : Int), [V.int 0], rfl, rfl, upd_same, by rw [tabV_len]; omega, by rw [tabV_len]; omega, by rw [tabV_len]; exact small9 (by show 1 * _ ≤ 1000; omega), fun wl nw => ?_⟩
      rw [tabV_len, rep_flat]
      have nw0 : H wl = none := (s2.trans s3).free nw
      have s4 := same_upd (o := .lst ((List.replicate (n : Int).toNat (0 : Int)).map V.int)) nw
      have sa := s2.trans (s3.trans s4)
      refine ⟨.ref m, rfl, .ref fo, rfl, m, fo, nV M, v.map V.int, rfl, SqT.of (sa _ _ hm), SqL.of (sa _ _ hf), ?_⟩
      refine for_it (walk_zipM (n := M.length) (xs := nV M) (ys := v.map V.int) (by rw [nV_len, List.length_map, ← hl, Nat.min_self])) (fun i σ H' => ∃ y5 y6, σ = [some (.ref t), some (.ref m), some (.ref fo), some (.int (gL v : Nat)), some (.ref wl), y5, y6] ∧ Same H H' ∧
          H' wl = some (.lst ((setAll (List.replicate n 0) (M.take i) ((v.map fun x => ((x.natAbs / gL v : Nat) : Int)).take i)).map V.int)))
        ⟨none, none, rfl, sa, ?_⟩ (fun i σ H' _ p => ?_) (fun i x σ H' H3 hi p y => ?_) (fun σ H' p => ?_)
      · rw [upd_same]
        have : (n : Int).toNat = n := by omega
        rw [this]
        unfold setAll
        rfl
      · obtain ⟨y5, y6, _, sm, _⟩ := p
        exact ⟨SqT.of (sm _ _ hm), SqL.of (sm _ _ hf)⟩
      · obtain ⟨y5, y6, rfl, sm, ew⟩ := p
        obtain ⟨T, x1, x2, rfl, nT, rfl, e1, e2⟩ := y
        replace e1 : (nV M)[i]? = some x1 := e1
        replace e2 : (v.map V.int)[i]? = some x2 := e2
        rw [nV_get hi] at e1
        have hv : i < v.length := by omega
        rw [List.getElem?_map, List.getElem?_eq_getElem hv] at e2
        cases e1
        cases e2
        have s5 : Same H' (upd H' T (.tup [V.int (M.getD i 0 : Nat), V.int v[i]])) := same_upd nT
        have hM : M.getD i 0 < n := hlt _ (by rw [getD_get hi]; exact List.getElem_mem hi)
        refine ⟨T, _, rfl, .inl (.inl upd_same), rfl, _, _, rfl, _, _, rfl, rfl, ?_⟩
        refine ⟨.int v[i], rfl, v[i], rfl, .int (gL v : Nat), rfl, _, ((gL v : Nat) : Int), rfl, rfl, ⟨by omega, by omega⟩, .ref wl, rfl, .int (M.getD i 0 : Nat), rfl, wl, _, ((M.getD i 0 : Nat) : Int), M.getD i 0, rfl, rfl, s5 _ _ ew, ixN_nat ?_, ?_⟩
        · rw [List.length_map, setAll_len, List.length_replicate]; exact hM
        · refine ⟨_, _, rfl, fun b o e => ?_, ?_⟩
          · rw [upd_ne (ne_of_none e nw0)]
            exact s5 _ _ (sm _ _ e)
          · rw [upd_same, List.take_add_one, List.take_add_one, List.getElem?_eq_getElem hi, List.getElem?_map, List.getElem?_eq_getElem hv]
            show _ = some (HO.lst (List.map V.int (setAll _ (M.take i ++ [M[i]]) (_ ++ [((v[i].natAbs / gL v : Nat) : Int)]))))
            rw [setAll_snoc _ _ _ _ _ (by rw [List.length_take, List.length_take, List.length_map, hl]), List.map_set, getD_get hi, absI, Int.natCast_ediv]
      · obtain ⟨y5, y6, rfl, sm, ew⟩ := p
        refine ⟨.ref wl, rfl, wl, _, rfl, .inl ⟨SqL.of ew, fun l nl => q _ l (sm.trans (same_upd nl)) ?_⟩⟩
        rw [upd_same, List.take_length, hl]
        have : v.length = (v.map fun x => ((x.natAbs / gL v : Nat) : Int)).length := by rw [List.length_map]
        rw [this, List.take_length]
        rfl
end
end Du
end
section
namespace Du
open PySem PySem.Spec PyProof.Rows L2 Duel
theorem nB_one {bs : List Bool} {c : Bool} (hne : 0 < bs.length) (h : ∀ b ∈ bs, b = c) : nB bs = 1 := by
  cases bs with
  | nil => simp at hne
  | cons b r =>
    have hb := h b List.mem_cons_self
    subst hb
    have hall : ∀ x ∈ b :: r, x = b := h
    have e1 : ∀ d : Bool, (b :: r).any (· == d) = (b == d) := fun d => by
      rw [List.any_cons]
      by_cases e : b = d
      · subst e; simp
      · have : r.any (· == d) = false := by
          rw [List.any_eq_false]
          intro x hx
          rw [h x (List.mem_cons_of_mem _ hx)]
          simpa using e
        rw [this]; simp
    unfold nB
    rw [e1, e1]
    cases b <;> rfl
section
variable {P : Program} {w : World} {K : PySem.W.Frag} {mg : Str → Option Value} {base : Heap}
/-! ### lottery -/
def spLot (K : PySem.W.Frag) : Sp := fun vs H Q _ => ∃ (t : Addr) (n : Nat) (a : Nat → Nat → Int), vs = [.ref t] ∧ SqT K H t (tabV n a) ∧ 1 ≤ n ∧ n ≤ 9 ∧ Tab n a ∧
  ∀ H' p v, Same H H' → H' p = some (.tup (v.map V.int)) → IsLot n a v → Q (.ref p) H'
theorem sc_lot : FnScope ["table", "numbers", "members", "found", "weights", "number"] ["table"] (defScope s_lottery) := ⟨rfl, rfl, rfl, by decide +kernel, rfl, by decide +kernel, by decide +kernel⟩
theorem ok_lot (T : Txt K mg w) : Has P w K mg base 3 "lottery" ["table"] (spLot K) := by
  refine T.d_lottery.has sc_lot (fun vs H Q E h => ?_) (fun f cdv A outer s H vs Q E hr h => ?_)
  · obtain ⟨t, n, a, rfl, _⟩ := h
    rfl
  · obtain ⟨t, n, a, rfl, hT, h1, hn, tb, q⟩ := h
    refine ⟨_, pss_cons (ps_set (i := 1) sc_lot.nd rfl (.inl rfl) (pe_callH (ok_pair T) hr (by rfl) (pa_cons (pv 0) pa_nil)))
      (pss_cons (ps_for PassesOwn.never rfl (pi_tup (pe_callH (ok_all T) (hr.mono (by decide)) (by rfl) (pa_cons (pv 0) pa_nil))) (pg_name (i := 2) sc_lot.nd rfl (.inl rfl))
        (pss_one (ps_if (pt_cmpR op_eq (pe_op op_mod (pe_callB call_len_seq (by rfl) T.b_len PySem.boot_len (pa_cons (pv 2) pa_nil)) pe_int) pe_int (nomark _))
          (pss_cons (ps_set (i := 3) sc_lot.nd rfl (.inl rfl) (pe_callH (ok_lev T) (hr.mono (by decide)) (by rfl) (pa_cons (pv 1) (pa_cons (pv 2) pa_nil))))
          (pss_cons (ps_set (i := 4) sc_lot.nd rfl (.inl rfl) (pe_callH (ok_whole T) hr (by rfl) (pa_cons (pv 0) (pa_cons (pv 2) (pa_cons (pv 3) pa_nil)))))
          (pss_one (ps_if (PW.pt (pw_and (pt_cmpR op_eq (pe_lenSetB (by rfl) T.b_len (by rfl) T.b_set
              (pe_lc (own := [("number", 5)]) (g := gName 5) (tt := tYes) rfl sc_lot.nd (pi_list (pv 3)) (blkOk_by (N := ["table", "numbers", "members", "found", "weights", "number"]) (sc := defScope s_lottery) (by decide +kernel))
                (fun _ _ _ _ _ => pg_name (i := 5) sc_lot.nd rfl (.inl rfl)) (fun _ _ _ _ _ => pts_nil)
                (fun _ _ _ _ _ => pe_cmpR op_gt (pv 5) pe_int (nomark _)))) pe_int (nomark _))
              (pw_and1 (pt_cmpR op_le (pe_callB (cr_maxT rfl) (by rfl) T.b_max (by decide +kernel) (pa_cons (pe_callH (ok_bal T) hr (by rfl) (pa_cons (pv 0) (pa_cons (pv 4) pa_nil))) pa_nil)) pe_int (nomark _)))))
            (pss_one (ps_ret (pv 4))) pss_nil))))
          pss_nil)))
      (pss_one (ps_ret (pe_tup pa_nil)))), ?_⟩
    obtain ⟨v, hv⟩ := exist_lot (by omega) tb
    have cp := complete tb hv
    refine ⟨.ref t, rfl, t, n, a, rfl, hT, hn, tb, fun H1 d kvs s1 ed hk => ?_⟩
    refine ⟨.ref t, rfl, t, n, a, rfl, seqT s1 hT, hn, fun H2 p ts Ms s2 ep L perm => ?_⟩
    have hmem : ∀ M, M ∈ Ms ↔ M.Sublist (List.range n) := fun M => ⟨fun h => allS_sub n M (perm.mem_iff.mp h), fun h => perm.mem_iff.mpr (allS_all n M h)⟩
    refine ⟨p, rfl, ⟨_, SqT.of ep⟩, ?_⟩
    refine for_tup (K := K) (a := p) (xs := ts.map V.ref) (fun i σ H' => ∃ y2 y3 y4 y5, σ = [some (.ref t), some (.ref d), y2, y3, y4, y5] ∧ Same H2 H' ∧ ∀ j M, j < i → Ms[j]? = some M → M ≠ supp v)
      ⟨none, none, none, none, rfl, Same.refl _, fun j _ h => by omega⟩ (fun i σ H' _ ⟨_, _, _, _, _, sm, _⟩ => SqT.of (sm _ _ ep)) ?_ ?_
    · rintro i x σ H' hx ⟨y2, y3, y4, y5, rfl, sm, no⟩
      obtain ⟨m, M, rfl, em0, eM, _, _⟩ := L.get hx
      have em := sm _ _ em0
      have hsub := (hmem M).mp (List.mem_of_getElem? eM)
      have hl9 := sub_len hsub
      have next : ∀ (σ2 : L2.St) (H3 : Hp), (∃ y2 y3 y4 y5, σ2 = [some (.ref t), some (.ref d), y2, y3, y4, y5]) → Same H' H3 → M ≠ supp v → ∃ y2 y3 y4 y5, σ2 = [some (.ref t), some (.ref d), y2, y3, y4, y5] ∧ Same H2 H3 ∧ ∀ j M, j < i + 1 → Ms[j]? = some M → M ≠ supp v := by
        rintro σ2 H3 ⟨y2, y3, y4, y5, rfl⟩ s3 hne
        refine ⟨y2, y3, y4, y5, rfl, sm.trans s3, fun j N hj eN => ?_⟩
        rcases Nat.lt_or_eq_of_le (Nat.lt_succ_iff.mp hj) with z | z
        · exact no j N z eN
        · subst z
          rw [eM] at eN
          cases eN
          exact hne
      refine ⟨.ref m, rfl, m, nV M, rfl, .inr (SqT.of em), ((nV M).length : Int), 2, rfl, rfl, (show (0 : Int) < 2 by decide), rfl, _, rfl, ite2 (fun h2 => ?_) (fun h2 => ?_)⟩
      · rw [decI, nV_len] at h2
        have h2 : M.length % 2 = 1 := by have := of_decide_eq_true h2; omega
        have hg := lev_gL tb hn (sub_nd hsub) (sub_lt hsub) (by omega) h2
        refine ⟨.ref d, rfl, .ref m, rfl, d, m, a, kvs, M, rfl, sm _ _ (s2 _ _ ed), em, by omega, fun k hkl => ?_, fun H3 fo s3 ef => ?_⟩
        · have le : (M.eraseIdx k).length = M.length - 1 := List.length_eraseIdx_of_lt hkl
          have := hk (M.eraseIdx k) ((List.eraseIdx_sublist M k).trans hsub) (by omega)
          rw [le] at this
          exact this
        have sT : Same H H3 := s1.trans (s2.trans (sm.trans s3))
        refine ⟨.ref t, rfl, .ref m, rfl, .ref fo, rfl, t, m, fo, n, a, M, lev a M, rfl, seqT sT hT, s3 _ _ em, ef, (lev_len a M).symm, hn, by omega, sub_lt hsub, hg.1, hg.2, fun H4 wl s4 ew => ?_⟩
        have hll := lev_len a M
        refine ⟨.ref fo, rfl, fo, rfl, ⟨_, SqL.of (s4 _ _ ef)⟩, fun D hD => ?_⟩
        refine lc_map (walk_list (xs := (lev a M).map V.int)) (fun k => V.bl (decide (0 < (lev a M).getD k 0))) (by rw [List.length_map]; exact small9 (by omega)) hD (fun H' s => SqL.of (s _ _ (s4 _ _ ef))) (fun j x H5 H6 C hj s5 _ y hC => ?_) fun H5 s5 eD => ?_
        · obtain ⟨rfl, hx⟩ := y
          rw [List.length_map] at hj
          rw [List.getElem?_map, List.getElem?_eq_getElem hj] at hx
          cases hx
          have z := hC _ (Same.refl _)
          rw [getD_get hj] at z
          exact ⟨rfl, .int (lev a M)[j], rfl, _, 0, rfl, rfl, z⟩
        · rw [List.length_map] at eD
          refine ⟨D, (List.range (lev a M).length).map fun k => decide (0 < (lev a M).getD k 0), rfl, SqL.of ?_, rfl, _, rfl, ite2 (fun h3 => ?_) (fun h3 => ?_)⟩
          · rw [eD, List.map_map]; rfl
          · refine ⟨.ref t, rfl, .ref wl, rfl, t, wl, n, a, whole n M (lev a M), rfl, seqT (sT.trans (s4.trans s5)) hT, SqT.of (s5 _ _ ew), hn, tb, whole_len n M _, fun H6 qa s6 nq eq => ?_⟩
            refine ⟨qa, (List.range n).map fun i => bal n a (fun j => (whole n M (lev a M)).getD j 0) i, rfl, SqT.of ?_, by rw [List.length_map, List.length_range]; exact h1, fun mx hm hmax => ?_⟩
            · rw [eq]
              unfold balV
              rw [List.map_map]
              rfl
            · refine ⟨mx, 0, rfl, rfl, _, rfl, ite2 (fun h4 => ?_) (fun h4 => ?_)⟩
              · have h4 := of_decide_eq_true h4
                refine ⟨.ref wl, rfl, q H6 wl _ (sT.trans (s4.trans (s5.trans s6))) (s6 _ _ (s5 _ _ ew)) ?_⟩
                exact sound tb (sub_nd hsub) (sub_lt hsub) h2 fun i hi => Int.le_trans (hmax _ (List.mem_map.mpr ⟨i, List.mem_range.mpr hi, rfl⟩)) h4
              · refine next _ _ ⟨_, _, _, _, rfl⟩ (s3.trans (s4.trans (s5.trans s6))) fun z => h4 ?_
                subst z
                rw [cp.2.2] at hm
                obtain ⟨i, hi, rfl⟩ := List.mem_map.mp hm
                exact decide_eq_true (hv.bl i (List.mem_range.mp hi))
          · refine iteF (next _ _ ⟨_, _, _, _, rfl⟩ (s3.trans (s4.trans s5)) fun z => h3 ?_)
            subst z
            have hb : nB ((List.range (lev a (supp v)).length).map fun k => decide (0 < (lev a (supp v)).getD k 0)) = 1 := by
              have hp : 0 < (((List.range (lev a (supp v)).length).map fun k => decide (0 < (lev a (supp v)).getD k 0))).length := by
                rw [List.length_map, List.length_range, hll]; omega
              rcases cp.2.1 with h | h
              · refine nB_one (c := true) hp fun b hb => ?_
                obtain ⟨k, hk, rfl⟩ := List.mem_map.mp hb
                exact decide_eq_true (h _ (Duel.getD_mem (List.mem_range.mp hk)))
              · refine nB_one (c := false) hp fun b hb => ?_
                obtain ⟨k, hk, rfl⟩ := List.mem_map.mp hb
                have := h _ (Duel.getD_mem (List.mem_range.mp hk))
                exact decide_eq_false (by omega)
            rw [hb]; rfl
      · rw [decI, nV_len] at h2
        refine next _ _ ⟨_, _, _, _, rfl⟩ (Same.refl _) fun z => h2 (decide_eq_true ?_)
        have := cp.1
        rw [← z] at this
        omega
    · rintro σ H' ⟨y2, y3, y4, y5, rfl, sm, no⟩
      exfalso
      have hs : supp v ∈ Ms := (hmem _).mpr (by
        unfold supp
        rw [hv.len]
        exact List.filter_sublist)
      obtain ⟨j, hj, e⟩ := List.mem_iff_getElem.mp hs
      rw [List.length_map, L.len] at no
      exact no j _ hj (by rw [List.getElem?_eq_getElem hj, e]) rfl
/-! ### support -/
def spSupp (K : PySem.W.Frag) : Sp := fun vs H Q _ => ∃ (t : Addr) (n : Nat) (a : Nat → Nat → Int), vs = [.ref t] ∧ SqT K H t (tabV n a) ∧ 1 ≤ n ∧ n ≤ 9 ∧ Tab n a ∧
  ∀ H' p v, Same H H' → H' p = some (.tup (nV (supp v))) → IsLot n a v → Q (.ref p) H'
theorem sc_supp : FnScope ["table", "one", "weight"] ["table"] (defScope s_support) := ⟨rfl, rfl, rfl, by decide +kernel, rfl, by decide +kernel, by decide +kernel⟩
theorem ok_supp (T : Txt K mg w) : Has P w K mg base 4 "support" ["table"] (spSupp K) := by
  refine T.d_support.has sc_supp (fun vs H Q E h => ?_) (fun f cdv A outer s H vs Q E hr h => ?_)
  · obtain ⟨t, n, a, rfl, _⟩ := h
    rfl
  · obtain ⟨t, n, a, rfl, hT, h1, hn, tb, q⟩ := h
    refine ⟨_, pss_one (ps_ret (pe_callTy call_tuple_of (by rfl) T.b_tuple (by decide +kernel) (pa_cons
      (pe_lc (own := [("one", 1), ("weight", 2)]) (g := gTup K 2 (gCons (gName 1) (gCons (gName 2) gNil))) (tt := tTest (tOp (rI0 fun i j => .bl (decide (j < i))) (tVar 2) (tC (.int 0)))) rfl sc_supp.nd (pi_enumT (by rfl) T.b_enumerate (pa_cons (pe_callH (ok_lot T) hr (by rfl) (pa_cons (pv 0) pa_nil)) pa_nil)) (blkOk_by (N := ["table", "one", "weight"]) (sc := defScope s_support) (by decide +kernel))
        (fun _ _ _ _ _ => pg_tup rfl (pgs_cons (pg_name (i := 1) sc_supp.nd rfl (.inl rfl)) (pgs_cons (pg_name (i := 2) sc_supp.nd rfl (.inl rfl)) pgs_nil))) (fun _ _ _ _ _ => pts_one (pt_cmpR op_gt (pv 2) pe_int (nomark _)))
        (fun _ _ _ _ _ => pv 1)) pa_nil))), ?_⟩
    refine ⟨.ref t, rfl, t, n, a, rfl, hT, h1, hn, tb, fun H1 p v s1 ep hv => ⟨p, _, rfl, SqT.of ep, fun D hD => ?_⟩⟩
    have hl := hv.len
    refine lc_filter (walk_enumT (xs := v.map V.int)) (fun i => decide (0 < v.getD i 0)) (fun i => V.int (i : Nat)) (by rw [List.length_map]; exact small9 (by omega)) hD (fun H' s => SqT.of (s _ _ ep)) (fun j x H2 H3 Nx C hj s2 hy hC hN => ?_) fun H2 s2 eD => ?_
    · obtain ⟨p2, x1, x2, rfl, np, rfl, e1, e2⟩ := hy
      cases e1
      rw [List.length_map] at hj
      replace e2 : (v.map V.int)[j]? = some x2 := e2
      rw [List.getElem?_map, List.getElem?_eq_getElem hj] at e2
      cases e2
      have s3 : Same H2 (upd H2 p2 (.tup [V.int (j : Nat), V.int v[j]])) := same_upd np
      refine ⟨p2, _, rfl, .inl (.inl upd_same), rfl, _, _, rfl, _, _, rfl, rfl, rfl, ?_⟩
      rw [getD_get hj] at hC hN
      exact ⟨.int v[j], rfl, v[j], 0, rfl, rfl, _, rfl, ite2 (fun h => ⟨_, rfl, hC h _ s3⟩) fun h => hN (Bool.not_eq_true _ ▸ h) _ s3⟩
    · rw [List.length_map] at eD
      refine ⟨D, _, rfl, .inl ⟨SqL.of eD, fun l nl => q _ l v (s1.trans (s2.trans (same_upd nl))) ?_ hv⟩⟩
      rw [upd_same]
      rfl
end
end Du
end
section
namespace Du
open PySem PySem.Spec PyProof.Rows L2 Duel
theorem isi_ii' {K : PySem.W.Frag} : PySem.W.kitOne K (.type "int") (.type "int") = some true := kit_ty (by decide +kernel)
theorem isi_ib' {K : PySem.W.Frag} : PySem.W.kitOne K (.type "int") (.type "bool") = some false := kit_ty (by decide +kernel)
theorem isi_tt' {K : PySem.W.Frag} : PySem.W.kitOne K (.type "tuple") (.type "tuple") = some true := kit_ty (by decide +kernel)
section
variable {P : Program} {w : World} {K : PySem.W.Frag} {mg : Str → Option Value} {base : Heap}
/-! ### is_alternative -/
def spIsA (K : PySem.W.Frag) : Sp := fun vs H Q _ => ∃ (t : Addr) (n : Nat) (a : Nat → Nat → Int) (j : Nat), vs = [.ref t, .int (j : Nat)] ∧ SqT K H t (tabV n a) ∧ j < n ∧ Q (.bl true) H
theorem sc_isa : FnScope ["table", "value"] ["table", "value"] (defScope s_is_alternative) := ⟨rfl, rfl, rfl, by decide +kernel, rfl, by decide +kernel, by decide +kernel⟩
theorem ok_isa (T : Txt K mg w) : Has P w K mg base 1 "is_alternative" ["table", "value"] (spIsA K) := by
  refine T.d_is_alternative.has sc_isa (fun vs H Q E h => ?_) (fun f cdv A outer s H vs Q E hr h => ?_)
  · obtain ⟨t, n, a, j, rfl, _⟩ := h
    rfl
  · obtain ⟨t, n, a, j, rfl, hT, hj, q⟩ := h
    refine ⟨_, pss_one (ps_ret (pe_and (pe_callB call_isi (by rfl) T.b_isinstance (by decide +kernel) (pa_cons (pv 1) (pa_cons (pe_bltn (v := .ty "int") (by rfl) T.b_int (by decide +kernel) rfl) pa_nil)))
      (pe_and (pe_not (pe_callB call_isi (by rfl) T.b_isinstance (by decide +kernel) (pa_cons (pv 1) (pa_cons (pe_bltn (v := .ty "bool") (by rfl) T.b_bool (by decide +kernel) rfl) pa_nil))))
        (pe_one (pe_chain op_le op_lt pe_int (pv 1) (pe_callB call_len_seq (by rfl) T.b_len PySem.boot_len (pa_cons (pv 0) pa_nil))))))), ?_⟩
    refine ⟨.int (j : Nat), rfl, .int (j : Nat), .ty "int", .type "int", .type "int", true, rfl, .ty _, .base (.int _), isi_ii', true, rfl, iteT ?_⟩
    refine ⟨.int (j : Nat), rfl, .int (j : Nat), .ty "bool", .type "int", .type "bool", false, rfl, .ty _, .base (.int _), isi_ib', false, rfl, true, rfl, iteT ?_⟩
    refine ⟨.int (j : Nat), rfl, 0, (j : Nat), rfl, rfl, _, rfl, ite2 (fun _ => ?_) (fun h => absurd (decide_eq_true (by omega)) h)⟩
    refine ⟨.ref t, rfl, t, tabV n a, rfl, .inr hT, (j : Nat), ((tabV n a).length : Int), rfl, rfl, ?_⟩
    rw [tabV_len]
    have : decide (((j : Nat) : Int) < ((n : Nat) : Int)) = true := decide_eq_true (by omega)
    show Q (.bl (decide (((j : Nat) : Int) < ((n : Nat) : Int)))) H
    rw [this]
    exact q
/-! ### require_alternative -/
def spReq (K : PySem.W.Frag) : Sp := fun vs H Q _ => ∃ (t : Addr) (n : Nat) (a : Nat → Nat → Int) (j : Nat), vs = [.ref t, .int (j : Nat)] ∧ SqT K H t (tabV n a) ∧ j < n ∧ Q .non H
theorem sc_req : FnScope ["table", "value"] ["table", "value"] (defScope s_require_alternative) := ⟨rfl, rfl, rfl, by decide +kernel, rfl, by decide +kernel, by decide +kernel⟩
theorem ok_req (T : Txt K mg w) : Has P w K mg base 2 "require_alternative" ["table", "value"] (spReq K) := by
  refine T.d_require_alternative.has sc_req (fun vs H Q E h => ?_) (fun f cdv A outer s H vs Q E hr h => ?_)
  · obtain ⟨t, n, a, j, rfl, _⟩ := h
    rfl
  · obtain ⟨t, n, a, j, rfl, hT, hj, q⟩ := h
    refine ⟨_, pss_one (ps_if (pt_not (pt_val (pe_callH (ok_isa T) hr (by rfl) (pa_cons (pv 0) (pa_cons (pv 1) pa_nil))))) (pss_one ps_never) pss_nil), ?_⟩
    exact ⟨.ref t, rfl, .int (j : Nat), rfl, t, n, a, j, rfl, hT, hj, true, rfl, iteF q⟩
/-! ### is_set -/
def spIsS (K : PySem.W.Frag) : Sp := fun vs H Q _ => ∃ (t m : Addr) (n : Nat) (a : Nat → Nat → Int) (M : List Nat), vs = [.ref t, .ref m] ∧ SqT K H t (tabV n a) ∧ H m = some (.tup (nV M)) ∧ n ≤ 9 ∧ M ≠ [] ∧ M.length ≤ 9 ∧ (∀ j ∈ M, j < n) ∧ M.Pairwise (· < ·) ∧
  ∀ H', Same H H' → Q (.bl true) H'
theorem sc_iss : FnScope ["table", "value", "one", "other"] ["table", "value"] (defScope s_is_set) := ⟨rfl, rfl, rfl, by decide +kernel, rfl, by decide +kernel, by decide +kernel⟩
theorem all_tt (n : Nat) : ((List.range n).map fun _ => true).all id = true := by simp
theorem ok_iss (T : Txt K mg w) : Has P w K mg base 2 "is_set" ["table", "value"] (spIsS K) := by
  refine T.d_is_set.has sc_iss (fun vs H Q E h => ?_) (fun f cdv A outer s H vs Q E hr h => ?_)
  · obtain ⟨t, m, n, a, M, rfl, _⟩ := h
    rfl
  · obtain ⟨t, m, n, a, M, rfl, hT, hm, hn, hne, h9, hlt, hpw, q⟩ := h
    refine ⟨_, pss_cons (ps_if (PW.pt (pw_or (pt_not (pt_val (pe_callB call_isi (by rfl) T.b_isinstance (by decide +kernel) (pa_cons (pv 1) (pa_cons (pe_bltn (v := .ty "tuple") (by rfl) T.b_tuple (by decide +kernel) rfl) pa_nil)))))
          (pw_or1 (pt_not (pt_val (pe_callB (cr_all rfl) (by rfl) T.b_all (by decide +kernel) (pa_cons
            (pe_lc (own := [("one", 2)]) (g := gName 2) (tt := tYes) rfl sc_iss.nd (pi_tup (pv 1)) (blkOk_by (N := ["table", "value", "one", "other"]) (sc := defScope s_is_set) (by decide +kernel))
              (fun _ _ _ _ _ => pg_name (i := 2) sc_iss.nd rfl (.inl rfl)) (fun _ _ _ _ _ => pts_nil)
              (fun _ _ _ _ _ => pe_callH (ok_isa T) hr (by rfl) (pa_cons (pv 0) (pa_cons (pv 2) pa_nil)))) pa_nil)))))))
        (pss_one (ps_ret pe_bl)) pss_nil)
      (pss_one (ps_ret (pe_callB (cr_all rfl) (by rfl) T.b_all (by decide +kernel) (pa_cons
        (pe_lc (own := [("one", 2), ("other", 3)]) (g := gTup K 2 (gCons (gName 2) (gCons (gName 3) gNil))) (tt := tYes) rfl sc_iss.nd (RZ.pi_zipA (by rfl) T.b_zip (pa_cons (pv 1) (pa_cons (pe_slice sl_tup (pv 1) (po_some pe_int) po_none) pa_nil))) (blkOk_by (N := ["table", "value", "one", "other"]) (sc := defScope s_is_set) (by decide +kernel))
          (fun _ _ _ _ _ => pg_tup rfl (pgs_cons (pg_name (i := 2) sc_iss.nd rfl (.inl rfl)) (pgs_cons (pg_name (i := 3) sc_iss.nd rfl (.inl rfl)) pgs_nil))) (fun _ _ _ _ _ => pts_nil)
          (fun _ _ _ _ _ => pe_cmpR op_lt (pv 2) (pv 3) (nomark _))) pa_nil)))), ?_⟩
    refine ⟨.ref m, rfl, .ref m, .ty "tuple", .type "tuple", .type "tuple", true, rfl, .ty _, .base (.tup hm), isi_tt', true, rfl, iteF ?_⟩
    refine ⟨.ref m, rfl, m, rfl, ⟨_, SqT.of hm⟩, fun D hD => ?_⟩
    have ln : (nV M).length = M.length := nV_len M
    refine lc_map (walk_tup (xs := nV M)) (fun j => V.bl true) (by rw [ln]; exact small9 (by omega)) hD (fun H' s => SqT.of (s _ _ hm)) (fun j x H2 H3 C hj s2 _ hy hC => ?_) fun H2 s2 eD => ?_
    · obtain ⟨rfl, hx⟩ := hy
      rw [ln] at hj
      rw [nV_get hj] at hx
      cases hx
      exact ⟨rfl, .ref t, rfl, .int (M.getD j 0 : Nat), rfl, t, n, a, M.getD j 0, rfl, seqT s2 hT, hlt _ (by rw [getD_get hj]; exact List.getElem_mem hj), hC _ (Same.refl _)⟩
    · refine ⟨D, (List.range (nV M).length).map fun _ => true, rfl, SqL.of ?_, ?_⟩
      · rw [eD, List.map_map]
        rfl
      rw [all_tt]
      refine ⟨true, rfl, iteF ?_⟩
      have hm2 := s2 _ _ hm
      refine ⟨.ref m, rfl, .ref m, rfl, 1, rfl, m, nV M, rfl, SqT.of hm2, fun z => ?_, fun p np => ?_⟩
      · have z1 := z.1
        rw [show (1 : Int) = ((1 : Nat) : Int) from rfl, HT.sIx_nat, ln] at z1
        have : M.length ≠ 0 := fun e => hne (List.eq_nil_of_length_eq_zero e)
        omega
      have s3 := same_upd (o := .tup (cutV (nV M) (some 1) none)) np
      have ec : cutV (nV M) (some 1) none = nV (M.drop 1) := cut_lo (k := 1)
      refine ⟨m, p, nV M, nV (M.drop 1), rfl, .inr ⟨SqT.of (s3 _ _ hm2), SqT.of (by rw [upd_same, ec]), fun D2 hD2 => ?_⟩⟩
      have hn2 : (M.drop 1).length = min (nV M).length (nV (M.drop 1)).length := by rw [ln, nV_len, List.length_drop]; omega
      have l1 : (M.drop 1).length ≤ 9 := by rw [List.length_drop]; omega
      refine lc_map (walk_zipT (n := (M.drop 1).length) hn2) (fun j => V.bl true) (small9 (by omega)) hD2 (fun H' s => ⟨SqT.of (s _ _ (s3 _ _ hm2)), SqT.of (s _ _ (by rw [upd_same, ec]))⟩) (fun j x H3 H4 C hj s4 _ hy hC => ?_) fun H3 s4 eD2 => ?_
      · obtain ⟨p2, x1, x2, rfl, np2, rfl, e1, e2⟩ := hy
        have hj2 : j + 1 < M.length := by rw [List.length_drop] at hj; omega
        replace e1 : (nV M)[j]? = some x1 := e1
        replace e2 : (nV (M.drop 1))[j]? = some x2 := e2
        rw [nV_get (by omega)] at e1
        rw [nV_get hj] at e2
        cases e1
        cases e2
        have s5 : Same H3 (upd H3 p2 (.tup [V.int (M.getD j 0 : Nat), V.int ((M.drop 1).getD j 0 : Nat)])) := same_upd np2
        refine ⟨p2, _, rfl, .inl (.inl upd_same), rfl, _, _, rfl, _, _, rfl, rfl, rfl, ?_⟩
        refine ⟨_, rfl, _, rfl, _, _, rfl, rfl, ?_⟩
        have z := hC _ s5
        have hlt2 : M.getD j 0 < (M.drop 1).getD j 0 := by
          rw [getD_get (by omega), getD_get hj, List.getElem_drop]
          exact List.pairwise_iff_getElem.mp hpw j (1 + j) (by omega) (by omega) (by omega)
        have e : decide (((M.getD j 0 : Nat) : Int) < (((M.drop 1).getD j 0 : Nat) : Int)) = true := decide_eq_true (by omega)
        rw [← e] at z
        exact z
      · refine ⟨D2, (List.range (M.drop 1).length).map fun _ => true, rfl, SqL.of ?_, ?_⟩
        · rw [eD2, List.map_map]
          rfl
        · rw [all_tt]
          exact q _ (s2.trans (s3.trans s4))
end
end Du
end
section
namespace Du
open PySem PySem.Spec PyProof.Rows L2 Duel
/-! ### texts -/
theorem str_ext {a b : Str} (h : a.cps.toList = b.cps.toList) : a = b := by
  obtain ⟨x⟩ := a
  obtain ⟨y⟩ := b
  have : x = y := Array.toList_inj.mp h
  rw [this]
theorem joinL_nil : ∀ l : List (List Nat), TL.joinL [] l = l.flatten
  | [] => rfl
  | [p] => by show p = _; simp
  | p :: q :: r => by show p ++ ([] ++ TL.joinL [] (q :: r)) = _; rw [joinL_nil (q :: r)]; simp
theorem join_ones {α : Type} (l : List α) (f : α → Nat) : Txt.join "" (l.map fun j => (⟨#[f j]⟩ : Str)) = ⟨(l.map f).toArray⟩ := by
  rw [TL.join_eq]
  refine str_ext ?_
  have h := TL.tl_join "" (l.map fun j => (⟨#[f j]⟩ : Str))
  refine Eq.trans h ?_
  show TL.joinL [] _ = _
  rw [joinL_nil, List.map_map, List.toList_toArray]
  clear h
  induction l with
  | nil => rfl
  | cons x l ih => rw [List.map_cons, List.flatten_cons, ih, List.map_cons]; rfl
theorem ones_sum {α : Type} (l : List α) (f : α → Nat) : ((l.map fun j => (⟨#[f j]⟩ : Str)).map (·.length)).sum = l.length := by
  induction l with
  | nil => rfl
  | cons x l ih =>
    rw [List.map_cons, List.map_cons, List.sum_cons, ih, List.length_cons]
    show 1 + l.length = _
    omega
theorem cutL_hi {xs : List V} {k : Nat} (h : k ≤ xs.length) : cutV xs none (some ((k : Nat) : Int)) = xs.take k := by
  unfold cutV
  rw [HT.sIx_nat, HT.sIx_none, Nat.min_eq_left h]
  rfl
theorem cutL_lo {xs : List V} {k : Nat} : cutV xs (some ((k : Nat) : Int)) none = xs.drop k := by
  unfold cutV
  rw [HT.sIx_nat, HT.sIx_none]
  by_cases h : k ≤ xs.length
  · rw [Nat.min_eq_left h]
    exact List.take_of_length_le (by rw [List.length_drop]; omega)
  · rw [Nat.min_eq_right (by omega), List.drop_of_length_le (Nat.le_refl _), List.drop_of_length_le (by omega)]
    exact List.take_nil
theorem cutS_hi {z : Str} {k : Nat} (h : k ≤ z.length) : (cutS z none (some ((k : Nat) : Int))).cps.toList = z.cps.toList.take k := by
  unfold cutS
  rw [HT.sIx_nat, HT.sIx_none, Nat.min_eq_left h]
  rfl
theorem cutS_lo {z : Str} {k : Nat} : (cutS z (some ((k : Nat) : Int)) none).cps.toList = z.cps.toList.drop k := by
  have hz : z.cps.toList.length = z.length := rfl
  unfold cutS
  rw [HT.sIx_nat, HT.sIx_none]
  show List.take _ _ = _
  by_cases h : k ≤ z.length
  · rw [Nat.min_eq_left h]
    exact List.take_of_length_le (by rw [List.length_drop, hz]; omega)
  · rw [Nat.min_eq_right (by omega), ← hz, List.drop_of_length_le (Nat.le_refl _), List.drop_of_length_le (by omega)]
    exact List.take_nil
theorem cut_set {α : Type} {l : List α} {i : Nat} {x : α} (h : i < l.length) : l.take i ++ [x] ++ l.drop (i + 1) = l.set i x := by
  rw [List.set_eq_take_append_cons_drop, if_pos h, List.append_assoc]; rfl
theorem map_set {α : Type} {n i : Nat} {f : Nat → α} {x : α} (h : i < n) : ((List.range n).map f).set i x = (List.range n).map fun k => if k = i then x else f k := by
  apply List.ext_getElem
  · simp
  · intro k h1 h2
    rw [List.getElem_set]
    simp only [List.getElem_map, List.getElem_range]
    by_cases e : i = k
    · subst e; simp
    · rw [if_neg e, if_neg (fun z => e z.symm)]
section
variable {P : Program} {w : World} {K : PySem.W.Frag} {mg : Str → Option Value} {base : Heap}
/-! ### reordered -/
def rJoin (K : PySem.W.Frag) : V → List V → Hp → VK → Prop := fun x xs H Q => ∃ a p, ∃ ys : List Str, x = .str a ∧ xs = [.ref p] ∧ (SqL K H p (ys.map V.str) ∨ SqT K H p (ys.map V.str)) ∧
    (ys.map (·.length)).sum + ys.length * a.length ≤ 16777216 ∧ Q (.str (Txt.join a ys)) H
def teRe (K : PySem.W.Frag) : TE := tOp rIxS (tOp (rIxT K) (tVar 0) (tVar 2)) (tVar 3)
def reA (a : Nat → Nat → Int) (M : List Nat) : Nat → Nat → Int := fun i j => a (M.getD i 0) (M.getD j 0)
def spRe (K : PySem.W.Frag) : Sp := fun vs H Q _ => ∃ (t m : Addr) (n : Nat) (a : Nat → Nat → Int) (M : List Nat), vs = [.ref t, .ref m] ∧ SqT K H t (tabV n a) ∧ H m = some (.tup (nV M)) ∧ n ≤ 9 ∧ M.length ≤ 9 ∧ (∀ j ∈ M, j < n) ∧
  ∀ H' p, Same H H' → H' p = some (.tup (tabV M.length (reA a M))) → Q (.ref p) H'
theorem sc_re : FnScope ["table", "items", "one", "other"] ["table", "items"] (defScope s_reordered) := ⟨rfl, rfl, rfl, by decide +kernel, rfl, by decide +kernel, by decide +kernel⟩
theorem ok_re (T : Txt K mg w) : Has P w K mg base 1 "reordered" ["table", "items"] (spRe K) := by
  refine T.d_reordered.has sc_re (fun vs H Q E h => ?_) (fun f cdv A outer s H vs Q E hr h => ?_)
  · obtain ⟨t, m, n, a, M, rfl, _⟩ := h
    rfl
  · obtain ⟨t, m, n, a, M, rfl, hT, hm, hn, h9, hlt, q⟩ := h
    refine ⟨_, pss_one (ps_ret (pe_callTy call_tuple_of (by rfl) T.b_tuple (by decide +kernel) (pa_cons
      (pe_lc (own := [("one", 2)]) (g := gName 2) (tt := tYes) (te := tM1 (rJoin K) (tC (.str "")) (tLc (iTup K (tVar 1)) (gName 3) tYes (teRe K) [3])) rfl sc_re.nd (pi_tup (pv 1)) (blkOk_by (N := ["table", "items", "one", "other"]) (sc := defScope s_reordered) (by decide +kernel))
        (fun _ _ _ _ _ => pg_name (i := 2) sc_re.nd rfl (.inr rfl)) (fun _ _ _ _ _ => pts_nil)
        (fun _ _ _ _ _ => pe_join pe_str
          (pe_lc (own := [("other", 3)]) (wi := iTup K (tVar 1)) (g := gName 3) (tt := tYes) (te := teRe K) rfl sc_re.nd (pi_tup (pv 1)) (blkOk_by (N := ["table", "items", "one", "other"]) (by rfl))
            (fun _ _ _ _ _ => pg_name (i := 3) sc_re.nd rfl (.inl rfl)) (fun _ _ _ _ _ => pts_nil)
            (fun _ _ _ _ _ => pe_ix ix_str (pe_ix ix_tup (pv 0) (pv 2) (fun _ _ => rfl)) (pv 3) (fun _ _ => rfl))))) pa_nil))), ?_⟩
    have ln : (nV M).length = M.length := nV_len M
    refine ⟨.ref m, rfl, m, rfl, ⟨_, SqT.of hm⟩, fun D hD => ?_⟩
    refine lc_map (walk_tup (xs := nV M)) (fun i => V.str (rowS M.length (reA a M) i)) (by rw [ln]; exact small9 (by omega)) hD (fun H' s => SqT.of (s _ _ hm)) (fun i x H2 H3 C hi s2 _ hy hC => ?_) fun H2 s2 eD => ?_
    · obtain ⟨rfl, hx⟩ := hy
      rw [ln] at hi
      rw [nV_get hi] at hx
      cases hx
      have hM : M.getD i 0 < n := hlt _ (by rw [getD_get hi]; exact List.getElem_mem hi)
      refine ⟨rfl, ⟨"", rfl⟩, .ref m, rfl, m, rfl, ⟨_, SqT.of (s2 _ _ hm)⟩, fun D2 hD2 => ?_⟩
      refine lc_map (walk_tup (xs := nV M)) (fun j => V.str ⟨#[sg (reA a M i j)]⟩) (by rw [ln]; exact small9 (by omega)) hD2 (fun H' s => SqT.of (s _ _ (s2 _ _ hm))) (fun j x H4 H5 C2 hj s4 _ hy hC2 => ?_) fun H4 s4 eD2 => ?_
      · obtain ⟨rfl, hx⟩ := hy
        rw [ln] at hj
        rw [nV_get hj] at hx
        cases hx
        have hM2 : M.getD j 0 < n := hlt _ (by rw [getD_get hj]; exact List.getElem_mem hj)
        refine ⟨rfl, .ref t, rfl, .int (M.getD i 0 : Nat), rfl, t, tabV n a, ((M.getD i 0 : Nat) : Int), .str (rowS n a (M.getD i 0)), rfl, rfl, seqT (s2.trans s4) hT, atI_nat (tabV_get hM), .int (M.getD j 0 : Nat), rfl, rowS n a (M.getD i 0), ((M.getD j 0 : Nat) : Int), sg (a (M.getD i 0) (M.getD j 0)), rfl, rfl, by rw [rowS_len]; exact small9 (by omega), atI_nat (rowS_get hM2), ?_⟩
        exact hC2 _ (Same.refl _)
      · refine ⟨"", D2, (List.range M.length).map (fun j => ⟨#[sg (reA a M i j)]⟩), rfl, rfl, .inl (SqL.of ?_), ?_, ?_⟩
        · rw [eD2, ln, List.map_map]; rfl
        · rw [ones_sum, List.length_range, List.length_map, List.length_range]
          show M.length + M.length * 0 ≤ _
          omega
        · rw [join_ones]
          exact hC _ s4
    · refine ⟨D, _, rfl, .inl ⟨SqL.of eD, fun l nl => q _ l (s2.trans (same_upd nl)) ?_⟩⟩
      rw [upd_same, ln]
      rfl
/-! ### relabel_table -/
theorem sc_rel : FnScope ["table", "order"] ["table", "order"] (defScope s_relabel_table) := ⟨rfl, rfl, rfl, by decide +kernel, rfl, by decide +kernel, by decide +kernel⟩
theorem ok_rel (T : Txt K mg w) : Has P w K mg base 2 "relabel_table" ["table", "order"] (spRe K) := by
  refine T.d_relabel_table.has sc_rel (fun vs H Q E h => ?_) (fun f cdv A outer s H vs Q E hr h => ?_)
  · obtain ⟨t, m, n, a, M, rfl, _⟩ := h
    rfl
  · obtain ⟨t, m, n, a, M, rfl, h⟩ := h
    refine ⟨_, pss_one (ps_ret (pe_callH (ok_re T) hr (by rfl) (pa_cons (pv 0) (pa_cons (pv 1) pa_nil)))), ?_⟩
    exact ⟨.ref t, rfl, .ref m, rfl, t, m, n, a, M, rfl, h⟩
/-! ### restrict_table -/
def spRes (K : PySem.W.Frag) : Sp := fun vs H Q _ => ∃ (t m : Addr) (n : Nat) (a : Nat → Nat → Int) (M : List Nat), vs = [.ref t, .ref m] ∧ SqT K H t (tabV n a) ∧ H m = some (.tup (nV M)) ∧ n ≤ 9 ∧ M ≠ [] ∧ M.length ≤ 9 ∧ (∀ j ∈ M, j < n) ∧ M.Pairwise (· < ·) ∧
  ∀ H' p, Same H H' → H' p = some (.tup (tabV M.length (reA a M))) → Q (.ref p) H'
theorem sc_res : FnScope ["table", "members"] ["table", "members"] (defScope s_restrict_table) := ⟨rfl, rfl, rfl, by decide +kernel, rfl, by decide +kernel, by decide +kernel⟩
theorem ok_res (T : Txt K mg w) : Has P w K mg base 3 "restrict_table" ["table", "members"] (spRes K) := by
  refine T.d_restrict_table.has sc_res (fun vs H Q E h => ?_) (fun f cdv A outer s H vs Q E hr h => ?_)
  · obtain ⟨t, m, n, a, M, rfl, _⟩ := h
    rfl
  · obtain ⟨t, m, n, a, M, rfl, hT, hm, hn, hne, h9, hlt, hpw, q⟩ := h
    refine ⟨_, pss_cons (ps_if (PW.pt (pw_or (pt_not (pt_val (pe_callH (ok_iss T) hr (by rfl) (pa_cons (pv 0) (pa_cons (pv 1) pa_nil))))) (pw_or1 (pt_cmpR (op_eqD hr.units) (pv 1) (pe_tup pa_nil) (nomark _))))) (pss_one ps_never) pss_nil)
      (pss_one (ps_ret (pe_callH (ok_re T) (hr.mono (by decide)) (by rfl) (pa_cons (pv 0) (pa_cons (pv 1) pa_nil))))), ?_⟩
    refine ⟨.ref t, rfl, .ref m, rfl, t, m, n, a, M, rfl, hT, hm, hn, hne, h9, hlt, hpw, fun H1 s1 => ⟨true, rfl, iteF ⟨.ref m, rfl, Nat.zero_le _, fun e ne => ?_⟩⟩⟩
    have s2 := same_upd (o := .tup []) ne
    refine eqT (ns := iV M) (ms := []) (by rw [iV_map]; exact SqT.of (s2 _ _ (s1 _ _ hm))) (SqT.of upd_same) ⟨_, rfl, ite2 (fun h => ?_) (fun _ => ?_)⟩
    · exact absurd (iV_nil.mp (of_decide_eq_true h)) hne
    · have s12 := s1.trans s2
      exact ⟨.ref t, rfl, .ref m, rfl, t, m, n, a, M, rfl, seqT s12 hT, s12 _ _ hm, hn, h9, hlt, fun H' p s ep => q H' p (s12.trans s) ep⟩
/-! ### with_sign -/
def putA (a : Nat → Nat → Int) (x y : Nat) (v : Int) : Nat → Nat → Int := fun i j => if i = x ∧ j = y then v else a i j
theorem row_put {n : Nat} {a : Nat → Nat → Int} {x y : Nat} {v : Int} (hy : y < n) : cutS (rowS n a x) none (some ((y : Nat) : Int)) ++ (⟨#[sg v]⟩ : Str) ++ cutS (rowS n a x) (some ((y + 1 : Nat) : Int)) none = rowS n (putA a x y v) x := by
  refine str_ext ?_
  have e : ∀ p q : Str, (p ++ q).cps.toList = p.cps.toList ++ q.cps.toList := fun p q => Array.toList_append
  rw [e, e, cutS_hi (by rw [rowS_len]; omega), cutS_lo]
  have er : ∀ b : Nat → Nat → Int, (rowS n b x).cps.toList = (List.range n).map fun j => sg (b x j) := fun b => List.toList_toArray
  rw [er, er]
  show _ ++ [sg v] ++ _ = _
  rw [cut_set (by rw [List.length_map, List.length_range]; exact hy), map_set hy]
  refine List.map_congr_left fun j _ => ?_
  unfold putA
  by_cases h : j = y
  · rw [if_pos h, if_pos ⟨rfl, h⟩]
  · rw [if_neg h, if_neg (fun z => h z.2)]
theorem tab_put {n : Nat} {a : Nat → Nat → Int} {x y : Nat} {v : Int} (hx : x < n) : cutV (tabV n a) none (some ((x : Nat) : Int)) ++ [V.str (rowS n (putA a x y v) x)] ++ cutV (tabV n a) (some ((x + 1 : Nat) : Int)) none = tabV n (putA a x y v) := by
  rw [cutL_hi (by rw [tabV_len]; omega), cutL_lo, cut_set (by rw [tabV_len]; exact hx)]
  unfold tabV
  rw [map_set hx]
  refine List.map_congr_left fun i _ => ?_
  by_cases h : i = x
  · rw [if_pos h, h]
  · rw [if_neg h]
    congr 1
    unfold rowS
    congr 2
    refine List.map_congr_left fun j _ => ?_
    unfold putA
    rw [if_neg (fun z => h z.1)]
def spWS (K : PySem.W.Frag) : Sp := fun vs H Q _ => ∃ (t : Addr) (n : Nat) (a : Nat → Nat → Int) (x y : Nat) (v : Int), vs = [.ref t, .int (x : Nat), .int (y : Nat), .str ⟨#[sg v]⟩] ∧ SqT K H t (tabV n a) ∧ n ≤ 9 ∧ x < n ∧ y < n ∧
  ∀ H' p, Same H H' → H' p = some (.tup (tabV n (putA a x y v))) → Q (.ref p) H'
theorem sc_ws : FnScope ["table", "one", "other", "sign", "row"] ["table", "one", "other", "sign"] (defScope s_with_sign) := ⟨rfl, rfl, rfl, by decide +kernel, rfl, by decide +kernel, by decide +kernel⟩
theorem ok_ws (T : Txt K mg w) : Has P w K mg base 1 "with_sign" ["table", "one", "other", "sign"] (spWS K) := by
  refine T.d_with_sign.has sc_ws (fun vs H Q E h => ?_) (fun f cdv A outer s H vs Q E hr h => ?_)
  · obtain ⟨t, n, a, x, y, v, rfl, _⟩ := h
    rfl
  · obtain ⟨t, n, a, x, y, v, rfl, hT, hn, hx, hy, q⟩ := h
    refine ⟨_, pss_cons (ps_set (i := 4) sc_ws.nd rfl (.inl rfl) (pe_op op_add_str (pe_op op_add_str (pe_slice sl_str (pe_ix ix_tup (pv 0) (pv 1) (fun _ _ => rfl)) po_none (po_some (pv 2))) (pv 3))
        (pe_slice sl_str (pe_ix ix_tup (pv 0) (pv 1) (fun _ _ => rfl)) (po_some (pe_op op_add (pv 2) pe_int)) po_none)))
      (pss_one (ps_ret (pe_op op_catA (pe_op op_catA (pe_slice sl_tup (pv 0) po_none (po_some (pv 1))) (pe_tup (pa_cons (pv 4) pa_nil))) (pe_slice sl_tup (pv 0) (po_some (pe_op op_add (pv 1) pe_int)) po_none)))), ?_⟩
    have lr : (rowS n a x).length ≤ sizeLine := by rw [rowS_len]; exact small9 (by omega)
    have hz : (1000 : Nat) < sizeLine := small1000 (Nat.le_refl _)
    have ls : ∀ (z : Str) lo hi, (cutS z lo hi).length ≤ z.length := fun z lo hi => by
      show (cutS z lo hi).cps.toList.length ≤ z.cps.toList.length
      unfold cutS
      rw [List.toList_toArray, List.length_take, List.length_drop]
      omega
    have l1 := ls (rowS n a x) none (some ((y : Nat) : Int))
    have l2 := ls (rowS n a x) (some ((y + 1 : Nat) : Int)) none
    rw [rowS_len] at l1 l2
    refine ⟨.ref t, rfl, .int (x : Nat), rfl, t, tabV n a, ((x : Nat) : Int), .str (rowS n a x), rfl, rfl, hT, atI_nat (tabV_get hx), .int (y : Nat), rfl, _, rfl, rowS n a x, rfl, lr, .str ⟨#[sg v]⟩, rfl, _, _, rfl, rfl, ?_, ?_⟩
    · show _ + 1 ≤ _; omega
    refine ⟨.ref t, rfl, .int (x : Nat), rfl, t, tabV n a, ((x : Nat) : Int), .str (rowS n a x), rfl, rfl, hT, atI_nat (tabV_get hx), .int (y : Nat), rfl, _, 1, rfl, rfl, ((y + 1 : Nat) : Int), congrArg V.int (by omega), rowS n a x, rfl, lr, _, _, rfl, rfl, ?_, ?_⟩
    · have : (cutS (rowS n a x) none (some ((y : Nat) : Int)) ++ (⟨#[sg v]⟩ : Str)).length = (cutS (rowS n a x) none (some ((y : Nat) : Int))).length + 1 := Array.size_append
      rw [this]; omega
    rw [row_put hy]
    have lt : (tabV n a).length = n := tabV_len n a
    have hc1 := cutV_length (tabV n a) none (some ((x : Nat) : Int))
    have hc2 := cutV_length (tabV n a) (some ((x + 1 : Nat) : Int)) none
    rw [lt] at hc1 hc2
    refine ⟨.ref t, rfl, .int (x : Nat), rfl, _, rfl, t, tabV n a, rfl, hT, fun z => ?_, fun p1 np1 => ?_⟩
    · have z1 := z.2
      rw [HT.sIx_nat, lt] at z1
      omega
    have s1 := same_upd (o := .tup (cutV (tabV n a) none (some ((x : Nat) : Int)))) np1
    refine ⟨.str (rowS n (putA a x y v) x), rfl, Nat.le_of_lt (small1000 (by show 1 ≤ 1000; decide)), fun p2 np2 => ?_⟩
    have s2 := same_upd (o := .tup [V.str (rowS n (putA a x y v) x)]) np2
    refine catA (s2 _ _ upd_same) upd_same (by show _ + 1 ≤ _; omega) fun H3 p3 s3 e3 => ?_
    have s13 := s1.trans (s2.trans s3)
    refine ⟨.ref t, rfl, .int (x : Nat), rfl, _, 1, rfl, rfl, ((x + 1 : Nat) : Int), congrArg V.int (by omega), t, tabV n a, rfl, seqT s13 hT, fun z => ?_, fun p4 np4 => ?_⟩
    · have z1 := z.1
      rw [HT.sIx_nat, lt] at z1
      omega
    have s4 := same_upd (o := .tup (cutV (tabV n a) (some ((x + 1 : Nat) : Int)) none)) np4
    refine catA (s4 _ _ e3) upd_same ?_ fun H5 p5 s5 e5 => q H5 p5 (s13.trans (s4.trans s5)) ?_
    · rw [List.length_append]
      show _ + 1 + _ ≤ _
      omega
    · rw [e5, tab_put hx]
/-! ### turn_duel -/
def spTurn (K : PySem.W.Frag) : Sp := fun vs H Q _ => ∃ (t : Addr) (n : Nat) (a : Nat → Nat → Int) (x y : Nat), vs = [.ref t, .int (x : Nat), .int (y : Nat)] ∧ SqT K H t (tabV n a) ∧ n ≤ 9 ∧ x < n ∧ y < n ∧ x ≠ y ∧
  ∀ H' p, Same H H' → H' p = some (.tup (tabV n (turned a x y))) → Q (.ref p) H'
theorem sc_turn : FnScope ["table", "one", "other", "signs"] ["table", "one", "other"] (defScope s_turn_duel) := ⟨rfl, rfl, rfl, by decide +kernel, rfl, by decide +kernel, by decide +kernel⟩
theorem ok_turn (T : Txt K mg w) : Has P w K mg base 3 "turn_duel" ["table", "one", "other"] (spTurn K) := by
  refine T.d_turn_duel.has sc_turn (fun vs H Q E h => ?_) (fun f cdv A outer s H vs Q E hr h => ?_)
  · obtain ⟨t, n, a, x, y, rfl, _⟩ := h
    rfl
  · obtain ⟨t, n, a, x, y, rfl, hT, hn, hx, hy, hxy, q⟩ := h
    refine ⟨_, pss_cons (ps_expr (pe_callH (ok_req T) hr (by rfl) (pa_cons (pv 0) (pa_cons (pv 1) pa_nil))))
      (pss_cons (ps_expr (pe_callH (ok_req T) hr (by rfl) (pa_cons (pv 0) (pa_cons (pv 2) pa_nil))))
      (pss_cons (ps_if (pt_cmpR op_eq (pv 1) (pv 2) (nomark _)) (pss_one ps_never) pss_nil)
      (pss_cons (ps_set (i := 3) sc_turn.nd rfl (.inl rfl) (pe_tup (pa_cons (pe_ix ix_str (pe_ix ix_tup (pv 0) (pv 2) (fun _ _ => rfl)) (pv 1) (fun _ _ => rfl)) (pa_cons (pe_ix ix_str (pe_ix ix_tup (pv 0) (pv 1) (fun _ _ => rfl)) (pv 2) (fun _ _ => rfl)) pa_nil))))
      (pss_one (ps_ret (pe_callH (ok_ws T) (hr.mono (by decide)) (by rfl) (pa_cons (pe_callH (ok_ws T) (hr.mono (by decide)) (by rfl) (pa_cons (pv 0) (pa_cons (pv 1) (pa_cons (pv 2) (pa_cons (pe_ix ix_tup (pv 3) pe_int (fun _ _ => rfl)) pa_nil)))))
        (pa_cons (pv 2) (pa_cons (pv 1) (pa_cons (pe_ix ix_tup (pv 3) pe_int (fun _ _ => rfl)) pa_nil)))))))))), ?_⟩
    refine ⟨.ref t, rfl, .int (x : Nat), rfl, t, n, a, x, rfl, hT, hx, ?_⟩
    refine ⟨.ref t, rfl, .int (y : Nat), rfl, t, n, a, y, rfl, hT, hy, ?_⟩
    refine ⟨.int (x : Nat), rfl, .int (y : Nat), rfl, rfl, _, rfl, ite2 (fun h => ?_) (fun _ => ?_)⟩
    · rw [decI] at h
      have := of_decide_eq_true h
      exact absurd (by omega) hxy
    have lr : ∀ i, (rowS n a i).length ≤ sizeLine := fun i => by rw [rowS_len]; exact small9 (by omega)
    refine ⟨.ref t, rfl, .int (y : Nat), rfl, t, tabV n a, ((y : Nat) : Int), .str (rowS n a y), rfl, rfl, hT, atI_nat (tabV_get hy), .int (x : Nat), rfl, rowS n a y, ((x : Nat) : Int), sg (a y x), rfl, rfl, lr y, atI_nat (rowS_get hx), ?_⟩
    refine ⟨.ref t, rfl, .int (x : Nat), rfl, t, tabV n a, ((x : Nat) : Int), .str (rowS n a x), rfl, rfl, hT, atI_nat (tabV_get hx), .int (y : Nat), rfl, rowS n a x, ((y : Nat) : Int), sg (a x y), rfl, rfl, lr x, atI_nat (rowS_get hy), ?_⟩
    refine ⟨Nat.le_of_lt (small1000 (by show 2 ≤ 1000; decide)), fun g ng => ?_⟩
    have s1 := same_upd (o := .tup [V.str ⟨#[sg (a y x)]⟩, V.str ⟨#[sg (a x y)]⟩]) ng
    refine ⟨.ref t, rfl, .int (x : Nat), rfl, .int (y : Nat), rfl, .ref g, rfl, g, _, 0, .str ⟨#[sg (a y x)]⟩, rfl, rfl, SqT.of upd_same, atI_nat (j := 0) rfl, t, n, a, x, y, a y x, rfl, seqT s1 hT, hn, hx, hy, fun H2 p2 s2 e2 => ?_⟩
    refine ⟨.int (y : Nat), rfl, .int (x : Nat), rfl, .ref g, rfl, g, _, 1, .str ⟨#[sg (a x y)]⟩, rfl, rfl, SqT.of (s2 _ _ upd_same), atI_nat (j := 1) rfl, p2, n, putA a x y (a y x), y, x, a x y, rfl, SqT.of e2, hn, hy, hx, fun H3 p3 s3 e3 => q H3 p3 (s1.trans (s2.trans s3)) ?_⟩
    rw [e3]
    have : putA (putA a x y (a y x)) y x (a x y) = turned a x y := by
      funext i j
      unfold putA turned
      by_cases h1 : i = y ∧ j = x
      · rw [if_pos h1, if_neg (fun z => hxy (z.1.symm.trans h1.1)), if_pos h1]
      · rw [if_neg h1]
        by_cases h2 : i = x ∧ j = y
        · rw [if_pos h2, if_pos h2]
        · rw [if_neg h2, if_neg h2, if_neg h1]
    rw [this]
end
end Du
end
section
namespace Du
open PySem PySem.Spec PyProof.Rows L2 Duel
/-! ### the deck -/
/-- the deck at d: its cells at c, its unused numbers at u; at most B draws were made -/
def Deck (H : Hp) (d c u : Addr) (B : Nat) : Prop := d ≠ c ∧ d ≠ u ∧ c ≠ u ∧ ∃ (k : Nat) (cs us : List Int), k ≤ B ∧ 0 < cs.length ∧ us.length = cs.length ∧ cs.length ≤ 100 ∧ H d = some (.lst [.ref c, .int (k : Nat), .ref u]) ∧ H c = some (.lst (cs.map V.int)) ∧ H u = some (.lst (us.map V.int))
/-- all stands but the deck -/
def Kept (d u : Addr) (H H' : Hp) : Prop := ∀ b o, H b = some o → b ≠ d → b ≠ u → H' b = some o
theorem Deck.same {H H' : Hp} {d c u : Addr} {B : Nat} (D : Deck H d c u B) (e : Same H H') : Deck H' d c u B := by
  obtain ⟨n1, n2, n3, k, cs, us, a1, a2, a3, a4, h1, h2, h3⟩ := D
  exact ⟨n1, n2, n3, k, cs, us, a1, a2, a3, a4, e _ _ h1, e _ _ h2, e _ _ h3⟩
theorem Deck.mono {H : Hp} {d c u : Addr} {B C : Nat} (D : Deck H d c u B) (e : B ≤ C) : Deck H d c u C := by
  obtain ⟨n1, n2, n3, k, cs, us, a1, a2, a3, a4, h⟩ := D
  exact ⟨n1, n2, n3, k, cs, us, Nat.le_trans a1 e, a2, a3, a4, h⟩
theorem Deck.d {H : Hp} {d c u : Addr} {B : Nat} (D : Deck H d c u B) : ∃ xs, H d = some (.lst xs) := by
  obtain ⟨_, _, _, k, cs, us, _, _, _, _, h1, _⟩ := D
  exact ⟨_, h1⟩
theorem Deck.c {H : Hp} {d c u : Addr} {B : Nat} (D : Deck H d c u B) : ∃ xs, H c = some (.lst xs) := by
  obtain ⟨_, _, _, k, cs, us, _, _, _, _, _, h, _⟩ := D
  exact ⟨_, h⟩
theorem Deck.u {H : Hp} {d c u : Addr} {B : Nat} (D : Deck H d c u B) : ∃ xs, H u = some (.lst xs) := by
  obtain ⟨_, _, _, k, cs, us, _, _, _, _, _, _, h⟩ := D
  exact ⟨_, h⟩
/-- another object changes -/
theorem Deck.upd {H : Hp} {d c u l : Addr} {B : Nat} {o : HO} (D : Deck H d c u B) (hd : l ≠ d) (hc : l ≠ c) (hu : l ≠ u) : Deck (upd H l o) d c u B := by
  obtain ⟨n1, n2, n3, k, cs, us, a1, a2, a3, a4, h1, h2, h3⟩ := D
  exact ⟨n1, n2, n3, k, cs, us, a1, a2, a3, a4, by rw [upd_ne hd.symm]; exact h1, by rw [upd_ne hc.symm]; exact h2, by rw [upd_ne hu.symm]; exact h3⟩
theorem Kept.refl (d u : Addr) (H : Hp) : Kept d u H H := fun _ _ h _ _ => h
theorem Kept.trans {d u : Addr} {H H1 H2 : Hp} (a : Kept d u H H1) (b : Kept d u H1 H2) : Kept d u H H2 := fun p o h x y => b p o (a p o h x y) x y
theorem Kept.of {d u : Addr} {H H1 : Hp} (a : Same H H1) : Kept d u H H1 := fun p o h _ _ => a p o h
theorem Kept.tup {d c u : Addr} {H H1 : Hp} {B : Nat} (a : Kept d u H H1) (D : Deck H d c u B) {p : Addr} {xs : List V} (h : H p = some (.tup xs)) : H1 p = some (.tup xs) := by
  obtain ⟨ys, hd⟩ := D.d
  obtain ⟨zs, hu⟩ := D.u
  refine a p _ h (fun z => ?_) fun z => ?_
  · rw [z, hd] at h; cases h
  · rw [z, hu] at h; cases h
theorem Kept.none {d c u : Addr} {H H1 : Hp} {B B1 : Nat} (a : Kept d u H H1) (D : Deck H d c u B) {p : Addr} (h : H1 p = Option.none) (D1 : Deck H1 d c u B1) : H p = Option.none := by
  cases e : H p with
  | none => rfl
  | some o =>
    obtain ⟨ys, hd⟩ := D1.d
    obtain ⟨zs, hu⟩ := D1.u
    have := a p o e (fun z => by rw [z, hd] at h; cases h) fun z => by rw [z, hu] at h; cases h
    rw [h] at this; cases this
section
variable {P : Program} {w : World} {K : PySem.W.Frag} {mg : Str → Option Value} {base : Heap}
def spDeck (K : PySem.W.Frag) : Sp := fun vs H Q _ => ∃ (a : Addr) (ns : List Int), vs = [.ref a] ∧ SqL K H a (ns.map V.int) ∧ ns.length ≤ 63 ∧ ∀ H' d c u, Same H H' → Deck H' d c u 0 → Q (.ref d) H'
theorem sc_deck : FnScope ["_law_script", "_law_cells", "_law_cell"] ["_law_script"] (defScope s_l_deck) := ⟨rfl, rfl, rfl, by decide +kernel, rfl, by decide +kernel, by decide +kernel⟩
theorem small01 (c : Prop) [Decidable c] : -(2 ^ 64) < (if c then (1 : Int) else 0) ∧ (if c then (1 : Int) else 0) < 2 ^ 64 := by split <;> decide
theorem cut_ints {ns : List Int} {h : Option Int} : cutV (ns.map V.int) none h = (ns.take (HT.sIx ns.length ns.length h)).map V.int := by
  unfold cutV
  rw [HT.sIx_none, List.length_map, List.map_take]
  rfl
theorem rep_flat' (n : Nat) (x : Int) : (List.replicate n [V.int x]).flatten = (List.replicate n x).map V.int := by
  induction n with
  | zero => rfl
  | succ n ih => rw [List.replicate_succ, List.flatten_cons, ih, List.replicate_succ]; rfl
theorem ok_deck (T : Txt K mg w) : Has P w K mg base 1 "_law_deck" ["_law_script"] (spDeck K) := by
  refine T.d_l_deck.has sc_deck (fun vs H Q E h => ?_) (fun f cdv A outer s H vs Q E hr h => ?_)
  · obtain ⟨a, ns, rfl, _⟩ := h
    rfl
  · obtain ⟨a, ns, rfl, hS, h63, q⟩ := h
    refine ⟨_, pss_cons (ps_set (i := 1) sc_deck.nd rfl (.inl rfl) (pe_op op_cat (pe_callTy call_list_of (by rfl) T.b_list (by decide +kernel) (pa_cons (pe_slice sl_list (pv 0) po_none (po_some pe_int)) pa_nil))
        (pe_op op_rep (pe_lst (pa_cons pe_int pa_nil)) (pe_callTy call_int1 (by rfl) T.b_int (by decide +kernel) (pa_cons (pe_cmpR op_eq (pe_callB call_len_seq (by rfl) T.b_len PySem.boot_len (pa_cons (pv 0) pa_nil)) pe_int (nomark _)) pa_nil)))))
      (pss_one (ps_ret (pe_lst (pa_cons (pv 1) (pa_cons pe_int (pa_cons
        (pe_lc (own := [("_law_cell", 2)]) (g := gName 2) (tt := tYes) rfl sc_deck.nd (pi_list (pv 1)) (blkOk_by (N := ["_law_script", "_law_cells", "_law_cell"]) (sc := defScope s_l_deck) (by decide +kernel))
          (fun _ _ _ _ _ => pg_name (i := 2) sc_deck.nd rfl (.inl rfl)) (fun _ _ _ _ _ => pts_nil)
          (fun _ _ _ _ _ => pe_op op_mul (pe_callB call_abs (by rfl) T.b_abs (by decide +kernel) (pa_cons (pv 2) pa_nil))
            (pe_callTy call_int1 (by rfl) T.b_int (by decide +kernel) (pa_cons (pe_cmpR op_ge (pe_callB call_abs (by rfl) T.b_abs (by decide +kernel) (pa_cons (pv 2) pa_nil)) (pe_op op_pow pe_int pe_int) (nomark _)) pa_nil)))) pa_nil)))))), ?_⟩
    refine ⟨.ref a, rfl, 63, rfl, a, _, rfl, hS, fun p1 n1 => ?_⟩
    rw [cut_ints]
    obtain ⟨ms, hms⟩ : ∃ ms, ns.take (HT.sIx ns.length ns.length (some 63)) = ms := ⟨_, rfl⟩
    have lm : ms.length ≤ 63 := by rw [← hms, List.length_take]; omega
    have lm0 : ns.length ≠ 0 → 0 < ms.length := fun h => by
      rw [← hms, List.length_take, show (63 : Int) = ((63 : Nat) : Int) from rfl, HT.sIx_nat]; omega
    rw [hms]
    have s1 := same_upd (o := .lst (ms.map V.int)) n1
    refine ⟨p1, _, rfl, .inl (SqL.of upd_same), fun p2 n2 => ?_⟩
    have s2 := same_upd (o := .lst (ms.map V.int)) n2
    refine ⟨Nat.le_of_lt (small1000 (by show 1 ≤ 1000; decide)), fun p3 n3 => ?_⟩
    have s3 := same_upd (o := .lst [V.int 11]) n3
    refine ⟨.ref a, rfl, a, _, rfl, .inl ((s1.trans (s2.trans s3)).seq hS), rfl, .inr ⟨_, rfl, ?_⟩⟩
    rw [decI, List.length_map]
    obtain ⟨r, hr0, hr1⟩ : ∃ r : Nat, (if decide ((ns.length : Int) = 0) = true then (1 : Int) else 0) = (r : Nat) ∧ (r ≤ 1 ∧ (ns.length = 0 → r = 1)) := by
      by_cases h : ns.length = 0
      · exact ⟨1, by rw [h]; rfl, Nat.le_refl _, fun _ => rfl⟩
      · exact ⟨0, by rw [if_neg (by simpa using fun z => h (by rw [z]; rfl))]; rfl, by omega, fun z => absurd z h⟩
    refine ⟨p3, _, [V.int 11], rfl, congrArg V.int hr0, upd_same, by omega, by omega, by show 1 * _ ≤ _; exact small9 (by omega), fun p4 n4 => ?_⟩
    rw [show ((r : Nat) : Int).toNat = r by omega, rep_flat']
    have s4 := same_upd (o := .lst ((List.replicate r (11 : Int)).map V.int)) n4
    refine ⟨p2, p4, _, _, rfl, rfl, s4 _ _ (s3 _ _ upd_same), upd_same, ?_, fun p5 n5 => ?_⟩
    · rw [List.length_map, List.length_map, List.length_replicate]; exact small9 (by omega)
    rw [← List.map_append]
    obtain ⟨cs, hcs⟩ : ∃ cs, ms ++ List.replicate r (11 : Int) = cs := ⟨_, rfl⟩
    have lc : cs.length ≤ 100 := by rw [← hcs, List.length_append, List.length_replicate]; omega
    have lc0 : 0 < cs.length := by
      rw [← hcs, List.length_append, List.length_replicate]
      by_cases h : ns.length = 0
      · have := hr1.2 h; omega
      · have := lm0 h; omega
    rw [hcs]
    have s5 := same_upd (o := .lst (cs.map V.int)) n5
    have s15 := s1.trans (s2.trans (s3.trans (s4.trans s5)))
    have e5 : upd (upd (upd (upd (upd H p1 (.lst (ms.map V.int))) p2 (.lst (ms.map V.int))) p3 (.lst [V.int 11])) p4 (.lst ((List.replicate r (11 : Int)).map V.int))) p5 (.lst (cs.map V.int)) p5 = some (.lst (cs.map V.int)) := upd_same
    refine ⟨.ref p5, rfl, .ref p5, rfl, p5, rfl, ⟨_, SqL.of e5⟩, fun u nu => ?_⟩
    refine lc_map (walk_list (xs := cs.map V.int)) (fun k => V.int (((cs.getD k 0).natAbs : Nat) * (if (10 : Int) ^ 18 ≤ ((cs.getD k 0).natAbs : Nat) then 1 else 0))) (by rw [List.length_map]; exact small9 (by omega)) nu (fun H' s => SqL.of (s _ _ e5)) (fun j x H2 H3 C hj s6 _ y hC => ?_) fun H2 s6 eU => ?_
    · obtain ⟨rfl, hx⟩ := y
      rw [List.length_map] at hj
      rw [List.getElem?_map, List.getElem?_eq_getElem hj] at hx
      cases hx
      have z := hC _ (Same.refl _)
      rw [getD_get hj, ← absI] at z
      refine ⟨rfl, .int cs[j], rfl, cs[j], rfl, .int cs[j], rfl, cs[j], rfl, 10, 18, rfl, rfl, ⟨by decide, by decide, by decide⟩, _, _, rfl, rfl, .inr ⟨_, rfl, ?_⟩⟩
      have e18 : (18 : Int).toNat = 18 := rfl
      refine ⟨_, _, rfl, rfl, .inr ?_, ?_⟩
      · exact small01 _
      · simp only [decide_eq_true_eq, e18] at z ⊢
        exact z
    · rw [List.length_map] at eU
      refine ⟨Nat.le_of_lt (small1000 (by show 3 ≤ 1000; decide)), fun d nd => ?_⟩
      have s7 := same_upd (o := .lst [V.ref p5, V.int 0, V.ref u]) nd
      have ec := s6 _ _ e5
      have n1 : d ≠ p5 := fun z => by rw [z, ec] at nd; cases nd
      have n2 : d ≠ u := fun z => by rw [z, eU] at nd; cases nd
      have n3 : p5 ≠ u := fun z => by rw [← z, e5] at nu; cases nu
      refine q _ d p5 u (s15.trans (s6.trans s7)) ⟨n1, n2, n3, 0, cs, (List.range cs.length).map fun k => (((cs.getD k 0).natAbs : Nat) : Int) * (if (10 : Int) ^ 18 ≤ ((cs.getD k 0).natAbs : Nat) then 1 else 0), Nat.le_refl _, lc0, by rw [List.length_map, List.length_range], lc, upd_same, s7 _ _ ec, ?_⟩
      rw [s7 _ _ eU, List.map_map]
      rfl
end
end Du
end
section
namespace Du
open PySem PySem.Spec PyProof.Rows L2 Duel
section
variable {P : Program} {w : World} {K : PySem.W.Frag} {mg : Str → Option Value} {base : Heap}
/-! ### _law_draw -/
def spDraw (K : PySem.W.Frag) : Sp := fun vs H Q _ => ∃ (d c u : Addr) (B : Nat) (m : Nat), vs = [.ref d, .int (m : Nat)] ∧ Deck H d c u B ∧ B ≤ 100000 ∧ 0 < m ∧ m < 1073741824 ∧
  ∀ H' (r : Nat), r < m → Kept d u H H' → Deck H' d c u (B + 1) → Q (.int (r : Nat)) H'
theorem sc_draw : FnScope ["_law_deck_here", "_law_many", "_law_at", "_law_digit", "_law_mixed_here"] ["_law_deck_here", "_law_many"] (defScope s_l_draw) := ⟨rfl, rfl, rfl, by decide +kernel, rfl, by decide +kernel, by decide +kernel⟩
theorem ok_draw (T : Txt K mg w) : Has P w K mg base 1 "_law_draw" ["_law_deck_here", "_law_many"] (spDraw K) := by
  refine T.d_l_draw.has sc_draw (fun vs H Q E h => ?_) (fun f cdv A outer s H vs Q E hr h => ?_)
  · obtain ⟨d, c, u, B, m, rfl, _⟩ := h
    rfl
  · obtain ⟨d, c, u, B, m, rfl, ⟨n1, n2, n3, k, cs, us, kB, c0, luc, lc, hd, hc, hu⟩, hB, m0, m1, q⟩ := h
    refine ⟨_, pss_cons (ps_set (i := 2) sc_draw.nd rfl (.inl rfl) (pe_op op_mod (pe_ix ix_list (pv 0) pe_int (fun _ _ => rfl)) (pe_callB call_len_seq (by rfl) T.b_len PySem.boot_len (pa_cons (pe_ix ix_list (pv 0) pe_int (fun _ _ => rfl)) pa_nil))))
      (pss_cons (ps_asg (pe_op op_add (pe_ix ix_list (pv 0) pe_int (fun _ _ => rfl)) pe_int) (pg_sub (pv 0) pe_int set_list))
      (pss_cons (ps_if (pt_cmpR op_gt (pe_ix ix_list (pe_ix ix_list (pv 0) pe_int (fun _ _ => rfl)) (pv 2) (fun _ _ => rfl)) pe_int (nomark _))
        (pss_cons (ps_set (i := 3) sc_draw.nd rfl (.inl rfl) (pe_op op_mod (pe_ix ix_list (pe_ix ix_list (pv 0) pe_int (fun _ _ => rfl)) (pv 2) (fun _ _ => rfl)) (pv 1)))
        (pss_cons (ps_asg (pe_op op_fdiv (pe_ix ix_list (pe_ix ix_list (pv 0) pe_int (fun _ _ => rfl)) (pv 2) (fun _ _ => rfl)) (pv 1)) (pg_sub (pe_ix ix_list (pv 0) pe_int (fun _ _ => rfl)) (pv 2) set_list))
        (pss_one (ps_ret (pv 3))))) pss_nil)
      (pss_cons (ps_set (i := 4) sc_draw.nd rfl (.inl rfl) (pe_op op_mod (pe_op op_pow (pe_op op_add (pe_op op_add (pe_op op_mod (pe_ix ix_list (pe_ix ix_list (pv 0) pe_int (fun _ _ => rfl)) (pv 2) (fun _ _ => rfl)) pe_int) (pe_op op_mul pe_int (pe_ix ix_list (pv 0) pe_int (fun _ _ => rfl)))) pe_int) pe_int) pe_int))
      (pss_cons (ps_set (i := 4) sc_draw.nd rfl (.inl rfl) (pe_op op_mod (pe_op op_pow (pe_op op_add (pv 4) (pe_op op_mul (pe_op op_mul pe_int (pe_ix ix_list (pv 0) pe_int (fun _ _ => rfl))) (pe_ix ix_list (pv 0) pe_int (fun _ _ => rfl)))) pe_int) pe_int))
      (pss_one (ps_ret (pe_op op_mod (pe_op op_fdiv (pv 4) pe_int) (pv 1)))))))), ?_⟩
    obtain ⟨j, hj⟩ : ∃ j, k % cs.length = j := ⟨_, rfl⟩
    have jl : j < cs.length := by rw [← hj]; exact Nat.mod_lt _ c0
    have ej : ((k : Nat) : Int) % ((cs.length : Nat) : Int) = ((j : Nat) : Int) := by rw [← hj]; omega
    refine ⟨.ref d, rfl, d, _, 1, .int (k : Nat), rfl, rfl, SqL.of hd, atI_nat (j := 1) rfl, .ref d, rfl, d, _, 0, .ref c, rfl, rfl, SqL.of hd, atI_nat (j := 0) rfl, c, cs.map V.int, rfl, .inl (SqL.of hc), (k : Nat), ((cs.map V.int).length : Int), rfl, rfl, by rw [List.length_map]; omega, ?_⟩
    dsimp only
    rw [List.length_map, ej]
    refine ⟨.ref d, rfl, d, _, 1, .int (k : Nat), rfl, rfl, SqL.of hd, atI_nat (j := 1) rfl, (k : Nat), 1, rfl, rfl, .ref d, rfl, d, _, 1, 1, rfl, rfl, hd, ixN_nat (j := 1) (by show 1 < 3; omega), ?_⟩
    obtain ⟨H1, hH1⟩ : ∃ H1, upd H d (.lst [.ref c, .int ((k + 1 : Nat) : Int), .ref u]) = H1 := ⟨_, rfl⟩
    have e1 : upd H d (.lst ([V.ref c, .int (k : Nat), .ref u].set 1 (.int ((k : Nat) + 1)))) = H1 := by rw [← hH1]; rfl
    show tSeq _ _ _ _ _
    rw [e1]
    have hd1 : H1 d = some (.lst [.ref c, .int ((k + 1 : Nat) : Int), .ref u]) := by rw [← hH1]; exact upd_same
    have hc1 : H1 c = some (.lst (cs.map V.int)) := by rw [← hH1, upd_ne n1.symm]; exact hc
    have hu1 : H1 u = some (.lst (us.map V.int)) := by rw [← hH1, upd_ne n2.symm]; exact hu
    have k1 : Kept d u H H1 := fun b o e hbd _ => by rw [← hH1, upd_ne hbd]; exact e
    have gu : (us.map V.int)[j]? = some (.int us[j]) := by rw [List.getElem?_map, List.getElem?_eq_getElem (by omega)]; rfl
    have gc : (cs.map V.int)[j]? = some (.int cs[j]) := by rw [List.getElem?_map, List.getElem?_eq_getElem jl]; rfl
    have fin : ∀ (H2 : Hp) (us2 : List Int) (v : Int), (∀ b o, H1 b = some o → b ≠ u → H2 b = some o) → us2.length = cs.length → H2 u = some (.lst (us2.map V.int)) → 0 ≤ v → v < m → Q (.int v) H2 := fun H2 us2 v kk l2 e2 v0 v1 => by
      have := q H2 v.toNat (by omega) (k1.trans fun b o e _ hbu => kk b o e hbu) ⟨n1, n2, n3, k + 1, cs, us2, by omega, c0, l2, lc, kk _ _ hd1 n2, kk _ _ hc1 n3, e2⟩
      rw [Int.toNat_of_nonneg v0] at this
      exact this
    have ju : j < us.length := by omega
    refine ⟨.ref d, rfl, d, _, 2, .ref u, rfl, rfl, SqL.of hd1, atI_nat (j := 2) rfl, .int (j : Nat), rfl, u, _, (j : Nat), .int us[j], rfl, rfl, SqL.of hu1, atI_nat gu, us[j], 0, rfl, rfl, _, rfl, ite2 (fun h => ?_) (fun h => ?_)⟩
    · have hpos := of_decide_eq_true h
      refine ⟨.ref d, rfl, d, _, 2, .ref u, rfl, rfl, SqL.of hd1, atI_nat (j := 2) rfl, .int (j : Nat), rfl, u, _, (j : Nat), .int us[j], rfl, rfl, SqL.of hu1, atI_nat gu, .int (m : Nat), rfl, us[j], (m : Nat), rfl, rfl, (show (0 : Int) < (m : Nat) by omega), ?_⟩
      refine ⟨.ref d, rfl, d, _, 2, .ref u, rfl, rfl, SqL.of hd1, atI_nat (j := 2) rfl, .int (j : Nat), rfl, u, _, (j : Nat), .int us[j], rfl, rfl, SqL.of hu1, atI_nat gu, .int (m : Nat), rfl, us[j], (m : Nat), rfl, rfl, ⟨by omega, by omega⟩, ?_⟩
      refine ⟨.ref d, rfl, d, _, 2, .ref u, rfl, rfl, SqL.of hd1, atI_nat (j := 2) rfl, .int (j : Nat), rfl, u, _, (j : Nat), j, rfl, rfl, hu1, ixN_nat (by rw [List.length_map]; exact ju), ?_⟩
      refine ⟨_, rfl, fin _ (us.set j (us[j] / (m : Nat))) _ (fun b o e hb => ?_) (by rw [List.length_set]; exact luc) ?_ (Int.emod_nonneg _ (by omega)) (Int.emod_lt_of_pos _ (by omega))⟩
      · rw [upd_ne hb]; exact e
      · rw [upd_same, List.map_set]
    · refine ⟨.ref d, rfl, d, _, 0, .ref c, rfl, rfl, SqL.of hd1, atI_nat (j := 0) rfl, .int (j : Nat), rfl, c, _, (j : Nat), .int cs[j], rfl, rfl, SqL.of hc1, atI_nat gc, cs[j], 2147483629, rfl, rfl, (show (0 : Int) < 2147483629 by decide), ?_⟩
      have b1 := Int.emod_nonneg cs[j] (show (2147483629 : Int) ≠ 0 by decide)
      have b2 := Int.emod_lt_of_pos cs[j] (show (0 : Int) < 2147483629 by decide)
      refine ⟨.ref d, rfl, d, _, 1, .int ((k + 1 : Nat) : Int), rfl, rfl, SqL.of hd1, atI_nat (j := 1) rfl, 48271, ((k + 1 : Nat) : Int), rfl, rfl, .inl (by decide), _, _, rfl, rfl, _, 7, rfl, rfl, _, 3, rfl, rfl, ⟨by decide, by decide, ?_⟩, _, 2147483647, rfl, rfl, (show (0 : Int) < 2147483647 by decide), ?_⟩
      · omega
      obtain ⟨y, hy⟩ : ∃ y : Int, (cs[j] % 2147483629 + 48271 * ((k + 1 : Nat) : Int) + 7) ^ (3 : Int).toNat % 2147483647 = y := ⟨_, rfl⟩
      dsimp only
      rw [hy]
      have y0 : 0 ≤ y := by rw [← hy]; exact Int.emod_nonneg _ (by decide)
      have y1 : y < 2147483647 := by rw [← hy]; exact Int.emod_lt_of_pos _ (by decide)
      refine ⟨.int y, rfl, .ref d, rfl, d, _, 1, .int ((k + 1 : Nat) : Int), rfl, rfl, SqL.of hd1, atI_nat (j := 1) rfl, 69621, ((k + 1 : Nat) : Int), rfl, rfl, .inl (by decide), .ref d, rfl, d, _, 1, .int ((k + 1 : Nat) : Int), rfl, rfl, SqL.of hd1, atI_nat (j := 1) rfl, _, ((k + 1 : Nat) : Int), rfl, rfl, .inl ?_, _, _, rfl, rfl, _, 3, rfl, rfl, ⟨by decide, by decide, ?_⟩, _, 2147483587, rfl, rfl, (show (0 : Int) < 2147483587 by decide), ?_⟩
      · omega
      · have hk : (k + 1 : Nat) ≤ 100001 := by omega
        have hm : (k + 1) * (k + 1) ≤ 100001 * 100001 := Nat.mul_le_mul hk hk
        have e : 69621 * ((k + 1 : Nat) : Int) * ((k + 1 : Nat) : Int) = 69621 * (((k + 1) * (k + 1) : Nat) : Int) := by rw [Int.mul_assoc, Int.natCast_mul]
        rw [e]
        omega
      · obtain ⟨z, hz⟩ : ∃ z : Int, (y + 69621 * ((k + 1 : Nat) : Int) * ((k + 1 : Nat) : Int)) ^ (3 : Int).toNat % 2147483587 = z := ⟨_, rfl⟩
        dsimp only
        rw [hz]
        have z0 : 0 ≤ z := by rw [← hz]; exact Int.emod_nonneg _ (by decide)
        refine ⟨.int z, rfl, z, 8, rfl, rfl, ⟨by decide, by decide⟩, .int (m : Nat), rfl, _, (m : Nat), rfl, rfl, (show (0 : Int) < (m : Nat) by omega), ?_⟩
        exact fin H1 us _ (fun b o e _ => e) luc hu1 (Int.emod_nonneg _ (by omega)) (Int.emod_lt_of_pos _ (by omega))
/-! ### _law_mixed -/
def spMixed (K : PySem.W.Frag) : Sp := fun vs H Q _ => ∃ (d c u r : Addr) (B : Nat) (M : List Nat), vs = [.ref d, .ref r] ∧ Deck H d c u B ∧ B ≤ 10000 ∧ SqL K H r (nV M) ∧ M.length ≤ 9 ∧
  ∀ H' l N, Kept d u H H' → Deck H' d c u (B + M.length) → H' l = some (.lst (nV N)) → N.Perm M → H l = none → Q (.ref l) H'
theorem sc_mixed : FnScope ["_law_deck_here", "_law_row", "_law_left", "_law_found"] ["_law_deck_here", "_law_row"] (defScope s_l_mixed) := ⟨rfl, rfl, rfl, by decide +kernel, rfl, by decide +kernel, by decide +kernel⟩
theorem perm_pop {N L M : List Nat} {r : Nat} (hr : r < L.length) (p : (N ++ L).Perm M) : ((N ++ [L[r]]) ++ L.eraseIdx r).Perm M := by
  refine List.Perm.trans ?_ p
  rw [List.append_assoc]
  refine List.Perm.append_left N ?_
  show (L[r] :: L.eraseIdx r).Perm L
  rw [List.eraseIdx_eq_take_drop_succ]
  have h : L = L.take r ++ (L[r] :: L.drop (r + 1)) := by
    rw [← List.drop_eq_getElem_cons hr, List.take_append_drop]
  exact (List.perm_middle.symm).trans (by rw [← h])
theorem ok_mixed (T : Txt K mg w) : Has P w K mg base 2 "_law_mixed" ["_law_deck_here", "_law_row"] (spMixed K) := by
  refine T.d_l_mixed.has sc_mixed (fun vs H Q E h => ?_) (fun f cdv A outer s H vs Q E hr h => ?_)
  · obtain ⟨d, c, u, r, B, M, rfl, _⟩ := h
    rfl
  · obtain ⟨d, c, u, r, B, M, rfl, D, hB, hS, h9, q⟩ := h
    refine ⟨_, pss_cons (ps_set (i := 2) sc_mixed.nd rfl (.inl rfl) (pe_callTy call_list_of (by rfl) T.b_list (by decide +kernel) (pa_cons (pv 1) pa_nil)))
      (pss_cons (ps_set (i := 3) sc_mixed.nd rfl (.inl rfl) (pe_lst pa_nil))
      (pss_cons (ps_while PassesOwn.never (pt_cmpR (op_neD hr.units) (pv 2) (pe_lst pa_nil) (nomark _))
        (pss_one (ps_expr (pe_bm PySem.F.plainAttrs_list PySem.F.slot_list_append PySem.F.type_list_append mt_append (pv 3) (pa_cons
          (pe_bm PySem.F.plainAttrs_list PySem.F.slot_list_pop PySem.F.type_list_pop mt_popAt (pv 2) (pa_cons
            (pe_callH (ok_draw T) hr (by rfl) (pa_cons (pv 0) (pa_cons (pe_callB call_len_seq (by rfl) T.b_len PySem.boot_len (pa_cons (pv 2) pa_nil)) pa_nil))) pa_nil)) pa_nil)))))
      (pss_one (ps_ret (pv 3))))), ?_⟩
    refine ⟨.ref r, rfl, r, _, rfl, .inl hS, fun l nl => ⟨Nat.zero_le _, fun g ng => ?_⟩⟩
    have s1 := same_upd (o := .lst (nV M)) nl
    have s2 := same_upd (o := .lst []) ng
    have lg : l ≠ g := fun z => by rw [← z, upd_same] at ng; cases ng
    have ng0 : H g = none := s1.free ng
    obtain ⟨xd, hd⟩ := D.d
    obtain ⟨xc, hc⟩ := D.c
    obtain ⟨xu, hu⟩ := D.u
    have ld : l ≠ d := (ne_of_none hd nl).symm
    have lc : l ≠ c := (ne_of_none hc nl).symm
    have lu : l ≠ u := (ne_of_none hu nl).symm
    have gd : g ≠ d := (ne_of_none hd ng0).symm
    have gc : g ≠ c := (ne_of_none hc ng0).symm
    have gu : g ≠ u := (ne_of_none hu ng0).symm
    have e0 : upd (upd H l (.lst (nV M))) g (.lst []) l = some (.lst (nV M)) := by rw [upd_ne lg]; exact upd_same
    refine while_by (fun σ H' => ∃ N L, σ = [some (.ref d), some (.ref r), some (.ref l), some (.ref g)] ∧ Kept d u H H' ∧ Deck H' d c u (B + N.length) ∧ H' l = some (.lst (nV L)) ∧ H' g = some (.lst (nV N)) ∧ (N ++ L).Perm M)
      (fun σ H' => match H' l with | some (.lst xs) => xs.length | _ => 0) ⟨[], M, rfl, Kept.of (s1.trans s2), D.same (s1.trans s2), e0, upd_same, List.Perm.refl _⟩ ?_ ?_
    · rintro σ H' ⟨N, L, rfl, kp, D', el, eg, pm⟩
      have hlen : N.length + L.length = M.length := by rw [← List.length_append]; exact pm.length_eq
      refine ⟨.ref l, rfl, Nat.zero_le _, fun e ne => ?_⟩
      have s3 := same_upd (o := .lst []) ne
      refine neL (ns := iV L) (ms := []) (by rw [iV_map]; exact SqL.of (s3 _ _ el)) (SqL.of upd_same) ⟨_, rfl, ite2 (fun h => ?_) (fun h => ?_)⟩
      · have hL : L ≠ [] := fun z => by rw [z] at h; revert h; decide
        have hL0 : 0 < L.length := List.length_pos_iff.mpr hL
        have k3 : Kept d u H' (upd H' e (.lst [])) := Kept.of s3
        refine ⟨.ref g, rfl, .inl ⟨rfl, _, SqL.of (s3 _ _ eg)⟩, .ref l, rfl, .inl ⟨rfl, _, SqL.of (s3 _ _ el)⟩, .ref d, rfl, .ref l, rfl, l, nV L, rfl, .inl (SqL.of (s3 _ _ el)), d, c, u, B + N.length, L.length, ?_, D'.same s3, by omega, hL0, by omega, fun H4 r hr4 k4 D4 => ?_⟩
        · rw [nV_len]; rfl
        have el4 := k4 _ _ (s3 _ _ el) ld lu
        have eg4 := k4 _ _ (s3 _ _ eg) gd gu
        refine ⟨l, nV L, (r : Nat), r, _, rfl, rfl, el4, by omega, by omega, (ixN_seq (ixN_nat (by rw [nV_len]; exact hr4))).1, nV_get hr4, ?_⟩
        have eg5 : upd H4 l (.lst ((nV L).eraseIdx r)) g = some (.lst (nV N)) := by rw [upd_ne lg.symm]; exact eg4
        refine ⟨g, nV N, _, rfl, rfl, eg5, by rw [nV_len]; exact small1000 (by omega), ⟨N ++ [L[r]], L.eraseIdx r, rfl, fun b o hb hbd hbu => ?_, ?_, ?_, ?_, perm_pop hr4 pm⟩, ?_⟩
        · have hbl : b ≠ l := ne_of_none hb nl
          have hbg : b ≠ g := ne_of_none hb ng0
          rw [upd_ne hbg, upd_ne hbl]
          exact k4 _ _ (s3 _ _ (kp _ _ hb hbd hbu)) hbd hbu
        · rw [List.length_append]
          exact (D4.upd ld lc lu).upd gd gc gu
        · rw [upd_ne lg, upd_same]
          unfold nV
          rw [List.eraseIdx_eq_take_drop_succ, List.eraseIdx_eq_take_drop_succ, List.map_append, List.map_take, List.map_drop]
        · rw [upd_same, nV_app, getD_get hr4]
          rfl
        · show (match upd (upd H4 l _) g _ l with | some (.lst xs) => xs.length | _ => 0) < (match H' l with | some (.lst xs) => xs.length | _ => 0)
          rw [upd_ne lg, upd_same, el]
          show ((nV L).eraseIdx r).length < (nV L).length
          rw [List.length_eraseIdx_of_lt (by rw [nV_len]; exact hr4), nV_len]
          omega
      · have hL : L = [] := by
          cases L with
          | nil => rfl
          | cons x L => exact absurd rfl h
        subst hL
        rw [List.append_nil] at pm
        refine ⟨.ref g, rfl, q _ g N (kp.trans (Kept.of s3)) ((D'.same s3).mono (by rw [pm.length_eq]; omega)) (s3 _ _ eg) pm ng0⟩
    · rintro σ H' Q1 Q2 h ⟨v, e1, ln, hq⟩
      refine ⟨v, e1, ln, fun p np => ?_⟩
      obtain ⟨x, y, a1, a2, a3, a4, k, a5, a6⟩ := hq p np
      exact ⟨x, y, a1, a2, a3, a4, k, a5, h _ _ a6⟩
end
end Du
end
section
namespace Du
open PySem PySem.Spec PyProof.Rows L2 Duel
/-- some bool, the heap as it was -/
def AnyB (t : TE) (σ : L2.St) (H : Hp) : Prop := ∀ Q : VK, (∀ b, Q (.bl b) H) → t σ H Q
theorem anyOr {ta tb : TE} {σ : L2.St} {H : Hp} (ha : AnyB ta σ H) (hb : AnyB tb σ H) : AnyB (tOrV ta tb) σ H := fun Q hq => ha _ fun b => ⟨b, rfl, by
  cases b with
  | true => exact iteT (hq true)
  | false => exact iteF (hb Q hq)⟩
theorem anyAnd {ta tb : TE} {σ : L2.St} {H : Hp} (ha : AnyB ta σ H) (hb : AnyB tb σ H) : AnyB (tAndV ta tb) σ H := fun Q hq => ha _ fun b => ⟨b, rfl, by
  cases b with
  | true => exact iteT (hb Q hq)
  | false => exact iteF (hq false)⟩
theorem viaC {cont : L2.St → Hp → Prop} (Pm : L2.St → Hp → Prop) {G : Prop} (h1 : (∀ σ H, Pm σ H → cont σ H) → G) (h2 : ∀ σ H, Pm σ H → cont σ H) : G := h1 h2
/-! ### the rows as lists of signs -/
def cellV (n : Nat) (a : Nat → Nat → Int) (x : Nat) : List V := (List.range n).map fun y => V.str ⟨#[sg (a x y)]⟩
theorem cell_len (n : Nat) (a : Nat → Nat → Int) (x : Nat) : (cellV n a x).length = n := by unfold cellV; rw [List.length_map, List.length_range]
theorem cell_put {n : Nat} {a : Nat → Nat → Int} {x y : Nat} {v : Int} (hy : y < n) : (cellV n a x).set y (V.str ⟨#[sg v]⟩) = cellV n (putA a x y v) x := by
  unfold cellV
  rw [map_set hy]
  refine List.map_congr_left fun j _ => ?_
  unfold putA
  by_cases h : j = y
  · rw [if_pos h, if_pos ⟨rfl, h⟩]
  · rw [if_neg h, if_neg (fun z => h z.2)]
theorem cell_other {n : Nat} {a : Nat → Nat → Int} {x y z : Nat} {v : Int} (h : z ≠ x) : cellV n (putA a x y v) z = cellV n a z := by
  unfold cellV
  refine List.map_congr_left fun j _ => ?_
  unfold putA
  rw [if_neg (fun e => h e.1)]
structure RowsOK (H : Hp) (R : Addr) (rs : List Addr) (n : Nat) (a : Nat → Nat → Int) : Prop where
  r : H R = some (.lst (rs.map V.ref))
  row : ∀ x (hx : x < rs.length), H rs[x] = some (.lst (cellV n a x))
theorem RowsOK.put {H : Hp} {R : Addr} {rs : List Addr} {n : Nat} {a : Nat → Nat → Int} {x y : Nat} {v : Int} (h : RowsOK H R rs n a) (nd : rs.Nodup) (nR : R ∉ rs) (hx : x < rs.length) (hy : y < n) : RowsOK (upd H rs[x] (.lst ((cellV n a x).set y (V.str ⟨#[sg v]⟩)))) R rs n (putA a x y v) := by
  refine ⟨?_, fun z hz => ?_⟩
  · rw [upd_ne (fun e => nR (by rw [e]; exact List.getElem_mem hx))]
    exact h.r
  · by_cases e : z = x
    · subst e
      rw [upd_same, cell_put hy]
    · rw [upd_ne (fun q => e (nd_inj nd hz hx q)), cell_other e]
      exact h.row z hz
theorem RowsOK.kept {H H' : Hp} {R d u : Addr} {rs : List Addr} {n : Nat} {a : Nat → Nat → Int} (h : RowsOK H R rs n a) (k : Kept d u H H') (Rd : R ≠ d) (Ru : R ≠ u) (rd : ∀ p ∈ rs, p ≠ d) (ru : ∀ p ∈ rs, p ≠ u) : RowsOK H' R rs n a :=
  ⟨k _ _ h.r Rd Ru, fun x hx => k _ _ (h.row x hx) (rd _ (List.getElem_mem hx)) (ru _ (List.getElem_mem hx))⟩
theorem RowsOK.same {H H' : Hp} {R : Addr} {rs : List Addr} {n : Nat} {a : Nat → Nat → Int} (h : RowsOK H R rs n a) (k : Same H H') : RowsOK H' R rs n a := ⟨k _ _ h.r, fun x hx => k _ _ (h.row x hx)⟩
theorem rep_dots (n : Nat) : (List.replicate n [V.str "."]).flatten = cellV n (fun _ _ => 0) 0 := by
  unfold cellV
  induction n with
  | zero => rfl
  | succ n ih =>
    rw [List.replicate_succ', List.flatten_append, ih, List.range_succ, List.map_append]
    rfl
/-! ### the pairs that are decided -/
structure Part (n : Nat) (N : List Nat) (a : Nat → Nat → Int) (i k : Nat) : Prop where
  sk : ∀ x y, a x y = - a y x
  dn : ∀ p q, p < q → q < n → (p < i ∨ (p = i ∧ q < i + 1 + k)) → a (N.getD p 0) (N.getD q 0) = 1 ∨ a (N.getD p 0) (N.getD q 0) = -1
theorem Part.zero (n : Nat) (N : List Nat) : Part n N (fun _ _ => 0) 0 0 := ⟨fun _ _ => rfl, fun p q h _ h2 => by omega⟩
theorem Part.step {n : Nat} {N : List Nat} {a : Nat → Nat → Int} {i k : Nat} {v : Int} (P : Part n N a i k) (nd : N.Nodup) (hN : N.length = n) (hk : i + 1 + k < n) (hv : v = 1 ∨ v = -1) :
    Part n N (putA (putA a (N.getD i 0) (N.getD (i + 1 + k) 0) v) (N.getD (i + 1 + k) 0) (N.getD i 0) (-v)) i (k + 1) := by
  have inj : ∀ p q, p < n → q < n → N.getD p 0 = N.getD q 0 → p = q := fun p q hp hq e => by
    rw [getD_get (by omega), getD_get (by omega)] at e
    exact nd_inj nd _ _ e
  have ne : N.getD i 0 ≠ N.getD (i + 1 + k) 0 := fun e => by
    have := inj i (i + 1 + k) (by omega) hk e
    omega
  refine ⟨fun x y => ?_, fun p q hpq hq h => ?_⟩
  · have := P.sk x y
    unfold putA
    by_cases h1 : x = N.getD i 0 ∧ y = N.getD (i + 1 + k) 0
    · obtain ⟨rfl, rfl⟩ := h1
      rw [if_neg (fun z => ne z.1), if_pos ⟨rfl, rfl⟩, if_pos ⟨rfl, rfl⟩]
      omega
    · by_cases h2 : x = N.getD (i + 1 + k) 0 ∧ y = N.getD i 0
      · obtain ⟨rfl, rfl⟩ := h2
        rw [if_pos ⟨rfl, rfl⟩, if_neg (fun z => ne z.1), if_pos ⟨rfl, rfl⟩]
      · rw [if_neg h2, if_neg h1, if_neg (fun z => h1 ⟨z.2, z.1⟩), if_neg (fun z => h2 ⟨z.2, z.1⟩)]
        exact this
  · unfold putA
    by_cases h2 : N.getD p 0 = N.getD (i + 1 + k) 0 ∧ N.getD q 0 = N.getD i 0
    · rw [if_pos h2]; omega
    · rw [if_neg h2]
      by_cases h1 : N.getD p 0 = N.getD i 0 ∧ N.getD q 0 = N.getD (i + 1 + k) 0
      · rw [if_pos h1]; omega
      · rw [if_neg h1]
        refine P.dn p q hpq hq ?_
        rcases h with h | ⟨h, h'⟩
        · exact .inl h
        · refine .inr ⟨h, ?_⟩
          rcases Nat.lt_or_ge q (i + 1 + k) with z | z
          · exact z
          · have : q = i + 1 + k := by omega
            exact absurd ⟨by rw [h], by rw [this]⟩ h1
theorem Part.next {n : Nat} {N : List Nat} {a : Nat → Nat → Int} {i k : Nat} (P : Part n N a i k) (hk : n ≤ i + 1 + k) : Part n N a (i + 1) 0 :=
  ⟨P.sk, fun p q h1 h2 h3 => P.dn p q h1 h2 (by omega)⟩
theorem Part.tab {n : Nat} {N : List Nat} {a : Nat → Nat → Int} (P : Part n N a n 0) (pm : N.Perm (List.range n)) : Tab n a := by
  have hN : N.length = n := by rw [pm.length_eq, List.length_range]
  refine ⟨fun i _ => by have := P.sk i i; omega, fun i j _ _ => P.sk i j, fun i j hi hj ne => ?_⟩
  have mi : i ∈ N := pm.mem_iff.mpr (List.mem_range.mpr hi)
  have mj : j ∈ N := pm.mem_iff.mpr (List.mem_range.mpr hj)
  obtain ⟨p, hp, rfl⟩ := List.mem_iff_getElem.mp mi
  obtain ⟨q, hq, rfl⟩ := List.mem_iff_getElem.mp mj
  rcases Nat.lt_trichotomy p q with h | h | h
  · have := P.dn p q h (by omega) (.inl (by omega))
    rw [getD_get hp, getD_get hq] at this
    exact this
  · subst h; exact absurd rfl ne
  · have := P.dn q p h (by omega) (.inl (by omega))
    rw [getD_get hp, getD_get hq] at this
    have := P.sk N[p] N[q]
    omega
section
variable {P : Program} {w : World} {K : PySem.W.Frag} {mg : Str → Option Value} {base : Heap}
def spTable (K : PySem.W.Frag) : Sp := fun vs H Q _ => ∃ (d c u : Addr) (B : Nat), vs = [.ref d, .int 9] ∧ Deck H d c u B ∧ B ≤ 9000 ∧
  ∀ H' t n a, Kept d u H H' → Deck H' d c u (B + 300) → H' t = some (.tup (tabV n a)) → 1 ≤ n → n ≤ 9 → Tab n a → Q (.ref t) H'
theorem sc_table : FnScope ["_law_deck_here", "_law_most", "_law_many", "_law_way", "_law_order", "_law_rows", "_law_k", "_law_i", "_law_j", "_law_wins", "_law_row"] ["_law_deck_here", "_law_most"] (defScope s_l_table) := ⟨rfl, rfl, rfl, by decide +kernel, rfl, by decide +kernel, by decide +kernel⟩
theorem rg_nV (n : Nat) : rgV 0 ((n : Nat) : Int) = nV (List.range n) := by
  unfold rgV nV
  rw [show (((n : Nat) : Int) - 0).toNat = n by omega]
  refine List.map_congr_left fun i _ => ?_
  rw [show (0 : Int) + (i : Nat) = ((i : Nat) : Int) by omega]
theorem ok_table (T : Txt K mg w) : Has P w K mg base 3 "_law_table" ["_law_deck_here", "_law_most"] (spTable K) := by
  refine T.d_l_table.has sc_table (fun vs H Q E h => ?_) (fun f cdv A outer s H vs Q E hr h => ?_)
  · obtain ⟨d, c, u, B, rfl, _⟩ := h
    rfl
  · obtain ⟨d, c, u, B, rfl, D, hB, q⟩ := h
    refine ⟨_, pss_cons (ps_asg (pe_tup (pa_cons (pe_op op_add pe_int (pe_callH (ok_draw T) (hr.mono (by decide)) (by rfl) (pa_cons (pv 0) (pa_cons (pv 1) pa_nil)))) (pa_cons (pe_callH (ok_draw T) (hr.mono (by decide)) (by rfl) (pa_cons (pv 0) (pa_cons pe_int pa_nil))) pa_nil)))
        (pg_tup rfl (pgs_cons (pg_name (i := 2) sc_table.nd rfl (.inr rfl)) (pgs_cons (pg_name (i := 3) sc_table.nd rfl (.inl rfl)) pgs_nil))))
      (pss_cons (ps_par (i := 4) (j := 5) rfl sc_table.nd rfl rfl (by decide) rfl rfl (pa_cons (pe_callH (ok_mixed T) hr (by rfl) (pa_cons (pv 0) (pa_cons (pe_listRg rfl (by rfl) T.b_list (prg_1 (by rfl) T.b_range (pv 2))) pa_nil)))
          (pa_cons (pe_lc (own := [("_law_k", 6)]) (g := gName 6) (tt := tYes) rfl sc_table.nd (pi_range1 rfl T.b_range (pa_cons (pv 2) pa_nil)) (blkOk_by (N := ["_law_deck_here", "_law_most", "_law_many", "_law_way", "_law_order", "_law_rows", "_law_k", "_law_i", "_law_j", "_law_wins", "_law_row"]) (sc := defScope s_l_table) (by decide +kernel))
            (fun _ _ _ _ _ => pg_name (i := 6) sc_table.nd rfl (.inl rfl)) (fun _ _ _ _ _ => pts_nil)
            (fun _ _ _ _ _ => pe_op op_rep (pe_lst (pa_cons pe_str pa_nil)) (pv 2))) pa_nil)) rfl)
      (pss_cons (ps_for PassesOwn.never rfl (pi_range1 rfl T.b_range (pa_cons (pv 2) pa_nil)) (pg_name (i := 7) sc_table.nd rfl (.inl rfl))
        (pss_one (ps_for PassesOwn.never rfl (pi_range2 rfl T.b_range (pa_cons (pe_op op_add (pv 7) pe_int) (pa_cons (pv 2) pa_nil))) (pg_name (i := 8) sc_table.nd rfl (.inl rfl))
          (pss_cons (ps_set (i := 9) sc_table.nd rfl (.inl rfl) (pe_ix ix_list (pe_lst (pa_cons (pe_cmpR op_le (pe_op op_sub (pv 8) (pv 7)) (pe_op op_fdiv (pv 2) pe_int) (nomark _))
              (pa_cons (pe_or (pe_cmpR op_eq (pe_op op_sub (pe_op op_fdiv (pv 8) pe_int) (pe_op op_fdiv (pv 7) pe_int)) pe_int (nomark _))
                (pe_one (pe_and (pe_cmpR op_eq (pe_op op_sub (pv 8) (pv 7)) pe_int (nomark _)) (pe_one (pe_cmpR op_eq (pe_op op_fdiv (pv 8) pe_int) (pe_op op_fdiv (pv 7) pe_int) (nomark _)))))) pa_nil))) (pe_op op_mod (pv 3) pe_int) (fun _ _ => rfl)))
          (pss_cons (ps_if (pt_cmpR op_eq (pv 3) pe_int (nomark _)) (pss_one (ps_set (i := 9) sc_table.nd rfl (.inl rfl) (pe_cmpR op_eq (pe_callH (ok_draw T) (hr.mono (by decide)) (by rfl) (pa_cons (pv 0) (pa_cons pe_int pa_nil))) pe_int (nomark _)))) pss_nil)
          (pss_cons (ps_if (pt_cmpR op_eq (pv 3) pe_int (nomark _)) (pss_one (ps_set (i := 9) sc_table.nd rfl (.inl rfl) (pe_cmpR op_gt (pe_callH (ok_draw T) (hr.mono (by decide)) (by rfl) (pa_cons (pv 0) (pa_cons pe_int pa_nil))) pe_int (nomark _)))) pss_nil)
          (pss_cons (ps_asg (pe_ix ix_list (pe_lst (pa_cons pe_str (pa_cons pe_str pa_nil))) (pe_callTy call_int1 (by rfl) T.b_int (by decide +kernel) (pa_cons (pv 9) pa_nil)) (fun _ _ => rfl))
              (pg_sub (pe_ix ix_list (pv 5) (pe_ix ix_list (pv 4) (pv 7) (fun _ _ => rfl)) (fun _ _ => rfl)) (pe_ix ix_list (pv 4) (pv 8) (fun _ _ => rfl)) set_list))
          (pss_one (ps_asg (pe_ix ix_list (pe_lst (pa_cons pe_str (pa_cons pe_str pa_nil))) (pe_callTy call_int1 (by rfl) T.b_int (by decide +kernel) (pa_cons (pv 9) pa_nil)) (fun _ _ => rfl))
              (pg_sub (pe_ix ix_list (pv 5) (pe_ix ix_list (pv 4) (pv 8) (fun _ _ => rfl)) (fun _ _ => rfl)) (pe_ix ix_list (pv 4) (pv 7) (fun _ _ => rfl)) set_list)))))))
      )))
      (pss_one (ps_ret (pe_callTy call_tuple_of (by rfl) T.b_tuple (by decide +kernel) (pa_cons
        (pe_lc (own := [("_law_row", 10)]) (g := gName 10) (tt := tYes) (te := tM1 (rJoin K) (tC (.str "")) (tVar 10)) rfl sc_table.nd (pi_list (pv 5)) (blkOk_by (N := ["_law_deck_here", "_law_most", "_law_many", "_law_way", "_law_order", "_law_rows", "_law_k", "_law_i", "_law_j", "_law_wins", "_law_row"]) (sc := defScope s_l_table) (by decide +kernel))
          (fun _ _ _ _ _ => pg_name (i := 10) sc_table.nd rfl (.inl rfl)) (fun _ _ _ _ _ => pts_nil)
          (fun _ _ _ _ _ => pe_join pe_str (pv 10))) pa_nil)))))), ?_⟩
    have sz : ∀ k, k ≤ 1000 → k ≤ sizeLine := fun k hk => Nat.le_of_lt (small1000 hk)
    refine ⟨.ref d, rfl, .int 9, rfl, d, c, u, B, 9, rfl, D, by omega, by omega, by omega, fun H1 r1 hr1 k1 D1 => ?_⟩
    refine ⟨1, (r1 : Nat), rfl, rfl, .ref d, rfl, d, c, u, B + 1, 4, rfl, D1, by omega, by omega, by omega, fun H2 way hw k2 D2 => ?_⟩
    obtain ⟨n, hn⟩ : ∃ n, r1 + 1 = n := ⟨_, rfl⟩
    refine ⟨sz 2 (by decide), fun p np => ?_⟩
    refine ⟨p, _, rfl, .inl (.inl upd_same), rfl, _, _, rfl, _, _, rfl, rfl, ?_⟩
    apply viaC (fun σ H' => σ = [some (.ref d), some (.int 9), some (.int (n : Nat)), some (.int (way : Nat)), none, none, none, none, none, none, none] ∧ Kept d u H H' ∧ Deck H' d c u (B + 2))
    · intro mid
      refine mid _ _ ⟨?_, (k1.trans k2).trans (Kept.of (same_upd np)), D2.same (same_upd np)⟩
      show [some (V.ref d), some (V.int 9), some (V.int (1 + (r1 : Nat))), some (V.int (way : Nat)), none, none, none, none, none, none, none] = _
      rw [show (1 : Int) + (r1 : Nat) = ((n : Nat) : Int) by omega]
    rintro σ H3 ⟨rfl, k3, D3⟩
    have n1 : 1 ≤ n := by omega
    have n9 : n ≤ 9 := by omega
    refine ⟨.ref d, rfl, .int (n : Nat), rfl, (n : Nat), rfl, ⟨by omega, by omega, by omega, by omega, by omega⟩, fun l nl => ?_⟩
    have s3 := same_upd (o := .lst (rgV 0 ((n : Nat) : Int))) nl
    have lrn : (List.range n).length = n := List.length_range
    refine ⟨d, c, u, l, B + 2, List.range n, rfl, D3.same s3, by omega, SqL.of (by rw [upd_same, rg_nV]), by omega, fun H4 o N k4 D4 eo pm no => ?_⟩
    have hN : N.length = n := by rw [pm.length_eq, lrn]
    have nd : N.Nodup := pm.nodup_iff.mpr List.nodup_range
    have hNlt : ∀ i, i < n → N.getD i 0 < n := fun i hi => by
      rw [getD_get (by omega)]
      exact List.mem_range.mp (pm.mem_iff.mp (List.getElem_mem _))
    have k34 : Kept d u H H4 := (k3.trans (Kept.of s3)).trans k4
    refine ⟨.int (n : Nat), rfl, (n : Nat), rfl, by omega, by omega, fun R nR => ?_⟩
    refine lc_it (tt := tYes) (walk_range (lo := 0) (n := ((n : Nat) : Int).toNat)) (fun i H' => Same H4 H' ∧ ∃ us : List Addr, H' R = some (.lst (us.map V.ref)) ∧ us.length = i ∧ us.Nodup ∧ ∀ p ∈ us, H' p = some (.lst (cellV n (fun _ _ => 0) 0)) ∧ H4 p = none ∧ p ≠ R)
      ⟨same_upd nR, [], upd_same, rfl, List.nodup_nil, fun p hp => by simp at hp⟩ (fun _ _ _ _ => trivial) (fun i x H5 H6 hi pv y => ?_) fun H5 pv => ?_
    · obtain ⟨s5, us, eR, lu, nu, hu⟩ := pv
      obtain ⟨rfl, rfl⟩ := y
      refine ⟨rfl, sz 1 (by decide), fun e ne => ?_⟩
      have s6 := same_upd (o := .lst [V.str "."]) ne
      refine ⟨.int (n : Nat), rfl, e, (n : Nat), [V.str "."], rfl, rfl, upd_same, by omega, by omega, sz _ (by show 1 * _ ≤ _; omega), fun p np => ?_⟩
      have s7 := same_upd (o := .lst (List.replicate ((n : Nat) : Int).toNat [V.str "."]).flatten) np
      have ec : (List.replicate ((n : Nat) : Int).toNat [V.str "."]).flatten = cellV n (fun _ _ => 0) 0 := by
        rw [show ((n : Nat) : Int).toNat = n by omega]
        exact rep_dots n
      have s67 := s6.trans s7
      have npH4 : H4 p = none := (s5.trans s6).free np
      have npR : p ≠ R := fun z => by rw [z, s6 _ _ eR] at np; cases np
      refine ⟨us.map V.ref, s67 _ _ eR, by rw [List.length_map, lu]; exact small1000 (by omega), fun b o' hb => ?_, us ++ [p], by rw [upd_same, List.map_append]; rfl, by rw [List.length_append, lu]; rfl, ?_, fun x hx => ?_⟩
      · rw [upd_ne (ne_of_none hb nR)]
        exact s67 _ _ (s5 _ _ hb)
      · rw [List.nodup_append]
        refine ⟨nu, by simp, fun x hx y hy => ?_⟩
        rw [List.mem_singleton] at hy
        subst hy
        intro e
        subst e
        have := s6 _ _ (hu _ hx).1
        rw [np] at this; cases this
      · rcases List.mem_append.mp hx with h | h
        · obtain ⟨h1, h2, h3⟩ := hu x h
          refine ⟨?_, h2, h3⟩
          rw [upd_ne h3]
          exact s67 _ _ h1
        · rw [List.mem_singleton] at h
          subst h
          refine ⟨?_, npH4, npR⟩
          rw [upd_ne npR, upd_same, ec]
    obtain ⟨s5, us, eR, lu0, nu, hus⟩ := pv
    have lu : us.length = n := by omega
    obtain ⟨xd, hd4⟩ := D4.d
    obtain ⟨xc, hc4⟩ := D4.c
    obtain ⟨xu, hu4⟩ := D4.u
    have od : o ≠ d := fun z => by
      obtain ⟨_, h⟩ := (D3.same s3).d
      rw [← z, no] at h; cases h
    have ou : o ≠ u := fun z => by
      obtain ⟨_, h⟩ := (D3.same s3).u
      rw [← z, no] at h; cases h
    have Rd : R ≠ d := (ne_of_none hd4 nR).symm
    have Rc : R ≠ c := (ne_of_none hc4 nR).symm
    have Ru : R ≠ u := (ne_of_none hu4 nR).symm
    have usd : ∀ p ∈ us, p ≠ d := fun p hp => (ne_of_none hd4 (hus p hp).2.1).symm
    have usc : ∀ p ∈ us, p ≠ c := fun p hp => (ne_of_none hc4 (hus p hp).2.1).symm
    have usu : ∀ p ∈ us, p ≠ u := fun p hp => (ne_of_none hu4 (hus p hp).2.1).symm
    have uso : ∀ p ∈ us, p ≠ o := fun p hp => (ne_of_none eo (hus p hp).2.1).symm
    have usR : R ∉ us := fun h => (hus R h).2.2 rfl
    have usH : ∀ p ∈ us, H p = none := fun p hp => k34.none D (hus p hp).2.1 D4
    have rows0 : RowsOK H5 R us n (fun _ _ => 0) := ⟨eR, fun x hx => (hus _ (List.getElem_mem hx)).1⟩
    refine ⟨_, _, rfl, ?_⟩
    refine ⟨.int (n : Nat), rfl, (n : Nat), rfl, by omega, by omega, ?_⟩
    rw [show ((n : Nat) : Int).toNat = n by omega]
    refine for_range (lo := 0) (n := n) (fun i σ H' => ∃ y7 y8 y9 a, σ = [some (.ref d), some (.int 9), some (.int (n : Nat)), some (.int (way : Nat)), some (.ref o), some (.ref R), none, y7, y8, y9, none] ∧ Kept d u H H' ∧ Deck H' d c u (B + 100 + 20 * i) ∧ H' o = some (.lst (nV N)) ∧ RowsOK H' R us n a ∧ Part n N a i 0)
      ⟨none, none, none, _, rfl, k34.trans (Kept.of s5), (D4.same s5).mono (by omega), s5 _ _ eo, rows0, Part.zero n N⟩ ?_ ?_
    · rintro i σ H' hi ⟨y7, y8, y9, a, rfl, kp, D', eo', rows, part⟩
      rw [show (0 : Int) + (i : Nat) = ((i : Nat) : Int) by omega]
      refine ⟨.int (i : Nat), rfl, _, 1, rfl, rfl, .int (n : Nat), rfl, ((i + 1 : Nat) : Int), (n : Nat), congrArg (fun z => [V.int z, V.int (n : Nat)]) (by omega), ⟨by omega, by omega, by omega, by omega⟩, ?_⟩
      rw [show (((n : Nat) : Int) - ((i + 1 : Nat) : Int)).toNat = n - (i + 1) by omega]
      refine for_range (lo := ((i + 1 : Nat) : Int)) (n := n - (i + 1)) (fun k σ H' => ∃ y8 y9 a, σ = [some (.ref d), some (.int 9), some (.int (n : Nat)), some (.int (way : Nat)), some (.ref o), some (.ref R), none, some (.int (i : Nat)), y8, y9, none] ∧ Kept d u H H' ∧ Deck H' d c u (B + 100 + 20 * i + 2 * k) ∧ H' o = some (.lst (nV N)) ∧ RowsOK H' R us n a ∧ Part n N a i k)
        ⟨y8, y9, a, rfl, kp, D', eo', rows, part⟩ ?_ ?_
      · clear y8 y9 a kp D' eo' rows part H'
        rintro k σ H' hk ⟨y8, y9, a, rfl, kp, D', eo', rows, part⟩
        rw [show ((i + 1 : Nat) : Int) + (k : Nat) = ((i + 1 + k : Nat) : Int) by omega]
        obtain ⟨j, hj⟩ : ∃ j, i + 1 + k = j := ⟨_, rfl⟩
        rw [hj]
        have hjn : j < n := by omega
        refine ⟨.int (j : Nat), rfl, .int (i : Nat), rfl, _, _, rfl, rfl, .int (n : Nat), rfl, _, 2, rfl, rfl, ⟨by decide, by decide⟩, _, _, rfl, rfl, ?_⟩
        refine anyOr (fun Q hq => ⟨.int (j : Nat), rfl, _, 3, rfl, rfl, ⟨by decide, by decide⟩, .int (i : Nat), rfl, _, 3, rfl, rfl, ⟨by decide, by decide⟩, _, _, rfl, rfl, rfl, hq _⟩)
          (anyAnd (fun Q hq => ⟨.int (j : Nat), rfl, .int (i : Nat), rfl, _, _, rfl, rfl, rfl, hq _⟩) (fun Q hq => ⟨.int (j : Nat), rfl, _, 3, rfl, rfl, ⟨by decide, by decide⟩, .int (i : Nat), rfl, _, 3, rfl, rfl, ⟨by decide, by decide⟩, rfl, hq _⟩)) _ (fun b1 => ?_)
        refine ⟨sz 2 (by decide), fun L nL => ?_⟩
        obtain ⟨b0, hb0⟩ : ∃ b0 : Bool, decide (((j : Nat) : Int) - ((i : Nat) : Int) ≤ ((n : Nat) : Int) / 2) = b0 := ⟨_, rfl⟩
        refine ⟨.int (way : Nat), rfl, _, 2, rfl, rfl, (show (0 : Int) < 2 by decide), L, [.bl b0, .bl b1], ((way % 2 : Nat) : Int), .bl (if way % 2 = 0 then b0 else b1), rfl, congrArg V.int (by omega), SqL.of (by rw [upd_same, ← hb0]), atI_nat (j := way % 2) ?_, ?_⟩
        · rcases (show way % 2 = 0 ∨ way % 2 = 1 by omega) with h | h <;> rw [h] <;> rfl
        have sL := same_upd (o := .lst [V.bl (decide (((j : Nat) : Int) - ((i : Nat) : Int) ≤ ((n : Nat) : Int) / 2)), V.bl b1]) nL
        apply viaC (fun σ H2 => ∃ b, σ = [some (.ref d), some (.int 9), some (.int (n : Nat)), some (.int (way : Nat)), some (.ref o), some (.ref R), none, some (.int (i : Nat)), some (.int (j : Nat)), some (.bl b), none] ∧ Kept d u H H2 ∧ Deck H2 d c u (B + 100 + 20 * i + 2 * k + 1) ∧ H2 o = some (.lst (nV N)) ∧ RowsOK H2 R us n a)
        · intro mid
          refine ⟨.int (way : Nat), rfl, rfl, _, rfl, ite2 (fun _ => ?_) (fun _ => ?_)⟩
          · refine ⟨.ref d, rfl, d, c, u, _, 2, rfl, D'.same sL, by omega, by omega, by omega, fun H2 r hr2 kr Dr => ⟨rfl, mid _ _ ⟨_, rfl, (kp.trans (Kept.of sL)).trans kr, Dr, kr _ _ (sL _ _ eo') od ou, (rows.same sL).kept kr Rd Ru usd usu⟩⟩⟩
          · exact mid _ _ ⟨_, rfl, kp.trans (Kept.of sL), (D'.same sL).mono (by omega), sL _ _ eo', rows.same sL⟩
        clear kp D' eo' rows nL sL
        rintro σ H2 ⟨b2, rfl, kp, D', eo', rows⟩
        apply viaC (fun σ H3 => ∃ b, σ = [some (.ref d), some (.int 9), some (.int (n : Nat)), some (.int (way : Nat)), some (.ref o), some (.ref R), none, some (.int (i : Nat)), some (.int (j : Nat)), some (.bl b), none] ∧ Kept d u H H3 ∧ Deck H3 d c u (B + 100 + 20 * i + 2 * k + 2) ∧ H3 o = some (.lst (nV N)) ∧ RowsOK H3 R us n a)
        · intro mid
          refine ⟨.int (way : Nat), rfl, rfl, _, rfl, ite2 (fun _ => ?_) (fun _ => ?_)⟩
          · refine ⟨.ref d, rfl, d, c, u, _, 8, rfl, D', by omega, by omega, by omega, fun H2 r hr2 kr Dr => ⟨_, _, rfl, rfl, mid _ _ ⟨_, rfl, kp.trans kr, Dr, kr _ _ eo' od ou, rows.kept kr Rd Ru usd usu⟩⟩⟩
          · exact mid _ _ ⟨_, rfl, kp, D'.mono (by omega), eo', rows⟩
        clear kp D' eo' rows H2
        rintro σ H2 ⟨b, rfl, kp, D', eo', rows⟩
        obtain ⟨v, hv, hv1, hv2⟩ : ∃ v : Int, (v = 1 ∨ v = -1) ∧ atI [V.str "-", V.str "+"] (if b then 1 else 0) = some (V.str ⟨#[sg v]⟩) ∧ atI [V.str "+", V.str "-"] (if b then 1 else 0) = some (V.str ⟨#[sg (-v)]⟩) := by
          cases b with
          | true => exact ⟨1, .inl rfl, rfl, rfl⟩
          | false => exact ⟨-1, .inr rfl, rfl, rfl⟩
        have hX : N.getD i 0 < us.length := by rw [lu]; exact hNlt i hi
        have hY : N.getD j 0 < us.length := by rw [lu]; exact hNlt j hjn
        have gX : (us.map V.ref)[N.getD i 0]? = some (.ref us[N.getD i 0]) := by rw [List.getElem?_map, List.getElem?_eq_getElem hX]; rfl
        have gY : (us.map V.ref)[N.getD j 0]? = some (.ref us[N.getD j 0]) := by rw [List.getElem?_map, List.getElem?_eq_getElem hY]; rfl
        refine ⟨sz 2 (by decide), fun p1 np1 => ?_⟩
        have t1 := same_upd (o := .lst [V.str "-", V.str "+"]) np1
        have rows1 := rows.same t1
        refine ⟨.bl b, rfl, .inr ⟨b, rfl, p1, _, _, _, rfl, rfl, SqL.of upd_same, hv1, ?_⟩⟩
        refine ⟨.ref R, rfl, .ref o, rfl, .int (i : Nat), rfl, o, nV N, _, _, rfl, rfl, SqL.of (t1 _ _ eo'), atI_nat (nV_get (by omega)), R, _, _, _, rfl, rfl, SqL.of rows1.r, atI_nat gX, .ref o, rfl, .int (j : Nat), rfl, o, nV N, _, _, rfl, rfl, SqL.of (t1 _ _ eo'), atI_nat (nV_get (by omega)), us[N.getD i 0], cellV n a (N.getD i 0), _, N.getD j 0, rfl, rfl, rows1.row _ hX, ixN_nat (by rw [cell_len]; exact hNlt j hjn), ?_⟩
        have rows2 := rows1.put (v := v) nu usR hX (hNlt j hjn)
        have mX := List.getElem_mem (h := hX)
        have mY := List.getElem_mem (h := hY)
        have D2 := ((D'.same t1).upd (o := .lst ((cellV n a (N.getD i 0)).set (N.getD j 0) (V.str ⟨#[sg v]⟩))) (usd _ mX) (usc _ mX) (usu _ mX))
        have eo2 : upd (upd H2 p1 (.lst [V.str "-", V.str "+"])) us[N.getD i 0] (.lst ((cellV n a (N.getD i 0)).set (N.getD j 0) (V.str ⟨#[sg v]⟩))) o = some (.lst (nV N)) := by
          rw [upd_ne (uso _ mX).symm]; exact t1 _ _ eo'
        refine ⟨sz 2 (by decide), fun p2 np2 => ?_⟩
        have t2 := same_upd (o := .lst [V.str "+", V.str "-"]) np2
        have rows3 := rows2.same t2
        refine ⟨.bl b, rfl, .inr ⟨b, rfl, p2, _, _, _, rfl, rfl, SqL.of upd_same, hv2, ?_⟩⟩
        refine ⟨.ref R, rfl, .ref o, rfl, .int (j : Nat), rfl, o, nV N, _, _, rfl, rfl, SqL.of (t2 _ _ eo2), atI_nat (nV_get (by omega)), R, _, _, _, rfl, rfl, SqL.of rows3.r, atI_nat gY, .ref o, rfl, .int (i : Nat), rfl, o, nV N, _, _, rfl, rfl, SqL.of (t2 _ _ eo2), atI_nat (nV_get (by omega)), us[N.getD j 0], _, _, N.getD i 0, rfl, rfl, rows3.row _ hY, ixN_nat (by rw [cell_len]; exact hNlt i hi), ?_⟩
        have rows4 := rows3.put (v := -v) nu usR hY (hNlt i hi)
        have D4' := ((D2.same t2).upd (o := .lst ((cellV n (putA a (N.getD i 0) (N.getD j 0) v) (N.getD j 0)).set (N.getD i 0) (V.str ⟨#[sg (-v)]⟩))) (usd _ mY) (usc _ mY) (usu _ mY))
        refine ⟨_, _, _, rfl, fun x o' hx hxd hxu => ?_, D4', ?_, rows4, ?_⟩
        · rw [upd_ne (ne_of_none hx (usH _ mY))]
          refine t2 _ _ ?_
          rw [upd_ne (ne_of_none hx (usH _ mX))]
          exact t1 _ _ (kp _ _ hx hxd hxu)
        · rw [upd_ne (uso _ mY).symm]
          exact t2 _ _ eo2
        · have := part.step (v := v) nd hN (by omega) hv
          rw [hj] at this
          exact this
      · rintro σ H' ⟨y8, y9, a, rfl, kp, D', eo', rows, part⟩
        exact ⟨_, _, _, a, rfl, kp, D'.mono (by omega), eo', rows, part.next (by omega)⟩
    · rintro σ H' ⟨y7, y8, y9, a, rfl, kp, D', eo', rows, part⟩
      refine ⟨.ref R, rfl, R, rfl, ⟨_, SqL.of rows.r⟩, fun G nG => ?_⟩
      refine lc_map (walk_list (xs := us.map V.ref)) (fun x => V.str (rowS n a x)) (by rw [List.length_map]; exact sz _ (by omega)) nG (fun H2 s => SqL.of (s _ _ rows.r)) (fun x y H2 H3 C hx s2 _ hy hC => ?_) fun H2 s2 eG => ?_
      · obtain ⟨rfl, hy⟩ := hy
        rw [List.length_map] at hx
        rw [List.getElem?_map, List.getElem?_eq_getElem hx] at hy
        cases hy
        refine ⟨rfl, ⟨"", rfl⟩, .ref us[x], rfl, "", us[x], (List.range n).map (fun y => ⟨#[sg (a x y)]⟩), rfl, rfl, .inl (SqL.of ?_), ?_, ?_⟩
        · rw [s2 _ _ (rows.row x hx), List.map_map]; rfl
        · rw [ones_sum, List.length_range, List.length_map, List.length_range]
          show n + n * 0 ≤ _
          omega
        · rw [join_ones]
          exact hC _ (Same.refl _)
      · refine ⟨G, _, rfl, .inl ⟨SqL.of eG, fun t nt => q _ t n a (kp.trans (Kept.of (s2.trans (same_upd nt)))) ((D'.same (s2.trans (same_upd nt))).mono (by omega)) ?_ n1 n9 (part.tab pm)⟩⟩
        rw [upd_same, List.length_map, lu]
        rfl
end
end Du
end
section
namespace Du
open PySem PySem.Spec PyProof.Rows L2 Duel
theorem walk_rg (n : Nat) : Walk (Itr 0 n) n (fun _ => True) (YFn fun i => .int ((i : Nat) : Int)) := walk_range.mono (fun _ h => h) (fun i H x H' _ _ y => ⟨y.1, y.2.trans (congrArg V.int (by omega))⟩)
theorem log_small {i : Int} (h : i.natAbs ≤ 6561) : i.natAbs.log2 < 1920 := by
  by_cases h0 : i.natAbs = 0
  · rw [h0]; decide
  · refine (Nat.log2_lt h0).mpr (Nat.lt_of_le_of_lt h ?_)
    have h1 : (2 : Nat) ^ 13 ≤ 2 ^ 1920 := Nat.pow_le_pow_right (by decide) (by decide)
    have h2 : (2 : Nat) ^ 13 = 8192 := by decide
    omega
section
variable {P : Program} {w : World} {K : PySem.W.Frag} {mg : Str → Option Value} {base : Heap}
theorem any_i : PySem.W.kitAny K (.type "int") [.type "tuple", .type "list"] = some false :=
  kitAny_cons (b := false) (kit_ty (by decide +kernel)) (fun _ => kitAny_cons (b := false) (kit_ty (by decide +kernel)) (fun _ => kitAny_nil) (fun z => by cases z)) (fun z => by cases z)
theorem any_t : PySem.W.kitAny K (.type "tuple") [.type "tuple", .type "list"] = some true :=
  kitAny_cons (b := true) (kit_ty (by decide +kernel)) (fun z => by cases z) (fun _ => rfl)
theorem isi_tl : PySem.W.kitOne K (.type "tuple") (.type "list") = some false := kit_ty (by decide +kernel)
theorem isi_tt2 : PySem.W.kitOne K (.type "tuple") (.type "tuple") = some true := kit_ty (by decide +kernel)
/-- two ints that are the same -/
def spSameI (K : PySem.W.Frag) : Sp := fun vs H Q _ => ∃ (i : Int), vs = [.int i, .int i] ∧ i.natAbs ≤ 6561 ∧ ∀ H', Same H H' → Q (.bl true) H'
theorem sc_same : FnScope ["_law_found", "_law_due", "_law_k"] ["_law_found", "_law_due"] (defScope s_l_same) := ⟨rfl, rfl, rfl, by decide +kernel, rfl, by decide +kernel, by decide +kernel⟩
theorem ok_sameI (T : Txt K mg w) : Has P w K mg base 1 "_law_same" ["_law_found", "_law_due"] (spSameI K) := by
  refine T.d_l_same.has sc_same (fun vs H Q E h => ?_) (fun f cdv A outer s H vs Q E hr h => ?_)
  · obtain ⟨i, rfl, _⟩ := h
    rfl
  · obtain ⟨i, rfl, hi, q⟩ := h
    refine ⟨_, pss_cons (ps_if (pt_val (pe_callB call_isiT (by rfl) T.b_isinstance (by decide +kernel) (pa_cons (pv 1) (pa_cons (pe_tup (pa_cons (pe_bltn (v := .ty "tuple") (by rfl) T.b_tuple (by decide +kernel) rfl) (pa_cons (pe_bltn (v := .ty "list") (by rfl) T.b_list (by decide +kernel) rfl) pa_nil))) pa_nil))))
        (pss_cons ps_never (pss_cons ps_never (pss_one ps_never))) pss_nil)
      (pss_one (ps_ret (pe_cmpR op_eq (pe_callB SkE.call_repr_int (by rfl) T.b_repr (by decide +kernel) (pa_cons (pv 0) pa_nil)) (pe_callB SkE.call_repr_int (by rfl) T.b_repr (by decide +kernel) (pa_cons (pv 1) pa_nil)) (nomark _)))), ?_⟩
    refine ⟨.int i, rfl, Nat.le_of_lt (small1000 (by show 2 ≤ 1000; decide)), fun p np => ?_⟩
    refine ⟨.int i, p, _, .type "int", _, false, rfl, upd_same, .cons (.ty _) (.cons (.ty _) .nil), .base (.int _), any_i, false, rfl, iteF ?_⟩
    refine ⟨.int i, rfl, i, rfl, log_small hi, .int i, rfl, i, rfl, log_small hi, rfl, ?_⟩
    rw [decide_eq_true rfl]
    exact q _ (same_upd np)
/-- two tuples of ints that are the same -/
def spSameT (K : PySem.W.Frag) : Sp := fun vs H Q _ => ∃ (f g : Addr) (ws : List Int), vs = [.ref f, .ref g] ∧ H f = some (.tup (ws.map V.int)) ∧ H g = some (.tup (ws.map V.int)) ∧ ws.length ≤ 10 ∧ (∀ x ∈ ws, x.natAbs ≤ 6561) ∧ ∀ H', Same H H' → Q (.bl true) H'
theorem ok_sameT (T : Txt K mg w) : Has P w K mg base 2 "_law_same" ["_law_found", "_law_due"] (spSameT K) := by
  refine T.d_l_same.has sc_same (fun vs H Q E h => ?_) (fun f cdv A outer s H vs Q E hr h => ?_)
  · obtain ⟨f, g, ws, rfl, _⟩ := h
    rfl
  · obtain ⟨fo, du, ws, rfl, hf, hg, hl, hb, q⟩ := h
    refine ⟨_, pss_cons (ps_if (pt_val (pe_callB call_isiT (by rfl) T.b_isinstance (by decide +kernel) (pa_cons (pv 1) (pa_cons (pe_tup (pa_cons (pe_bltn (v := .ty "tuple") (by rfl) T.b_tuple (by decide +kernel) rfl) (pa_cons (pe_bltn (v := .ty "list") (by rfl) T.b_list (by decide +kernel) rfl) pa_nil))) pa_nil))))
        (pss_cons (ps_if (PW.pt (pw_or (pt_cmpR op_ne (pe_callB call_isi (by rfl) T.b_isinstance (by decide +kernel) (pa_cons (pv 0) (pa_cons (pe_bltn (v := .ty "tuple") (by rfl) T.b_tuple (by decide +kernel) rfl) pa_nil)))
              (pe_callB call_isi (by rfl) T.b_isinstance (by decide +kernel) (pa_cons (pv 1) (pa_cons (pe_bltn (v := .ty "tuple") (by rfl) T.b_tuple (by decide +kernel) rfl) pa_nil))) (nomark _))
            (pw_or1 (pt_cmpR op_ne (pe_callB call_isi (by rfl) T.b_isinstance (by decide +kernel) (pa_cons (pv 0) (pa_cons (pe_bltn (v := .ty "list") (by rfl) T.b_list (by decide +kernel) rfl) pa_nil)))
              (pe_callB call_isi (by rfl) T.b_isinstance (by decide +kernel) (pa_cons (pv 1) (pa_cons (pe_bltn (v := .ty "list") (by rfl) T.b_list (by decide +kernel) rfl) pa_nil))) (nomark _)))))
            (pss_one ps_never) pss_nil)
        (pss_cons (ps_if (pt_cmpR op_ne (pe_callB call_len_seq (by rfl) T.b_len PySem.boot_len (pa_cons (pv 0) pa_nil)) (pe_callB call_len_seq (by rfl) T.b_len PySem.boot_len (pa_cons (pv 1) pa_nil)) (nomark _)) (pss_one ps_never) pss_nil)
        (pss_one (ps_ret (pe_cmpR (op_eqD hr.units) (pe_lc (own := [("_law_k", 2)]) (g := gName 2) (tt := tNot (tB (tCall (spSameI K) [] E0 (tCons (tOp (rIxT K) (tVar 0) (tVar 2)) (tCons (tOp (rIxT K) (tVar 1) (tVar 2)) tNil))))) rfl sc_same.nd (pi_range1 rfl T.b_range (pa_cons (pe_callB call_len_seq (by rfl) T.b_len PySem.boot_len (pa_cons (pv 1) pa_nil)) pa_nil))
            (blkOk_by (N := ["_law_found", "_law_due", "_law_k"]) (sc := defScope s_l_same) (by decide +kernel))
            (fun _ _ _ _ _ => pg_name (i := 2) sc_same.nd rfl (.inl rfl)) (fun _ _ _ _ _ => pts_one (pt_not (pt_val (pe_callH (ok_sameI T) hr (by rfl) (pa_cons (pe_ix ix_tup (pv 0) (pv 2) (fun _ _ => rfl)) (pa_cons (pe_ix ix_tup (pv 1) (pv 2) (fun _ _ => rfl)) pa_nil))))))
            (fun _ _ _ _ _ => pv 2)) (pe_lst pa_nil) (nomark _))))))
        pss_nil)
      (pss_one ps_never), ?_⟩
    refine ⟨.ref du, rfl, Nat.le_of_lt (small1000 (by show 2 ≤ 1000; decide)), fun p np => ?_⟩
    have s1 := same_upd (o := .tup [V.ty "tuple", V.ty "list"]) np
    have hf1 := s1 _ _ hf
    have hg1 := s1 _ _ hg
    refine ⟨.ref du, p, _, .type "tuple", _, true, rfl, upd_same, .cons (.ty _) (.cons (.ty _) .nil), .base (.tup hg1), any_t, true, rfl, iteT ?_⟩
    refine ⟨.ref fo, rfl, .ref fo, .ty "tuple", .type "tuple", .type "tuple", true, rfl, .ty _, .base (.tup hf1), isi_tt2, .ref du, rfl, .ref du, .ty "tuple", .type "tuple", .type "tuple", true, rfl, .ty _, .base (.tup hg1), isi_tt2, rfl, _, rfl, iteF ?_⟩
    refine ⟨.ref fo, rfl, .ref fo, .ty "list", .type "tuple", .type "list", false, rfl, .ty _, .base (.tup hf1), isi_tl, .ref du, rfl, .ref du, .ty "list", .type "tuple", .type "list", false, rfl, .ty _, .base (.tup hg1), isi_tl, rfl, _, rfl, iteF ?_⟩
    refine ⟨.ref fo, rfl, fo, ws.map V.int, rfl, .inr (SqT.of hf1), .ref du, rfl, du, ws.map V.int, rfl, .inr (SqT.of hg1), rfl, _, rfl, ite2 (fun h => ?_) (fun _ => ?_)⟩
    · simp at h
    refine ⟨.ref du, rfl, du, ws.map V.int, rfl, .inr (SqT.of hg1), ((ws.map V.int).length : Int), rfl, by rw [List.length_map]; omega, by rw [List.length_map]; omega, fun D hD => ?_⟩
    have e0 : (((ws.map V.int).length : Nat) : Int).toNat = ws.length := by rw [List.length_map]; omega
    rw [e0]
    refine lc_filter (walk_rg ws.length) (fun _ => false) (fun i => V.int (i : Nat)) (small9 (by omega)) hD (fun _ _ => trivial) (fun j x H2 H3 Nx C hj s2 hy hC hN => ?_) fun H2 s2 eD => ?_
    · obtain ⟨rfl, rfl⟩ := hy
      have gw : (ws.map V.int)[j]? = some (.int ws[j]) := by rw [List.getElem?_map, List.getElem?_eq_getElem hj]; rfl
      refine ⟨rfl, .ref fo, rfl, .int (j : Nat), rfl, fo, _, (j : Nat), .int ws[j], rfl, rfl, SqT.of (s2 _ _ hf1), atI_nat gw, .ref du, rfl, .int (j : Nat), rfl, du, _, (j : Nat), .int ws[j], rfl, rfl, SqT.of (s2 _ _ hg1), atI_nat gw, ws[j], rfl, hb _ (List.getElem_mem hj), fun H4 s4 => ⟨true, rfl, iteF (hN rfl H4 s4)⟩⟩
    · have ef : (((List.range ws.length).filter fun _ => false).map fun i => V.int (i : Nat)) = ([] : List Int).map V.int := by simp
      rw [ef] at eD
      refine ⟨Nat.zero_le _, fun e ne => eqL (ns := []) (ms := []) (SqL.of (same_upd ne _ _ eD)) (SqL.of upd_same) ?_⟩
      exact q _ (s1.trans (s2.trans (same_upd ne)))
end
end Du
end
section
namespace Du
open PySem PySem.Spec PyProof.Rows L2 Duel
/-! ### the wider table -/
theorem wide_row {n : Nat} {a : Nat → Nat → Int} {i : Nat} (hi : i < n) : rowS n a i ++ ("+" : Str) = rowS (n + 1) (wider n a) i := by
  refine str_ext ?_
  have e : ∀ p q : Str, (p ++ q).cps.toList = p.cps.toList ++ q.cps.toList := fun p q => Array.toList_append
  have er : ∀ m (b : Nat → Nat → Int), (rowS m b i).cps.toList = (List.range m).map fun j => sg (b i j) := fun m b => List.toList_toArray
  rw [e, er, er, List.range_succ, List.map_append]
  have h1 : (List.range n).map (fun j => sg (wider n a i j)) = (List.range n).map fun j => sg (a i j) := by
    refine List.map_congr_left fun j hj => ?_
    unfold wider
    rw [if_pos hi, if_pos (List.mem_range.mp hj)]
  rw [h1]
  congr 1
  show _ = [sg (wider n a i n)]
  unfold wider
  rw [if_pos hi, if_neg (Nat.lt_irrefl n)]
  rfl
theorem rep_sign (n c : Nat) : (repS (⟨#[c]⟩ : Str) n).cps.toList = List.replicate n c := by
  show ((List.replicate n [c]).flatten.toArray).toList = _
  rw [List.toList_toArray]
  induction n with
  | zero => rfl
  | succ n ih => rw [List.replicate_succ, List.flatten_cons, ih, List.replicate_succ]; rfl
theorem wide_last {n : Nat} {a : Nat → Nat → Int} : repS (⟨#[45]⟩ : Str) n ++ ("." : Str) = rowS (n + 1) (wider n a) n := by
  refine str_ext ?_
  have e : ∀ p q : Str, (p ++ q).cps.toList = p.cps.toList ++ q.cps.toList := fun p q => Array.toList_append
  have er : (rowS (n + 1) (wider n a) n).cps.toList = (List.range (n + 1)).map fun j => sg (wider n a n j) := List.toList_toArray
  rw [e, er, rep_sign, List.range_succ, List.map_append]
  have h1 : (List.range n).map (fun j => sg (wider n a n j)) = List.replicate n 45 := by
    apply List.ext_getElem
    · simp
    · intro j h1 h2
      rw [List.getElem_map, List.getElem_range, List.getElem_replicate]
      rw [List.length_map, List.length_range] at h1
      unfold wider
      rw [if_neg (Nat.lt_irrefl n), if_pos h1]
      rfl
  rw [h1]
  congr 1
  show _ = [sg (wider n a n n)]
  unfold wider
  rw [if_neg (Nat.lt_irrefl n), if_neg (Nat.lt_irrefl n)]
  rfl
theorem wide_tab {n : Nat} {a : Nat → Nat → Int} : ((List.range n).map fun i => V.str (rowS (n + 1) (wider n a) i)) ++ [V.str (rowS (n + 1) (wider n a) n)] = tabV (n + 1) (wider n a) := by
  unfold tabV
  rw [List.range_succ, List.map_append]
  rfl
theorem lot_small {n : Nat} {a : Nat → Nat → Int} {v : List Int} (tb : Tab n a) (hn : n ≤ 9) (h : IsLot n a v) : ∀ x ∈ v, x.natAbs ≤ 6561 := fun x hx => by
  have h1 := lot_bound tb hn h x hx
  have h2 := h.nn x hx
  omega
section
variable {P : Program} {w : World} {K : PySem.W.Frag} {mg : Str → Option Value} {base : Heap}
/-! ### _law_without -/
def spWithout (K : PySem.W.Frag) : Sp := fun vs H Q _ => ∃ (d c u t p : Addr) (B n : Nat) (a : Nat → Nat → Int) (v : List Int), vs = [.ref d, .ref t, .ref p] ∧ Deck H d c u B ∧ B ≤ 50000 ∧ H t = some (.tup (tabV n a)) ∧ H p = some (.tup (v.map V.int)) ∧ 1 ≤ n ∧ n ≤ 9 ∧ Tab n a ∧ IsLot n a v ∧
  ∀ H', Kept d u H H' → Deck H' d c u (B + 1) → Q (.bl true) H'
theorem sc_wo : FnScope ["_law_deck_here", "_law_table_here", "_law_told", "_law_many", "_law_wider", "_law_row", "_law_empty", "_law_k", "_law_one", "_law_fewer"] ["_law_deck_here", "_law_table_here", "_law_told"] (defScope s_l_without) := ⟨rfl, rfl, rfl, by decide +kernel, rfl, by decide +kernel, by decide +kernel⟩
theorem ok_wo (T : Txt K mg w) : Has P w K mg base 5 "_law_without" ["_law_deck_here", "_law_table_here", "_law_told"] (spWithout K) := by
  refine T.d_l_without.has sc_wo (fun vs H Q E h => ?_) (fun f cdv A outer s H vs Q E hr h => ?_)
  · obtain ⟨d, c, u, t, p, B, n, a, v, rfl, _⟩ := h
    rfl
  · obtain ⟨d, c, u, t, p, B, n, a, v, rfl, D, hB, et, ep, n1, n9, tb, lv, q⟩ := h
    refine ⟨_, pss_cons (ps_set (i := 3) sc_wo.nd rfl (.inl rfl) (pe_callB call_len_seq (by rfl) T.b_len PySem.boot_len (pa_cons (pv 1) pa_nil)))
      (pss_cons (ps_set (i := 4) sc_wo.nd rfl (.inl rfl) (pe_op op_catA (pe_callTy call_tuple_of (by rfl) T.b_tuple (by decide +kernel) (pa_cons
          (pe_lc (own := [("_law_row", 5)]) (g := gName 5) (tt := tYes) rfl sc_wo.nd (pi_tup (pv 1)) (blkOk_by (N := ["_law_deck_here", "_law_table_here", "_law_told", "_law_many", "_law_wider", "_law_row", "_law_empty", "_law_k", "_law_one", "_law_fewer"]) (sc := defScope s_l_without) (by decide +kernel))
            (fun _ _ _ _ _ => pg_name (i := 5) sc_wo.nd rfl (.inl rfl)) (fun _ _ _ _ _ => pts_nil)
            (fun _ _ _ _ _ => pe_op op_add_str (pv 5) pe_str)) pa_nil))
          (pe_tup (pa_cons (pe_op op_add_str (pe_op op_mulS pe_str (pv 3)) pe_str) pa_nil))))
      (pss_cons (ps_if (PW.pt (pw_and (pt_cmpR op_lt (pv 3) pe_int (nomark _)) (pw_and1 (pt_not (pt_val (pe_callH (ok_sameT T) (hr.mono (by decide)) (by rfl) (pa_cons (pe_callH (ok_lot T) (hr.mono (by decide)) (by rfl) (pa_cons (pv 4) pa_nil))
          (pa_cons (pe_op op_catA (pv 2) (pe_tup (pa_cons pe_int pa_nil))) pa_nil))))))))
        (pss_one ps_never) pss_nil)
      (pss_cons (ps_setLc (i := 6) (own := [("_law_k", 7)]) (g := gName 7) (tt := tTest (tOp rEq (tOp (rIxT K) (tVar 2) (tVar 7)) (tC (.int 0)))) rfl sc_wo.nd rfl rfl rfl (pi_range1 rfl T.b_range (pa_cons (pv 3) pa_nil)) (blkOk_by (N := ["_law_deck_here", "_law_table_here", "_law_told", "_law_many", "_law_wider", "_law_row", "_law_empty", "_law_k", "_law_one", "_law_fewer"]) (sc := defScope s_l_without) (by decide +kernel))
            (fun _ _ _ _ _ => pg_name (i := 7) sc_wo.nd rfl (.inl rfl)) (fun _ _ _ _ _ => pts_one (pt_cmpR op_eq (pe_ix ix_tup (pv 2) (pv 7) (fun _ _ => rfl)) pe_int (nomark _)))
            (fun _ _ _ _ _ => pv 7))
      (pss_cons (ps_if (pt_cmpR (op_eqD hr.units) (pv 6) (pe_lst pa_nil) (nomark _)) (pss_one (ps_ret pe_bl)) pss_nil)
      (pss_cons (ps_set (i := 8) sc_wo.nd rfl (.inr rfl) (pe_ix ix_list (pv 6) (pe_callH (ok_draw T) (hr.mono (by decide)) (by rfl) (pa_cons (pv 0) (pa_cons (pe_callB call_len_seq (by rfl) T.b_len PySem.boot_len (pa_cons (pv 6) pa_nil)) pa_nil))) (fun _ _ => rfl)))
      (pss_cons (ps_set (i := 9) sc_wo.nd rfl (.inl rfl) (pe_callH (ok_res T) (hr.mono (by decide)) (by rfl) (pa_cons (pv 1) (pa_cons (pe_callTy call_tuple_of (by rfl) T.b_tuple (by decide +kernel) (pa_cons
          (pe_lc (own := [("_law_k", 7)]) (g := gName 7) (tt := tTest (tOp rNe (tVar 7) (tVar 8))) rfl sc_wo.nd (pi_range1 rfl T.b_range (pa_cons (pv 3) pa_nil)) (blkOk_by (N := ["_law_deck_here", "_law_table_here", "_law_told", "_law_many", "_law_wider", "_law_row", "_law_empty", "_law_k", "_law_one", "_law_fewer"]) (sc := defScope s_l_without) (by decide +kernel))
            (fun _ _ _ _ _ => pg_name (i := 7) sc_wo.nd rfl (.inl rfl)) (fun _ _ _ _ _ => pts_one (pt_cmpR op_ne (pv 7) (pv 8) (nomark _)))
            (fun _ _ _ _ _ => pv 7)) pa_nil)) pa_nil))))
      (pss_one (ps_ret (pe_callH (ok_sameT T) (hr.mono (by decide)) (by rfl) (pa_cons (pe_callH (ok_lot T) (hr.mono (by decide)) (by rfl) (pa_cons (pv 9) pa_nil))
        (pa_cons (pe_op op_catA (pe_slice sl_tup (pv 2) po_none (po_some (pv 8))) (pe_slice sl_tup (pv 2) (po_some (pe_op op_add (pv 8) pe_int)) po_none)) pa_nil))))))))))), ?_⟩
    have sz : ∀ k, k ≤ 1000 → k ≤ sizeLine := fun k hk => Nat.le_of_lt (small1000 hk)
    have lw := lv.len
    have e0 : ((n : Nat) : Int).toNat = n := by omega
    refine ⟨.ref t, rfl, t, tabV n a, rfl, .inr (SqT.of et), ?_⟩
    rw [tabV_len]
    refine ⟨.ref t, rfl, t, rfl, ⟨_, SqT.of et⟩, fun D1 nD1 => ?_⟩
    refine lc_map (walk_tup (xs := tabV n a)) (fun i => V.str (rowS (n + 1) (wider n a) i)) (by rw [tabV_len]; exact sz _ (by omega)) nD1 (fun H' s => SqT.of (s _ _ et)) (fun i x H2 H3 C hi s2 _ hy hC => ?_) fun H1 s1 eD1 => ?_
    · obtain ⟨rfl, hx⟩ := hy
      rw [tabV_len] at hi
      rw [tabV_get hi] at hx
      cases hx
      refine ⟨rfl, .str (rowS n a i), rfl, rowS n a i, "+", rfl, rfl, by rw [rowS_len]; exact sz _ (by show n + 1 ≤ 1000; omega), ?_⟩
      rw [wide_row hi]
      exact hC _ (Same.refl _)
    rw [tabV_len] at eD1
    refine ⟨D1, _, rfl, .inl ⟨SqL.of eD1, fun l1 nl1 => ?_⟩⟩
    have s2 := same_upd (o := .tup ((List.range n).map fun i => V.str (rowS (n + 1) (wider n a) i))) nl1
    refine ⟨.int (n : Nat), rfl, "-", (n : Nat), rfl, rfl, rfl, by omega, by omega, repS "-" ((n : Nat) : Int).toNat, ".", rfl, rfl, ?_, sz _ (by show 1 ≤ 1000; decide), fun l2 nl2 => ?_⟩
    · rw [e0]
      have : (repS "-" n).length = n := by
        show (repS ⟨#[45]⟩ n).cps.toList.length = n
        rw [rep_sign, List.length_replicate]
      rw [this]
      exact sz _ (by show n + 1 ≤ 1000; omega)
    rw [e0, show repS "-" n ++ ("." : Str) = rowS (n + 1) (wider n a) n from wide_last]
    have s3 := same_upd (o := .tup [V.str (rowS (n + 1) (wider n a) n)]) nl2
    refine catA (s3 _ _ upd_same) upd_same (by rw [List.length_map, List.length_range]; exact sz _ (by show n + 1 ≤ 1000; omega)) fun H3 wt s4 ew => ?_
    rw [wide_tab] at ew
    have s13 : Same H H3 := s1.trans (s2.trans (s3.trans s4))
    apply viaC (fun σ H' => σ = [some (.ref d), some (.ref t), some (.ref p), some (.int (n : Nat)), some (.ref wt), none, none, none, none, none] ∧ Same H H')
    · intro mid
      refine ⟨.int (n : Nat), rfl, (n : Nat), 9, rfl, rfl, _, rfl, ite2 (fun h => ?_) (fun _ => ?_)⟩
      · have h9 := of_decide_eq_true h
        refine ⟨.ref wt, rfl, wt, n + 1, wider n a, rfl, SqT.of ew, by omega, by omega, tab_wider tb, fun H4 g v4 s5 e4 l4 => ?_⟩
        have ev := l4.uniq (tab_wider tb) (lot_wider lv)
        have s14 := s13.trans s5
        refine ⟨.ref p, rfl, sz _ (by show 1 ≤ 1000; decide), fun z nz => ?_⟩
        have s6 := same_upd (o := .tup [V.int 0]) nz
        refine catA (s6 _ _ (s14 _ _ ep)) upd_same (by rw [List.length_map, lw]; exact sz _ (by show n + 1 ≤ 1000; omega)) fun H5 y s7 ey => ?_
        rw [show v.map V.int ++ [V.int 0] = (v ++ [0]).map V.int by rw [List.map_append]; rfl] at ey
        rw [ev] at e4
        refine ⟨g, y, v ++ [0], rfl, s7 _ _ (s6 _ _ e4), ey, by rw [List.length_append, lw]; show n + 1 ≤ 10; omega, fun x hx => ?_, fun H6 s8 => ⟨true, rfl, iteF (mid _ _ ⟨rfl, s14.trans (s6.trans (s7.trans s8))⟩)⟩⟩
        exact lot_small (tab_wider tb) (by omega) (lot_wider lv) x hx
      · exact iteF (mid _ _ ⟨rfl, s13⟩)
    clear s13 s4 ew s3 nl2 s2 nl1 eD1 s1 nD1 H3
    rintro σ H8 ⟨rfl, s8⟩
    refine ⟨.int (n : Nat), rfl, (n : Nat), rfl, by omega, by omega, fun D9 nD9 => ?_⟩
    rw [e0]
    have ep8 := s8 _ _ ep
    refine lc_filter (walk_rg n) (fun k => decide (v.getD k 0 = 0)) (fun k => V.int (k : Nat)) (sz _ (by omega)) nD9 (fun _ _ => trivial) (fun j x H2 H3 Nx C hj s2 hy hC hN => ?_) fun H9 s9 eD9 => ?_
    · obtain ⟨rfl, rfl⟩ := hy
      have jl : j < v.length := by omega
      have gw : (v.map V.int)[j]? = some (.int v[j]) := by rw [List.getElem?_map, List.getElem?_eq_getElem jl]; rfl
      rw [getD_get jl] at hC hN
      refine ⟨rfl, .ref p, rfl, .int (j : Nat), rfl, p, _, (j : Nat), .int v[j], rfl, rfl, SqT.of (s2 _ _ ep8), atI_nat gw, rfl, _, rfl, ite2 (fun h => ?_) (fun h => ?_)⟩
      · rw [decI] at h
        exact ⟨_, rfl, hC h _ (Same.refl _)⟩
      · rw [decI] at h
        exact hN (Bool.not_eq_true _ ▸ h) _ (Same.refl _)
    obtain ⟨E, hE⟩ : ∃ E, (List.range n).filter (fun k => decide (v.getD k 0 = 0)) = E := ⟨_, rfl⟩
    rw [hE] at eD9
    have eD9 : H9 D9 = some (.lst (nV E)) := eD9
    refine ⟨.ref D9, rfl, Nat.zero_le _, fun e ne => ?_⟩
    have s10 := same_upd (o := .lst []) ne
    have sE := s8.trans (s9.trans s10)
    refine eqL (ns := iV E) (ms := []) (by rw [iV_map]; exact SqL.of (s10 _ _ eD9)) (SqL.of upd_same) ⟨_, rfl, ite2 (fun h => ?_) (fun h => ?_)⟩
    · exact q _ (Kept.of sE) ((D.same sE).mono (by omega))
    have hEne : E ≠ [] := fun z => h (decide_eq_true (iV_nil.mpr z))
    have hE0 : 0 < E.length := List.length_pos_iff.mpr hEne
    have hEn : E.length ≤ n := by
      have := List.length_filter_le (fun k => decide (v.getD k 0 = 0)) (List.range n)
      rw [hE, List.length_range] at this
      exact this
    have DE := D.same sE
    obtain ⟨xd, hd8⟩ := (D.same s8).d
    obtain ⟨xu, hu8⟩ := (D.same s8).u
    have Dd : D9 ≠ d := (ne_of_none hd8 nD9).symm
    have Du : D9 ≠ u := (ne_of_none hu8 nD9).symm
    refine ⟨.ref D9, rfl, .ref d, rfl, .ref D9, rfl, D9, nV E, rfl, .inl (SqL.of (s10 _ _ eD9)), d, c, u, B, E.length, ?_, DE, by omega, hE0, by omega, fun H10 r hr k10 D10 => ?_⟩
    · rw [nV_len]; rfl
    have et10 := k10.tup DE (sE _ _ et)
    have ep10 := k10.tup DE (sE _ _ ep)
    have KH : Kept d u H H10 := (Kept.of sE).trans k10
    refine ⟨D9, nV E, (r : Nat), .int (E.getD r 0 : Nat), rfl, rfl, SqL.of (k10 _ _ (s10 _ _ eD9) Dd Du), atI_nat (nV_get hr), ?_⟩
    obtain ⟨x, hx⟩ : ∃ x, E.getD r 0 = x := ⟨_, rfl⟩
    rw [hx]
    have xE : x ∈ E := by rw [← hx, getD_get hr]; exact List.getElem_mem hr
    rw [← hE] at xE
    have xn : x < n := List.mem_range.mp (List.mem_filter.mp xE).1
    have x0 : v.getD x 0 = 0 := of_decide_eq_true (List.mem_filter.mp xE).2
    refine ⟨.ref t, rfl, .int (n : Nat), rfl, (n : Nat), rfl, by omega, by omega, fun D11 nD11 => ?_⟩
    rw [e0]
    refine lc_filter (walk_rg n) (fun k => decide (k ≠ x)) (fun k => V.int (k : Nat)) (sz _ (by omega)) nD11 (fun _ _ => trivial) (fun j y H2 H3 Nx C hj s2 hy hC hN => ?_) fun H11 s11 eD11 => ?_
    · obtain ⟨rfl, rfl⟩ := hy
      refine ⟨rfl, .int (j : Nat), rfl, .int (x : Nat), rfl, rfl, _, rfl, ?_⟩
      rw [decI]
      by_cases h : j = x
      · subst h
        rw [decide_eq_true rfl]
        exact iteF (hN (by simp) _ (Same.refl _))
      · rw [decide_eq_false (show ¬ ((j : Nat) : Int) = ((x : Nat) : Int) by omega)]
        exact iteT ⟨_, rfl, hC (by simpa using h) _ (Same.refl _)⟩
    obtain ⟨M, hM⟩ : ∃ M, (List.range n).filter (fun k => decide (k ≠ x)) = M := ⟨_, rfl⟩
    rw [hM] at eD11
    have eD11 : H11 D11 = some (.lst (nV M)) := eD11
    have Mm : ∀ j, j ∈ M ↔ j < n ∧ j ≠ x := fun j => by rw [← hM, List.mem_filter, List.mem_range, decide_eq_true_eq]
    obtain ⟨i0, hi0, hp0⟩ := lv.bald.ps
    have i0M : i0 ∈ M := (Mm i0).mpr ⟨hi0, fun z => by rw [z] at hp0; rw [x0] at hp0; exact absurd hp0 (by decide)⟩
    have Mne : M ≠ [] := fun z => by rw [z] at i0M; simp at i0M
    have M0 : 0 < M.length := List.length_pos_iff.mpr Mne
    have M9 : M.length ≤ 9 := by
      have := List.length_filter_le (fun k => decide (k ≠ x)) (List.range n)
      rw [hM, List.length_range] at this
      omega
    have Mpw : M.Pairwise (· < ·) := by rw [← hM]; exact List.Pairwise.sublist List.filter_sublist List.pairwise_lt_range
    have Mnd : M.Nodup := by rw [← hM]; exact List.Pairwise.sublist List.filter_sublist List.nodup_range
    have Mlt : ∀ j ∈ M, j < n := fun j hj => ((Mm j).mp hj).1
    refine ⟨D11, _, rfl, .inl ⟨SqL.of eD11, fun m nm => ?_⟩⟩
    have s12 := same_upd (o := .tup (nV M)) nm
    have sA := s11.trans s12
    refine ⟨t, m, n, a, M, rfl, SqT.of (sA _ _ et10), upd_same, n9, Mne, M9, Mlt, Mpw, fun H13 fw s13 ef => ?_⟩
    refine ⟨.ref fw, rfl, fw, M.length, reA a M, rfl, SqT.of ef, M0, M9, tab_re tb Mnd Mlt, fun H14 g v14 s14 e14 l14 => ?_⟩
    have lr := lot_re lv Mnd Mlt (fun j hj hp => (Mm j).mpr ⟨hj, fun z => by rw [z, x0] at hp; exact absurd hp (by decide)⟩)
    have ev := l14.uniq (tab_re tb Mnd Mlt) lr
    have er : (M.map fun j => v.getD j 0) = v.take x ++ v.drop (x + 1) := by
      rw [← hM, ← lw]
      exact erase_vals v (by omega)
    rw [er] at ev
    have sB : Same H10 H14 := sA.trans (s13.trans s14)
    have ep14 := sB _ _ ep10
    have lt : (v.map V.int).length = n := by rw [List.length_map, lw]
    refine ⟨.ref p, rfl, .int (x : Nat), rfl, (x : Nat), rfl, p, v.map V.int, rfl, SqT.of ep14, fun z => ?_, fun a1 na1 => ?_⟩
    · have z1 := z.2
      rw [HT.sIx_nat, lt] at z1
      omega
    have s15 := same_upd (o := .tup (cutV (v.map V.int) none (some ((x : Nat) : Int)))) na1
    refine ⟨.ref p, rfl, .int (x : Nat), rfl, _, 1, rfl, rfl, ((x + 1 : Nat) : Int), congrArg V.int (by omega), p, v.map V.int, rfl, SqT.of (s15 _ _ ep14), fun z => ?_, fun a2 na2 => ?_⟩
    · have z1 := z.1
      rw [HT.sIx_nat, lt] at z1
      omega
    have s16 := same_upd (o := .tup (cutV (v.map V.int) (some ((x + 1 : Nat) : Int)) none)) na2
    have hc1 := cutV_length (v.map V.int) none (some ((x : Nat) : Int))
    have hc2 := cutV_length (v.map V.int) (some ((x + 1 : Nat) : Int)) none
    have hz : (1000 : Nat) < sizeLine := small1000 (Nat.le_refl _)
    refine catA (s16 _ _ upd_same) upd_same (by omega) fun H17 y s17 ey => ?_
    rw [cutL_hi (by omega), cutL_lo, ← List.map_take, ← List.map_drop, ← List.map_append, ← ev] at ey
    have sC := s15.trans (s16.trans s17)
    refine ⟨g, y, v14, rfl, sC _ _ e14, ey, by rw [l14.len]; omega, lot_small (tab_re tb Mnd Mlt) M9 l14, fun H18 s18 => ?_⟩
    exact q _ (KH.trans (Kept.of (sB.trans (sC.trans s18)))) (D10.same (sB.trans (sC.trans s18)))
/-! ### _law_stays -/
theorem sc_st : FnScope ["_law_deck_here", "_law_table_here", "_law_told", "_law_one", "_law_lost", "_law_k"] ["_law_deck_here", "_law_table_here", "_law_told"] (defScope s_l_stays) := ⟨rfl, rfl, rfl, by decide +kernel, rfl, by decide +kernel, by decide +kernel⟩
def spStays (K : PySem.W.Frag) : Sp := fun vs H Q _ => ∃ (d c u t p : Addr) (B n : Nat) (a : Nat → Nat → Int), vs = [.ref d, .ref t, .ref p] ∧ Deck H d c u B ∧ B ≤ 50000 ∧ H t = some (.tup (tabV n a)) ∧ 1 ≤ n ∧ n ≤ 9 ∧ Tab n a ∧
  ∀ H', Kept d u H H' → Deck H' d c u (B + 2) → Q (.bl true) H'
theorem ok_st (T : Txt K mg w) : Has P w K mg base 5 "_law_stays" ["_law_deck_here", "_law_table_here", "_law_told"] (spStays K) := by
  refine T.d_l_stays.has sc_st (fun vs H Q E h => ?_) (fun f cdv A outer s H vs Q E hr h => ?_)
  · obtain ⟨d, c, u, t, p, B, n, a, rfl, _⟩ := h
    rfl
  · obtain ⟨d, c, u, t, p, B, n, a, rfl, D, hB, et, n1, n9, tb, q⟩ := h
    refine ⟨_, pss_cons (ps_set (i := 3) sc_st.nd rfl (.inr rfl) (pe_ix ix_tup (pe_callH (ok_supp T) hr (by rfl) (pa_cons (pv 1) pa_nil))
          (pe_callH (ok_draw T) (hr.mono (by decide)) (by rfl) (pa_cons (pv 0) (pa_cons (pe_callB call_len_seq (by rfl) T.b_len PySem.boot_len (pa_cons (pe_callH (ok_supp T) hr (by rfl) (pa_cons (pv 1) pa_nil)) pa_nil)) pa_nil))) (fun _ _ => rfl)))
      (pss_cons (ps_setLc (i := 4) (own := [("_law_k", 5)]) (g := gName 5) (tt := tTest (tOp rEq (tOp rIxS (tOp (rIxT K) (tVar 1) (tVar 3)) (tVar 5)) (tC (.str "-")))) rfl sc_st.nd rfl rfl rfl (pi_range1 rfl T.b_range (pa_cons (pe_callB call_len_seq (by rfl) T.b_len PySem.boot_len (pa_cons (pv 1) pa_nil)) pa_nil)) (blkOk_by (N := ["_law_deck_here", "_law_table_here", "_law_told", "_law_one", "_law_lost", "_law_k"]) (sc := defScope s_l_stays) (by decide +kernel))
            (fun _ _ _ _ _ => pg_name (i := 5) sc_st.nd rfl (.inl rfl)) (fun _ _ _ _ _ => pts_one (pt_cmpR op_eq (pe_ix ix_str (pe_ix ix_tup (pv 1) (pv 3) (fun _ _ => rfl)) (pv 5) (fun _ _ => rfl)) pe_str (nomark _)))
            (fun _ _ _ _ _ => pv 5))
      (pss_cons (ps_if (pt_cmpR (op_eqD hr.units) (pv 4) (pe_lst pa_nil) (nomark _)) (pss_one (ps_ret pe_bl)) pss_nil)
      (pss_one (ps_ret (pe_cmpR op_gt (pe_ix ix_tup (pe_callH (ok_lot T) (hr.mono (by decide)) (by rfl) (pa_cons (pe_callH (ok_turn T) (hr.mono (by decide)) (by rfl) (pa_cons (pv 1) (pa_cons (pv 3) (pa_cons
          (pe_ix ix_list (pv 4) (pe_callH (ok_draw T) (hr.mono (by decide)) (by rfl) (pa_cons (pv 0) (pa_cons (pe_callB call_len_seq (by rfl) T.b_len PySem.boot_len (pa_cons (pv 4) pa_nil)) pa_nil))) (fun _ _ => rfl)) pa_nil)))) pa_nil)) (pv 3) (fun _ _ => rfl)) pe_int (nomark _)))))), ?_⟩
    have sz : ∀ k, k ≤ 1000 → k ≤ sizeLine := fun k hk => Nat.le_of_lt (small1000 hk)
    have e0 : ((n : Nat) : Int).toNat = n := by omega
    refine ⟨.ref t, rfl, t, n, a, rfl, SqT.of et, n1, n9, tb, fun H1 p1 v s1 e1 lv => ?_⟩
    refine ⟨.ref d, rfl, .ref t, rfl, t, n, a, rfl, SqT.of (s1 _ _ et), n1, n9, tb, fun H2 p2 v2 s2 e2 lv2 => ?_⟩
    have ev := lv2.uniq tb lv
    rw [ev] at e2
    have sA := s1.trans s2
    have DA := D.same sA
    obtain ⟨i0, hi0, hp0⟩ := lv.bald.ps
    have i0M : i0 ∈ supp v := supp_mem.mpr ⟨by rw [lv.len]; exact hi0, hp0⟩
    have M0 : 0 < (supp v).length := List.length_pos_of_mem i0M
    have M9 : (supp v).length ≤ n := by
      have : (supp v).length ≤ (List.range v.length).length := List.length_filter_le _ _
      rw [List.length_range, lv.len] at this
      exact this
    refine ⟨p2, nV (supp v), rfl, .inr (SqT.of e2), d, c, u, B, (supp v).length, ?_, DA, by omega, M0, by omega, fun H3 r hr k3 D3 => ?_⟩
    · rw [nV_len]; rfl
    have et3 := k3.tup DA (sA _ _ et)
    have KH : Kept d u H H3 := (Kept.of sA).trans k3
    refine ⟨p1, nV (supp v), (r : Nat), .int ((supp v).getD r 0 : Nat), rfl, rfl, SqT.of (k3.tup DA (s2 _ _ e1)), atI_nat (nV_get hr), ?_⟩
    obtain ⟨x, hx⟩ : ∃ x, (supp v).getD r 0 = x := ⟨_, rfl⟩
    rw [hx]
    have xM : x ∈ supp v := by rw [← hx, getD_get hr]; exact List.getElem_mem hr
    have xn : x < n := by have := (supp_mem.mp xM).1; rw [lv.len] at this; exact this
    have xp := (supp_mem.mp xM).2
    refine ⟨.ref t, rfl, t, tabV n a, rfl, .inr (SqT.of et3), ((tabV n a).length : Int), rfl, by rw [tabV_len]; omega, by rw [tabV_len]; omega, fun D4 nD4 => ?_⟩
    rw [tabV_len, e0]
    refine lc_filter (walk_rg n) (fun k => decide (a x k = -1)) (fun k => V.int (k : Nat)) (sz _ (by omega)) nD4 (fun _ _ => trivial) (fun j y H5 H6 Nx C hj s5 hy hC hN => ?_) fun H4 s4 eD4 => ?_
    · obtain ⟨rfl, rfl⟩ := hy
      refine ⟨rfl, .ref t, rfl, .int (x : Nat), rfl, t, tabV n a, (x : Nat), .str (rowS n a x), rfl, rfl, SqT.of (s5 _ _ et3), atI_nat (tabV_get xn), .int (j : Nat), rfl, rowS n a x, (j : Nat), sg (a x j), rfl, rfl, by rw [rowS_len]; exact sz _ (by omega), atI_nat (rowS_get hj), rfl, _, rfl, ?_⟩
      have hd : decide (V.str (⟨#[sg (a x j)]⟩ : Str) = V.str "-") = decide (a x j = -1) := by
        rcases tab3 tb xn hj with h | h | h <;> rw [h] <;> decide
      rw [hd]
      exact ite2 (fun h => ⟨_, rfl, hC h _ (Same.refl _)⟩) (fun h => hN (Bool.not_eq_true _ ▸ h) _ (Same.refl _))
    obtain ⟨E, hE⟩ : ∃ E, (List.range n).filter (fun k => decide (a x k = -1)) = E := ⟨_, rfl⟩
    rw [hE] at eD4
    have eD4 : H4 D4 = some (.lst (nV E)) := eD4
    refine ⟨.ref D4, rfl, Nat.zero_le _, fun e ne => ?_⟩
    have s6 := same_upd (o := .lst []) ne
    have sE := s4.trans s6
    refine eqL (ns := iV E) (ms := []) (by rw [iV_map]; exact SqL.of (s6 _ _ eD4)) (SqL.of upd_same) ⟨_, rfl, ite2 (fun h => ?_) (fun h => ?_)⟩
    · exact q _ (KH.trans (Kept.of sE)) ((D3.same sE).mono (by omega))
    have hEne : E ≠ [] := fun z => h (decide_eq_true (iV_nil.mpr z))
    have hE0 : 0 < E.length := List.length_pos_iff.mpr hEne
    have hEn : E.length ≤ n := by
      have := List.length_filter_le (fun k => decide (a x k = -1)) (List.range n)
      rw [hE, List.length_range] at this
      exact this
    have DE := D3.same sE
    obtain ⟨xd, hd3⟩ := D3.d
    obtain ⟨xu, hu3⟩ := D3.u
    have Dd : D4 ≠ d := (ne_of_none hd3 nD4).symm
    have Du : D4 ≠ u := (ne_of_none hu3 nD4).symm
    refine ⟨.ref t, rfl, .int (x : Nat), rfl, .ref D4, rfl, .ref d, rfl, .ref D4, rfl, D4, nV E, rfl, .inl (SqL.of (s6 _ _ eD4)), d, c, u, B + 1, E.length, ?_, DE, by omega, hE0, by omega, fun H7 r7 hr7 k7 D7 => ?_⟩
    · rw [nV_len]; rfl
    refine ⟨D4, nV E, (r7 : Nat), .int (E.getD r7 0 : Nat), rfl, rfl, SqL.of (k7 _ _ (s6 _ _ eD4) Dd Du), atI_nat (nV_get hr7), ?_⟩
    obtain ⟨y, hy⟩ : ∃ y, E.getD r7 0 = y := ⟨_, rfl⟩
    rw [hy]
    have yE : y ∈ E := by rw [← hy, getD_get hr7]; exact List.getElem_mem hr7
    rw [← hE] at yE
    have yn : y < n := List.mem_range.mp (List.mem_filter.mp yE).1
    have ym : a x y = -1 := of_decide_eq_true (List.mem_filter.mp yE).2
    have xy : x ≠ y := fun z => by
      rw [← z, tb.dg x xn] at ym
      exact absurd ym (by decide)
    have et7 := k7.tup DE (sE _ _ et3)
    refine ⟨t, n, a, x, y, rfl, SqT.of et7, n9, xn, yn, xy, fun H8 t8 s8 e8 => ?_⟩
    refine ⟨t8, n, turned a x y, rfl, SqT.of e8, n1, n9, tab_turned tb xn yn xy, fun H9 g v9 s9 e9 l9 => ?_⟩
    have hpos := stays tb lv xn yn ym xp l9
    have xl : x < v9.length := by rw [l9.len]; exact xn
    refine ⟨.int (x : Nat), rfl, g, v9.map V.int, (x : Nat), .int v9[x], rfl, rfl, SqT.of e9, atI_nat (by rw [List.getElem?_map, List.getElem?_eq_getElem xl]; rfl), v9[x], 0, rfl, rfl, ?_⟩
    rw [getD_get xl] at hpos
    have z := q H9 ((KH.trans (Kept.of sE)).trans (k7.trans (Kept.of (s8.trans s9)))) (D7.same (s8.trans s9))
    rw [← decide_eq_true hpos] at z
    exact z
end
end Du
end
section
namespace Du
open PySem PySem.Spec PyProof.Rows L2 Duel
section
variable {P : Program} {w : World} {K : PySem.W.Frag} {mg : Str → Option Value} {base : Heap}
def spLaw (K : PySem.W.Frag) : Sp := fun vs H Q _ => ∃ (a : Addr) (ns : List Int), vs = [.ref a] ∧ SqL K H a (ns.map V.int) ∧ ns.length ≤ 63 ∧ ∀ H', Q (.bl true) H'
theorem sc_law : FnScope ["_law_script", "_law_deck_here", "_law_turn", "_law_table_here", "_law_told", "_law_many", "_law_order", "_law_k", "_law_alone", "_law_weight", "_law_again", "_law_drawn"] ["_law_script"] (defScope s_law) := ⟨rfl, rfl, rfl, by decide +kernel, rfl, by decide +kernel, by decide +kernel⟩
theorem ok_law (T : Txt K mg w) : ∃ f fd, mg "law" = some (.ref f) ∧ (∀ (s : Shared) (v : Value), BindsTo s fd ⟨[v], []⟩ [("_law_script", v)]) ∧ ∀ base : Heap, FnOk P w K mg base CX0 20 f fd ["_law_script"] (spLaw K) := by
  obtain ⟨f, fd, hm, F, _, kV, dc, pm, an, cd, ct, e⟩ := T.d_law
  refine ⟨f, fd, hm, fun s v => by subst e; exact .of_eq rfl, fun base => (F.ok (k := 5) sc_law (fun vs H Q E h => ?_) (fun cdv A outer s H vs Q E hr h => ?_)).mono (by decide)⟩
  · obtain ⟨a, ns, rfl, _⟩ := h
    rfl
  · obtain ⟨sc, ns, rfl, hS, h63, q⟩ := h
    refine ⟨_, pss_cons (ps_set (i := 1) sc_law.nd rfl (.inr rfl) (pe_callH (ok_deck T) (hr.mono (by decide)) (by rfl) (pa_cons (pv 0) pa_nil)))
      (pss_cons (ps_for PassesOwn.never rfl (pi_range1 rfl T.b_range (pa_cons pe_int pa_nil)) (pg_name (i := 2) sc_law.nd rfl (.inl rfl))
        (pss_cons (ps_set (i := 3) sc_law.nd rfl (.inl rfl) (pe_callH (ok_table T) (hr.mono (by decide)) (by rfl) (pa_cons (pv 1) (pa_cons pe_int pa_nil))))
        (pss_cons (ps_asg (pe_tup (pa_cons (pe_callH (ok_lot T) (hr.mono (by decide)) (by rfl) (pa_cons (pv 3) pa_nil)) (pa_cons (pe_callB call_len_seq (by rfl) T.b_len PySem.boot_len (pa_cons (pv 3) pa_nil)) pa_nil)))
            (pg_tup rfl (pgs_cons (pg_name (i := 4) sc_law.nd rfl (.inr rfl)) (pgs_cons (pg_name (i := 5) sc_law.nd rfl (.inl rfl)) pgs_nil))))
        (pss_cons (ps_set (i := 6) sc_law.nd rfl (.inl rfl) (pe_callTy call_tuple_of (by rfl) T.b_tuple (by decide +kernel) (pa_cons (pe_callH (ok_mixed T) (hr.mono (by decide)) (by rfl) (pa_cons (pv 1) (pa_cons (pe_listRg rfl (by rfl) T.b_list (prg_1 (by rfl) T.b_range (pv 5))) pa_nil))) pa_nil)))
        (pss_cons (ps_if (pt_not (pt_val (pe_callH (ok_sameT T) (hr.mono (by decide)) (by rfl) (pa_cons (pe_callH (ok_lot T) (hr.mono (by decide)) (by rfl) (pa_cons (pe_callH (ok_rel T) (hr.mono (by decide)) (by rfl) (pa_cons (pv 3) (pa_cons (pv 6) pa_nil))) pa_nil))
            (pa_cons (pe_callTy call_tuple_of (by rfl) T.b_tuple (by decide +kernel) (pa_cons
              (pe_lc (own := [("_law_k", 7)]) (g := gName 7) (tt := tYes) (te := tOp (rIxT K) (tVar 4) (tVar 7)) rfl sc_law.nd (pi_tup (pv 6)) (blkOk_by (N := ["_law_script", "_law_deck_here", "_law_turn", "_law_table_here", "_law_told", "_law_many", "_law_order", "_law_k", "_law_alone", "_law_weight", "_law_again", "_law_drawn"]) (sc := defScope s_law) (by decide +kernel))
                (fun _ _ _ _ _ => pg_name (i := 7) sc_law.nd rfl (.inl rfl)) (fun _ _ _ _ _ => pts_nil)
                (fun _ _ _ _ _ => pe_ix ix_tup (pv 4) (pv 7) (fun _ _ => rfl))) pa_nil)) pa_nil)))))
          (pss_one ps_never) pss_nil)
        (pss_cons (ps_set (i := 8) sc_law.nd rfl (.inl rfl) (pe_callH (ok_res T) (hr.mono (by decide)) (by rfl) (pa_cons (pv 3) (pa_cons (pe_callH (ok_supp T) (hr.mono (by decide)) (by rfl) (pa_cons (pv 3) pa_nil)) pa_nil))))
        (pss_cons (ps_if (pt_not (pt_val (pe_callH (ok_sameT T) (hr.mono (by decide)) (by rfl) (pa_cons (pe_callH (ok_lot T) (hr.mono (by decide)) (by rfl) (pa_cons (pv 8) pa_nil))
            (pa_cons (pe_callTy call_tuple_of (by rfl) T.b_tuple (by decide +kernel) (pa_cons
              (pe_lc (own := [("_law_weight", 9)]) (g := gName 9) (tt := tTest (tOp (rI0 fun i j => .bl (decide (j < i))) (tVar 9) (tC (.int 0)))) rfl sc_law.nd (pi_tup (pv 4)) (blkOk_by (N := ["_law_script", "_law_deck_here", "_law_turn", "_law_table_here", "_law_told", "_law_many", "_law_order", "_law_k", "_law_alone", "_law_weight", "_law_again", "_law_drawn"]) (sc := defScope s_law) (by decide +kernel))
                (fun _ _ _ _ _ => pg_name (i := 9) sc_law.nd rfl (.inl rfl)) (fun _ _ _ _ _ => pts_one (pt_cmpR op_gt (pv 9) pe_int (nomark _)))
                (fun _ _ _ _ _ => pv 9)) pa_nil)) pa_nil)))))
          (pss_one ps_never) pss_nil)
        (pss_cons (ps_if (PW.pt (pw_or (pt_not (pt_val (pe_callH (ok_wo T) hr (by rfl) (pa_cons (pv 1) (pa_cons (pv 3) (pa_cons (pv 4) pa_nil)))))) (pw_or1 (pt_not (pt_val (pe_callH (ok_st T) hr (by rfl) (pa_cons (pv 1) (pa_cons (pv 3) (pa_cons (pv 4) pa_nil)))))))))
          (pss_one ps_never) pss_nil)
        (pss_one (ps_for PassesOwn.never rfl (pi_range1 rfl T.b_range (pa_cons pe_int pa_nil)) (pg_name (i := 10) sc_law.nd rfl (.inl rfl))
          (pss_cons (ps_set (i := 11) sc_law.nd rfl (.inl rfl) (pe_callTy call_tuple_of (by rfl) T.b_tuple (by decide +kernel) (pa_cons
              (pe_lc (own := [("_law_k", 7)]) (g := gName 7) (tt := tYes) (te := tCall (spDraw K) [] E0 (tCons (tVar 1) (tCons (tC (.int 4)) tNil))) rfl sc_law.nd (pi_range1 rfl T.b_range (pa_cons (pv 5) pa_nil)) (blkOk_by (N := ["_law_script", "_law_deck_here", "_law_turn", "_law_table_here", "_law_told", "_law_many", "_law_order", "_law_k", "_law_alone", "_law_weight", "_law_again", "_law_drawn"]) (sc := defScope s_law) (by decide +kernel))
                (fun _ _ _ _ _ => pg_name (i := 7) sc_law.nd rfl (.inl rfl)) (fun _ _ _ _ _ => pts_nil)
                (fun _ _ _ _ _ => pe_callH (ok_draw T) (hr.mono (by decide)) (by rfl) (pa_cons (pv 1) (pa_cons pe_int pa_nil)))) pa_nil)))
          (pss_one (ps_if (pt_cmpR op_ne (pe_callB call_repr_bool (by rfl) T.b_repr (by decide +kernel) (pa_cons (pe_callH (ok_isl T) (hr.mono (by decide)) (by rfl) (pa_cons (pv 3) (pa_cons (pv 11) pa_nil))) pa_nil))
              (pe_callB call_repr_bool (by rfl) T.b_repr (by decide +kernel) (pa_cons (pe_cmpR (op_eqD hr.units) (pv 11) (pv 4) (nomark _)) pa_nil)) (nomark _))
            (pss_one ps_never) pss_nil))))))))))))
      ) (pss_one (ps_ret pe_bl))), ?_⟩
    have sz : ∀ k, k ≤ 1000 → k ≤ sizeLine := fun k hk => Nat.le_of_lt (small1000 hk)
    refine ⟨.ref sc, rfl, sc, ns, rfl, hS, h63, fun H1 d c u s1 D1 => ?_⟩
    refine ⟨5, rfl, by decide, by decide, ?_⟩
    refine for_range (lo := 0) (n := (5 : Int).toNat) (fun i σ H' => ∃ y0 y2 y3 y4 y5 y6 y8 y10 y11, σ = [y0, some (.ref d), y2, y3, y4, y5, y6, none, y8, none, y10, y11] ∧ Deck H' d c u (1000 * i))
      ⟨_, none, none, none, none, none, none, none, none, rfl, D1⟩ ?_ (fun σ H' _ => q H')
    rintro i σ H' hi ⟨y0, y2, y3, y4, y5, y6, y8, y10, y11, rfl, D⟩
    have hi5 : i < 5 := hi
    obtain ⟨B, hB⟩ : ∃ B, 1000 * i = B := ⟨_, rfl⟩
    have hB4 : B ≤ 4000 := by omega
    have hBn : 1000 * (i + 1) = B + 1000 := by omega
    rw [hB] at D
    rw [hBn]
    refine ⟨.ref d, rfl, d, c, u, B, rfl, D, by omega, fun H2 t n a k2 D2 et n1 n9 tb => ?_⟩
    refine ⟨.ref t, rfl, t, n, a, rfl, SqT.of et, n1, n9, tb, fun H3 p v s3 ep lv => ?_⟩
    refine ⟨.ref t, rfl, t, tabV n a, rfl, .inr (SqT.of (s3 _ _ et)), sz 2 (by decide), fun g ng => ?_⟩
    have s4 := same_upd (o := .tup [V.ref p, V.int ((tabV n a).length : Int)]) ng
    refine ⟨g, _, rfl, .inl (.inl upd_same), rfl, _, _, rfl, _, _, rfl, rfl, ?_⟩
    apply viaC (fun σ H' => ∃ y0 y2 y6 y8 y10 y11, σ = [y0, some (.ref d), y2, some (.ref t), some (.ref p), some (.int (n : Nat)), y6, none, y8, none, y10, y11] ∧ Deck H' d c u (B + 300) ∧ H' t = some (.tup (tabV n a)) ∧ H' p = some (.tup (v.map V.int)))
    · intro mid
      refine mid _ _ ⟨y0, some (.int (0 + (i : Nat))), y6, y8, y10, y11, ?_, D2.same (s3.trans s4), s4 _ _ (s3 _ _ et), s4 _ _ ep⟩
      show [y0, some (.ref d), _, some (.ref t), some (.ref p), some (.int ((tabV n a).length : Int)), y6, none, y8, none, y10, y11] = _
      rw [tabV_len]
    clear s4 ng ep s3 et D2 k2 D D1 s1 g H1 H2 H3 y0 y2 y3 y4 y5 y6 y8 y10 y11 H'
    rintro σ H1 ⟨y0, y2, y6, y8, y10, y11, rfl, D1, et, ep⟩
    have lw := lv.len
    -- the order
    refine ⟨.ref d, rfl, .int (n : Nat), rfl, (n : Nat), rfl, ⟨by omega, by omega, by omega, by omega, by omega⟩, fun l nl => ?_⟩
    have s2 := same_upd (o := .lst (rgV 0 ((n : Nat) : Int))) nl
    have lrn : (List.range n).length = n := List.length_range
    refine ⟨d, c, u, l, B + 300, List.range n, rfl, D1.same s2, by omega, SqL.of (by rw [upd_same, rg_nV]), by omega, fun H3 o1 N k3 D3 eo pm no => ?_⟩
    have hN : N.length = n := by rw [pm.length_eq, lrn]
    have Nnd : N.Nodup := pm.nodup_iff.mpr List.nodup_range
    have Nlt : ∀ j ∈ N, j < n := fun j hj => List.mem_range.mp (pm.mem_iff.mp hj)
    refine ⟨o1, nV N, rfl, .inl ⟨SqL.of eo, fun o n2 => ?_⟩⟩
    have s4 := same_upd (o := .tup (nV N)) n2
    have et4 := s4 _ _ (k3.tup (D1.same s2) (s2 _ _ et))
    have ep4 := s4 _ _ (k3.tup (D1.same s2) (s2 _ _ ep))
    have D4 := (D3.same s4).mono (show B + 300 + (List.range n).length ≤ B + 310 by omega)
    obtain ⟨H4, hH4⟩ : ∃ H4, upd H3 o (.tup (nV N)) = H4 := ⟨_, rfl⟩
    have eo4 : H4 o = some (.tup (nV N)) := by rw [← hH4]; exact upd_same
    rw [hH4] at et4 ep4 D4 ⊢
    clear s4 n2 eo no k3 D3 s2 nl D1 et ep hH4 H3 H1
    -- relabelling
    refine ⟨.ref t, rfl, .ref o, rfl, t, o, n, a, N, rfl, SqT.of et4, eo4, n9, by omega, Nlt, fun H5 t5 s5 e5 => ?_⟩
    refine ⟨t5, N.length, reA a N, rfl, SqT.of e5, by omega, by omega, tab_re tb Nnd Nlt, fun H6 g v6 s6 e6 l6 => ?_⟩
    have s46 := s5.trans s6
    refine ⟨.ref o, rfl, o, rfl, ⟨_, SqT.of (s46 _ _ eo4)⟩, fun D nD => ?_⟩
    have lN : (nV N).length = N.length := nV_len N
    refine lc_map (walk_tup (xs := nV N)) (fun k => V.int (v.getD (N.getD k 0) 0)) (by rw [lN]; exact sz _ (by omega)) nD (fun H' s => SqT.of (s _ _ (s46 _ _ eo4))) (fun k x H7 H8 C hk s7 _ hy hC => ?_) fun H7 s7 eD => ?_
    · obtain ⟨rfl, hx⟩ := hy
      rw [lN] at hk
      rw [nV_get hk] at hx
      cases hx
      have hv : N.getD k 0 < v.length := by rw [lw]; exact Nlt _ (by rw [getD_get hk]; exact List.getElem_mem hk)
      refine ⟨rfl, .ref p, rfl, .int (N.getD k 0 : Nat), rfl, p, v.map V.int, (N.getD k 0 : Nat), .int (v.getD (N.getD k 0) 0), rfl, rfl, SqT.of (s7 _ _ (s46 _ _ ep4)), atI_nat (by rw [List.getElem?_map, List.getElem?_eq_getElem hv, getD_get hv]; rfl), hC _ (Same.refl _)⟩
    rw [lN] at eD
    have eD2 : H7 D = some (.lst ((N.map fun j => v.getD j 0).map V.int)) := by
      rw [eD, List.map_map]
      congr 2
      apply List.ext_getElem
      · simp
      · intro k h1 h2
        rw [List.length_map, List.length_range] at h1
        simp only [List.getElem_map, List.getElem_range, Function.comp, getD_get h1]
    have nj : ∀ j, j < n → 0 < v.getD j 0 → j ∈ N := fun j hj _ => by
      exact pm.mem_iff.mpr (List.mem_range.mpr hj)
    have lr := lot_re lv Nnd Nlt nj
    have ev := l6.uniq (tab_re tb Nnd Nlt) lr
    refine ⟨D, _, rfl, .inl ⟨SqL.of eD2, fun y ny => ?_⟩⟩
    have s8 := same_upd (o := .tup ((N.map fun j => v.getD j 0).map V.int)) ny
    rw [← ev] at s8 ⊢
    refine ⟨g, y, v6, rfl, s8 _ _ (s7 _ _ e6), upd_same, by rw [l6.len]; omega, lot_small (tab_re tb Nnd Nlt) (by omega) l6, fun H8 s9 => ⟨true, rfl, iteF ?_⟩⟩
    have sA := s46.trans (s7.trans (s8.trans s9))
    have et8 := sA _ _ et4
    have ep8 := sA _ _ ep4
    have D8 := D4.same sA
    clear sA s9 s8 ny ev lr nj eD2 eD s7 nD D s46 l6 e6 s6 g v6 e5 s5 eo4 et4 ep4 D4 t5 H4 H5 H6 H7 lN Nlt Nnd
    -- the support alone
    refine ⟨.ref t, rfl, .ref t, rfl, t, n, a, rfl, SqT.of et8, n1, n9, tb, fun H1 m v2 s1 em l2 => ?_⟩
    have ev := l2.uniq tb lv
    rw [ev] at em
    have Mnd := supp_nd v
    have Mlt : ∀ j ∈ supp v, j < n := fun j hj => by have := (supp_mem.mp hj).1; rw [lw] at this; exact this
    obtain ⟨i0, hi0, hp0⟩ := lv.bald.ps
    have i0M : i0 ∈ supp v := supp_mem.mpr ⟨by rw [lw]; exact hi0, hp0⟩
    have Mne : supp v ≠ [] := fun z => by rw [z] at i0M; simp at i0M
    have M0 : 0 < (supp v).length := List.length_pos_iff.mpr Mne
    have M9 : (supp v).length ≤ 9 := by
      have : (supp v).length ≤ (List.range v.length).length := List.length_filter_le _ _
      rw [List.length_range, lw] at this
      omega
    have Mpw : (supp v).Pairwise (· < ·) := List.Pairwise.sublist List.filter_sublist List.pairwise_lt_range
    refine ⟨t, m, n, a, supp v, rfl, SqT.of (s1 _ _ et8), em, n9, Mne, M9, Mlt, Mpw, fun H2 al s2 ea => ?_⟩
    refine ⟨.ref al, rfl, al, (supp v).length, reA a (supp v), rfl, SqT.of ea, M0, M9, tab_re tb Mnd Mlt, fun H3 g v3 s3 e3 l3 => ?_⟩
    have s13 := s1.trans (s2.trans s3)
    refine ⟨.ref p, rfl, p, rfl, ⟨_, SqT.of (s13 _ _ ep8)⟩, fun D nD => ?_⟩
    refine lc_filter (walk_tup (xs := v.map V.int)) (fun k => decide (0 < v.getD k 0)) (fun k => V.int (v.getD k 0)) (by rw [List.length_map]; exact sz _ (by omega)) nD (fun H' s => SqT.of (s _ _ (s13 _ _ ep8))) (fun k x H4 H5 Nx C hk s4 hy hC hNo => ?_) fun H4 s4 eD => ?_
    · obtain ⟨rfl, hx⟩ := hy
      rw [List.length_map] at hk
      rw [List.getElem?_map, List.getElem?_eq_getElem hk] at hx
      cases hx
      rw [getD_get hk] at hC hNo
      exact ⟨rfl, .int v[k], rfl, v[k], 0, rfl, rfl, _, rfl, ite2 (fun h => ⟨_, rfl, hC h _ (Same.refl _)⟩) (fun h => hNo (Bool.not_eq_true _ ▸ h) _ (Same.refl _))⟩
    rw [List.length_map] at eD
    have eD2 : H4 D = some (.lst (((supp v).map fun j => v.getD j 0).map V.int)) := by
      rw [eD, List.map_map]; rfl
    have lr := lot_re lv Mnd Mlt (fun j hj hp => supp_mem.mpr ⟨by rw [lw]; exact hj, hp⟩)
    have ev3 := l3.uniq (tab_re tb Mnd Mlt) lr
    refine ⟨D, _, rfl, .inl ⟨SqL.of eD2, fun y ny => ?_⟩⟩
    have s8 := same_upd (o := .tup (((supp v).map fun j => v.getD j 0).map V.int)) ny
    rw [← ev3] at s8 ⊢
    refine ⟨g, y, v3, rfl, s8 _ _ (s4 _ _ e3), upd_same, by rw [l3.len]; omega, lot_small (tab_re tb Mnd Mlt) M9 l3, fun H5 s9 => ⟨true, rfl, iteF ?_⟩⟩
    have sA := s13.trans (s4.trans (s8.trans s9))
    have et5 := sA _ _ et8
    have ep5 := sA _ _ ep8
    have D5 := D8.same sA
    clear sA s9 s8 ny ev3 lr eD2 eD s4 nD D s13 l3 e3 s3 ea s2 Mpw M9 M0 Mne i0M hp0 hi0 Mlt Mnd ev em s1 l2 et8 ep8 D8
    -- without, stays
    refine ⟨.ref d, rfl, .ref t, rfl, .ref p, rfl, d, c, u, t, p, B + 310, n, a, v, rfl, D5, by omega, et5, ep5, n1, n9, tb, lv, fun H6 k6 D6 => ⟨true, rfl, iteF ?_⟩⟩
    have et6 := k6.tup D5 et5
    have ep6 := k6.tup D5 ep5
    refine ⟨.ref d, rfl, .ref t, rfl, .ref p, rfl, d, c, u, t, p, _, n, a, rfl, D6, by omega, et6, n1, n9, tb, fun H7 k7 D7 => ⟨true, rfl, iteF ?_⟩⟩
    have et7 := k7.tup D6 et6
    have ep7 := k7.tup D6 ep6
    -- the draws
    refine ⟨6, rfl, by decide, by decide, ?_⟩
    refine for_range (lo := 0) (n := (6 : Int).toNat) (fun j σ H' => ∃ y0 y2 y6 y8 y10 y11, σ = [y0, some (.ref d), y2, some (.ref t), some (.ref p), some (.int (n : Nat)), y6, none, y8, none, y10, y11] ∧ Deck H' d c u (B + 320 + 10 * j) ∧ H' t = some (.tup (tabV n a)) ∧ H' p = some (.tup (v.map V.int)))
      ⟨_, _, _, _, _, _, rfl, D7.mono (by omega), et7, ep7⟩ ?_ ?_
    · rintro j σ H8 hj ⟨z0, z2, z6, z8, z10, z11, rfl, D8, et8, ep8⟩
      have hj6 : j < 6 := hj
      refine ⟨.int (n : Nat), rfl, (n : Nat), rfl, by omega, by omega, fun L nL => ?_⟩
      obtain ⟨xd, hd8⟩ := D8.d
      obtain ⟨xc, hc8⟩ := D8.c
      obtain ⟨xu, hu8⟩ := D8.u
      have Ld : L ≠ d := (ne_of_none hd8 nL).symm
      have Lc : L ≠ c := (ne_of_none hc8 nL).symm
      have Lu : L ≠ u := (ne_of_none hu8 nL).symm
      have sL := same_upd (o := .lst []) nL
      rw [show ((n : Nat) : Int).toNat = n by omega]
      refine lc_it (tt := tYes) (walk_rg n) (fun k H' => Kept d u H8 H' ∧ Deck H' d c u (B + 320 + 10 * j + k) ∧ ∃ ws : List Nat, H' L = some (.lst (nV ws)) ∧ ws.length = k) ⟨Kept.of sL, D8.same sL, [], upd_same, rfl⟩ (fun _ _ _ _ => trivial) (fun k x H9 H10 hk pv y => ?_) fun H9 pv => ?_
      · obtain ⟨k9, D9, ws, eL, lws⟩ := pv
        obtain ⟨rfl, rfl⟩ := y
        refine ⟨rfl, .ref d, rfl, d, c, u, _, 4, rfl, D9, by omega, by omega, by omega, fun H11 r hr k11 D11 => ?_⟩
        have eL11 := k11 _ _ eL Ld Lu
        refine ⟨nV ws, eL11, by rw [nV_len, lws]; exact small1000 (by omega), fun b o hb hbd hbu => ?_, D11.upd Ld Lc Lu, ws ++ [r], by rw [upd_same, nV_app]; rfl, by rw [List.length_append, lws]; rfl⟩
        rw [upd_ne (ne_of_none hb nL)]
        exact k11 _ _ (k9 _ _ hb hbd hbu) hbd hbu
      obtain ⟨k9, D9, ws, eL, lws⟩ := pv
      have et9 := k9.tup D8 et8
      have ep9 := k9.tup D8 ep8
      refine ⟨L, _, rfl, .inl ⟨SqL.of eL, fun dr nd => ?_⟩⟩
      have s10 := same_upd (o := .tup (nV ws)) nd
      have nn : ∀ x ∈ iV ws, (0 : Int) ≤ x := fun x hx => by
        obtain ⟨y, _, rfl⟩ := List.mem_map.mp hx
        omega
      refine ⟨.ref t, rfl, .ref dr, rfl, t, dr, n, a, iV ws, rfl, SqT.of (s10 _ _ et9), by rw [upd_same, iV_map], n1, n9, tb, by unfold iV; rw [List.length_map, lws], nn, fun H11 b s11 hb => ?_⟩
      refine ⟨b, rfl, .ref dr, rfl, .ref p, rfl, ?_⟩
      have edr : H11 dr = some (.tup ((iV ws).map V.int)) := s11 _ _ (by rw [upd_same, iV_map])
      have ep11 := s11 _ _ (s10 _ _ ep9)
      refine eqT (ns := iV ws) (ms := v) (SqT.of edr) (SqT.of ep11) ⟨_, rfl, rfl, ?_⟩
      have ebv : b = decide (iV ws = v) := by
        rw [Bool.eq_iff_iff, hb, decide_eq_true_eq]
        exact ⟨fun h => h.uniq tb lv, fun h => by rw [h]; exact lv⟩
      rw [← ebv]
      refine ⟨_, rfl, ite2 (fun h => ?_) (fun _ => ?_)⟩
      · simp at h
      · exact ⟨_, _, _, _, _, _, rfl, (D9.same (s10.trans s11)).mono (by omega), s11 _ _ (s10 _ _ et9), ep11⟩
    · rintro σ H8 ⟨z0, z2, z6, z8, z10, z11, rfl, D8, et8, ep8⟩
      have e6 : (6 : Int).toNat = 6 := rfl
      rw [e6] at D8
      exact ⟨_, _, _, _, _, _, _, _, _, rfl, D8.mono (by omega)⟩
end
end Du
end
namespace Du
open PySem PySem.Spec PyProof.Rows L2 Duel
theorem all_mk {l : PySem.W.OpenLaw} {w : World} {K : PySem.W.Frag} {h : Heap} {mg : Str → Option Value} {fa : Addr} (X : K.In h) (G : h.Ns mainGlobals mg) (hfa : mg "law" = some (.ref fa))
    {f0 : Addr} {od0 an0 : Option Addr} {sl0 : Array (Option Value)} {oc0 kV0 dc0 pm0 cd0 ct0 : Value}
    (a0 : PySem.W.nsIn K mainGlobals "is_alternative" = some (some (.ref f0))) (l0 : K.lookup f0 = some ⟨oc0, od0, .func (PySem.W.fnOf "is_alternative" "is_alternative" (defArgs s_is_alternative) (defBody s_is_alternative) (defScope s_is_alternative) .none kV0 dc0 pm0 an0 cd0 ct0), sl0⟩) (c0 : PySem.W.codeIn K cd0 "is_alternative" = true) (k0 : PySem.W.keepIn K (.ref f0) = true)
    {f1 : Addr} {od1 an1 : Option Addr} {sl1 : Array (Option Value)} {oc1 kV1 dc1 pm1 cd1 ct1 : Value}
    (a1 : PySem.W.nsIn K mainGlobals "require_alternative" = some (some (.ref f1))) (l1 : K.lookup f1 = some ⟨oc1, od1, .func (PySem.W.fnOf "require_alternative" "require_alternative" (defArgs s_require_alternative) (defBody s_require_alternative) (defScope s_require_alternative) .none kV1 dc1 pm1 an1 cd1 ct1), sl1⟩) (c1 : PySem.W.codeIn K cd1 "require_alternative" = true) (k1 : PySem.W.keepIn K (.ref f1) = true)
    {f2 : Addr} {od2 an2 : Option Addr} {sl2 : Array (Option Value)} {oc2 kV2 dc2 pm2 cd2 ct2 : Value}
    (a2 : PySem.W.nsIn K mainGlobals "is_set" = some (some (.ref f2))) (l2 : K.lookup f2 = some ⟨oc2, od2, .func (PySem.W.fnOf "is_set" "is_set" (defArgs s_is_set) (defBody s_is_set) (defScope s_is_set) .none kV2 dc2 pm2 an2 cd2 ct2), sl2⟩) (c2 : PySem.W.codeIn K cd2 "is_set" = true) (k2 : PySem.W.keepIn K (.ref f2) = true)
    {f3 : Addr} {od3 an3 : Option Addr} {sl3 : Array (Option Value)} {oc3 kV3 dc3 pm3 cd3 ct3 : Value}
    (a3 : PySem.W.nsIn K mainGlobals "reordered" = some (some (.ref f3))) (l3 : K.lookup f3 = some ⟨oc3, od3, .func (PySem.W.fnOf "reordered" "reordered" (defArgs s_reordered) (defBody s_reordered) (defScope s_reordered) .none kV3 dc3 pm3 an3 cd3 ct3), sl3⟩) (c3 : PySem.W.codeIn K cd3 "reordered" = true) (k3 : PySem.W.keepIn K (.ref f3) = true)
    {f4 : Addr} {od4 an4 : Option Addr} {sl4 : Array (Option Value)} {oc4 kV4 dc4 pm4 cd4 ct4 : Value}
    (a4 : PySem.W.nsIn K mainGlobals "restrict_table" = some (some (.ref f4))) (l4 : K.lookup f4 = some ⟨oc4, od4, .func (PySem.W.fnOf "restrict_table" "restrict_table" (defArgs s_restrict_table) (defBody s_restrict_table) (defScope s_restrict_table) .none kV4 dc4 pm4 an4 cd4 ct4), sl4⟩) (c4 : PySem.W.codeIn K cd4 "restrict_table" = true) (k4 : PySem.W.keepIn K (.ref f4) = true)
    {f5 : Addr} {od5 an5 : Option Addr} {sl5 : Array (Option Value)} {oc5 kV5 dc5 pm5 cd5 ct5 : Value}
    (a5 : PySem.W.nsIn K mainGlobals "with_sign" = some (some (.ref f5))) (l5 : K.lookup f5 = some ⟨oc5, od5, .func (PySem.W.fnOf "with_sign" "with_sign" (defArgs s_with_sign) (defBody s_with_sign) (defScope s_with_sign) .none kV5 dc5 pm5 an5 cd5 ct5), sl5⟩) (c5 : PySem.W.codeIn K cd5 "with_sign" = true) (k5 : PySem.W.keepIn K (.ref f5) = true)
    {f6 : Addr} {od6 an6 : Option Addr} {sl6 : Array (Option Value)} {oc6 kV6 dc6 pm6 cd6 ct6 : Value}
    (a6 : PySem.W.nsIn K mainGlobals "turn_duel" = some (some (.ref f6))) (l6 : K.lookup f6 = some ⟨oc6, od6, .func (PySem.W.fnOf "turn_duel" "turn_duel" (defArgs s_turn_duel) (defBody s_turn_duel) (defScope s_turn_duel) .none kV6 dc6 pm6 an6 cd6 ct6), sl6⟩) (c6 : PySem.W.codeIn K cd6 "turn_duel" = true) (k6 : PySem.W.keepIn K (.ref f6) = true)
    {f7 : Addr} {od7 an7 : Option Addr} {sl7 : Array (Option Value)} {oc7 kV7 dc7 pm7 cd7 ct7 : Value}
    (a7 : PySem.W.nsIn K mainGlobals "relabel_table" = some (some (.ref f7))) (l7 : K.lookup f7 = some ⟨oc7, od7, .func (PySem.W.fnOf "relabel_table" "relabel_table" (defArgs s_relabel_table) (defBody s_relabel_table) (defScope s_relabel_table) .none kV7 dc7 pm7 an7 cd7 ct7), sl7⟩) (c7 : PySem.W.codeIn K cd7 "relabel_table" = true) (k7 : PySem.W.keepIn K (.ref f7) = true)
    {f8 : Addr} {od8 an8 : Option Addr} {sl8 : Array (Option Value)} {oc8 kV8 dc8 pm8 cd8 ct8 : Value}
    (a8 : PySem.W.nsIn K mainGlobals "all_sets" = some (some (.ref f8))) (l8 : K.lookup f8 = some ⟨oc8, od8, .func (PySem.W.fnOf "all_sets" "all_sets" (defArgs s_all_sets) (defBody s_all_sets) (defScope s_all_sets) .none kV8 dc8 pm8 an8 cd8 ct8), sl8⟩) (c8 : PySem.W.codeIn K cd8 "all_sets" = true) (k8 : PySem.W.keepIn K (.ref f8) = true)
    {f9 : Addr} {od9 an9 : Option Addr} {sl9 : Array (Option Value)} {oc9 kV9 dc9 pm9 cd9 ct9 : Value}
    (a9 : PySem.W.nsIn K mainGlobals "sign_of" = some (some (.ref f9))) (l9 : K.lookup f9 = some ⟨oc9, od9, .func (PySem.W.fnOf "sign_of" "sign_of" (defArgs s_sign_of) (defBody s_sign_of) (defScope s_sign_of) .none kV9 dc9 pm9 an9 cd9 ct9), sl9⟩) (c9 : PySem.W.codeIn K cd9 "sign_of" = true) (k9 : PySem.W.keepIn K (.ref f9) = true)
    {f10 : Addr} {od10 an10 : Option Addr} {sl10 : Array (Option Value)} {oc10 kV10 dc10 pm10 cd10 ct10 : Value}
    (a10 : PySem.W.nsIn K mainGlobals "balances" = some (some (.ref f10))) (l10 : K.lookup f10 = some ⟨oc10, od10, .func (PySem.W.fnOf "balances" "balances" (defArgs s_balances) (defBody s_balances) (defScope s_balances) .none kV10 dc10 pm10 an10 cd10 ct10), sl10⟩) (c10 : PySem.W.codeIn K cd10 "balances" = true) (k10 : PySem.W.keepIn K (.ref f10) = true)
    {f11 : Addr} {od11 an11 : Option Addr} {sl11 : Array (Option Value)} {oc11 kV11 dc11 pm11 cd11 ct11 : Value}
    (a11 : PySem.W.nsIn K mainGlobals "greatest_divisor" = some (some (.ref f11))) (l11 : K.lookup f11 = some ⟨oc11, od11, .func (PySem.W.fnOf "greatest_divisor" "greatest_divisor" (defArgs s_greatest_divisor) (defBody s_greatest_divisor) (defScope s_greatest_divisor) .none kV11 dc11 pm11 an11 cd11 ct11), sl11⟩) (c11 : PySem.W.codeIn K cd11 "greatest_divisor" = true) (k11 : PySem.W.keepIn K (.ref f11) = true)
    {f12 : Addr} {od12 an12 : Option Addr} {sl12 : Array (Option Value)} {oc12 kV12 dc12 pm12 cd12 ct12 : Value}
    (a12 : PySem.W.nsIn K mainGlobals "is_weights" = some (some (.ref f12))) (l12 : K.lookup f12 = some ⟨oc12, od12, .func (PySem.W.fnOf "is_weights" "is_weights" (defArgs s_is_weights) (defBody s_is_weights) (defScope s_is_weights) .none kV12 dc12 pm12 an12 cd12 ct12), sl12⟩) (c12 : PySem.W.codeIn K cd12 "is_weights" = true) (k12 : PySem.W.keepIn K (.ref f12) = true)
    {f13 : Addr} {od13 an13 : Option Addr} {sl13 : Array (Option Value)} {oc13 kV13 dc13 pm13 cd13 ct13 : Value}
    (a13 : PySem.W.nsIn K mainGlobals "is_lottery" = some (some (.ref f13))) (l13 : K.lookup f13 = some ⟨oc13, od13, .func (PySem.W.fnOf "is_lottery" "is_lottery" (defArgs s_is_lottery) (defBody s_is_lottery) (defScope s_is_lottery) .none kV13 dc13 pm13 an13 cd13 ct13), sl13⟩) (c13 : PySem.W.codeIn K cd13 "is_lottery" = true) (k13 : PySem.W.keepIn K (.ref f13) = true)
    {f14 : Addr} {od14 an14 : Option Addr} {sl14 : Array (Option Value)} {oc14 kV14 dc14 pm14 cd14 ct14 : Value}
    (a14 : PySem.W.nsIn K mainGlobals "pairing_numbers" = some (some (.ref f14))) (l14 : K.lookup f14 = some ⟨oc14, od14, .func (PySem.W.fnOf "pairing_numbers" "pairing_numbers" (defArgs s_pairing_numbers) (defBody s_pairing_numbers) (defScope s_pairing_numbers) .none kV14 dc14 pm14 an14 cd14 ct14), sl14⟩) (c14 : PySem.W.codeIn K cd14 "pairing_numbers" = true) (k14 : PySem.W.keepIn K (.ref f14) = true)
    {f15 : Addr} {od15 an15 : Option Addr} {sl15 : Array (Option Value)} {oc15 kV15 dc15 pm15 cd15 ct15 : Value}
    (a15 : PySem.W.nsIn K mainGlobals "level_weights" = some (some (.ref f15))) (l15 : K.lookup f15 = some ⟨oc15, od15, .func (PySem.W.fnOf "level_weights" "level_weights" (defArgs s_level_weights) (defBody s_level_weights) (defScope s_level_weights) .none kV15 dc15 pm15 an15 cd15 ct15), sl15⟩) (c15 : PySem.W.codeIn K cd15 "level_weights" = true) (k15 : PySem.W.keepIn K (.ref f15) = true)
    {f16 : Addr} {od16 an16 : Option Addr} {sl16 : Array (Option Value)} {oc16 kV16 dc16 pm16 cd16 ct16 : Value}
    (a16 : PySem.W.nsIn K mainGlobals "whole_weights" = some (some (.ref f16))) (l16 : K.lookup f16 = some ⟨oc16, od16, .func (PySem.W.fnOf "whole_weights" "whole_weights" (defArgs s_whole_weights) (defBody s_whole_weights) (defScope s_whole_weights) .none kV16 dc16 pm16 an16 cd16 ct16), sl16⟩) (c16 : PySem.W.codeIn K cd16 "whole_weights" = true) (k16 : PySem.W.keepIn K (.ref f16) = true)
    {f17 : Addr} {od17 an17 : Option Addr} {sl17 : Array (Option Value)} {oc17 kV17 dc17 pm17 cd17 ct17 : Value}
    (a17 : PySem.W.nsIn K mainGlobals "lottery" = some (some (.ref f17))) (l17 : K.lookup f17 = some ⟨oc17, od17, .func (PySem.W.fnOf "lottery" "lottery" (defArgs s_lottery) (defBody s_lottery) (defScope s_lottery) .none kV17 dc17 pm17 an17 cd17 ct17), sl17⟩) (c17 : PySem.W.codeIn K cd17 "lottery" = true) (k17 : PySem.W.keepIn K (.ref f17) = true)
    {f18 : Addr} {od18 an18 : Option Addr} {sl18 : Array (Option Value)} {oc18 kV18 dc18 pm18 cd18 ct18 : Value}
    (a18 : PySem.W.nsIn K mainGlobals "support" = some (some (.ref f18))) (l18 : K.lookup f18 = some ⟨oc18, od18, .func (PySem.W.fnOf "support" "support" (defArgs s_support) (defBody s_support) (defScope s_support) .none kV18 dc18 pm18 an18 cd18 ct18), sl18⟩) (c18 : PySem.W.codeIn K cd18 "support" = true) (k18 : PySem.W.keepIn K (.ref f18) = true)
    {f19 : Addr} {od19 an19 : Option Addr} {sl19 : Array (Option Value)} {oc19 kV19 dc19 pm19 cd19 ct19 : Value}
    (a19 : PySem.W.nsIn K mainGlobals "_law_deck" = some (some (.ref f19))) (l19 : K.lookup f19 = some ⟨oc19, od19, .func (PySem.W.fnOf "_law_deck" "_law_deck" (defArgs s_l_deck) (defBody s_l_deck) (defScope s_l_deck) .none kV19 dc19 pm19 an19 cd19 ct19), sl19⟩) (c19 : PySem.W.codeIn K cd19 "_law_deck" = true) (k19 : PySem.W.keepIn K (.ref f19) = true)
    {f20 : Addr} {od20 an20 : Option Addr} {sl20 : Array (Option Value)} {oc20 kV20 dc20 pm20 cd20 ct20 : Value}
    (a20 : PySem.W.nsIn K mainGlobals "_law_draw" = some (some (.ref f20))) (l20 : K.lookup f20 = some ⟨oc20, od20, .func (PySem.W.fnOf "_law_draw" "_law_draw" (defArgs s_l_draw) (defBody s_l_draw) (defScope s_l_draw) .none kV20 dc20 pm20 an20 cd20 ct20), sl20⟩) (c20 : PySem.W.codeIn K cd20 "_law_draw" = true) (k20 : PySem.W.keepIn K (.ref f20) = true)
    {f21 : Addr} {od21 an21 : Option Addr} {sl21 : Array (Option Value)} {oc21 kV21 dc21 pm21 cd21 ct21 : Value}
    (a21 : PySem.W.nsIn K mainGlobals "_law_mixed" = some (some (.ref f21))) (l21 : K.lookup f21 = some ⟨oc21, od21, .func (PySem.W.fnOf "_law_mixed" "_law_mixed" (defArgs s_l_mixed) (defBody s_l_mixed) (defScope s_l_mixed) .none kV21 dc21 pm21 an21 cd21 ct21), sl21⟩) (c21 : PySem.W.codeIn K cd21 "_law_mixed" = true) (k21 : PySem.W.keepIn K (.ref f21) = true)
    {f22 : Addr} {od22 an22 : Option Addr} {sl22 : Array (Option Value)} {oc22 kV22 dc22 pm22 cd22 ct22 : Value}
    (a22 : PySem.W.nsIn K mainGlobals "_law_table" = some (some (.ref f22))) (l22 : K.lookup f22 = some ⟨oc22, od22, .func (PySem.W.fnOf "_law_table" "_law_table" (defArgs s_l_table) (defBody s_l_table) (defScope s_l_table) .none kV22 dc22 pm22 an22 cd22 ct22), sl22⟩) (c22 : PySem.W.codeIn K cd22 "_law_table" = true) (k22 : PySem.W.keepIn K (.ref f22) = true)
    {f23 : Addr} {od23 an23 : Option Addr} {sl23 : Array (Option Value)} {oc23 kV23 dc23 pm23 cd23 ct23 : Value}
    (a23 : PySem.W.nsIn K mainGlobals "_law_same" = some (some (.ref f23))) (l23 : K.lookup f23 = some ⟨oc23, od23, .func (PySem.W.fnOf "_law_same" "_law_same" (defArgs s_l_same) (defBody s_l_same) (defScope s_l_same) .none kV23 dc23 pm23 an23 cd23 ct23), sl23⟩) (c23 : PySem.W.codeIn K cd23 "_law_same" = true) (k23 : PySem.W.keepIn K (.ref f23) = true)
    {f24 : Addr} {od24 an24 : Option Addr} {sl24 : Array (Option Value)} {oc24 kV24 dc24 pm24 cd24 ct24 : Value}
    (a24 : PySem.W.nsIn K mainGlobals "_law_without" = some (some (.ref f24))) (l24 : K.lookup f24 = some ⟨oc24, od24, .func (PySem.W.fnOf "_law_without" "_law_without" (defArgs s_l_without) (defBody s_l_without) (defScope s_l_without) .none kV24 dc24 pm24 an24 cd24 ct24), sl24⟩) (c24 : PySem.W.codeIn K cd24 "_law_without" = true) (k24 : PySem.W.keepIn K (.ref f24) = true)
    {f25 : Addr} {od25 an25 : Option Addr} {sl25 : Array (Option Value)} {oc25 kV25 dc25 pm25 cd25 ct25 : Value}
    (a25 : PySem.W.nsIn K mainGlobals "_law_stays" = some (some (.ref f25))) (l25 : K.lookup f25 = some ⟨oc25, od25, .func (PySem.W.fnOf "_law_stays" "_law_stays" (defArgs s_l_stays) (defBody s_l_stays) (defScope s_l_stays) .none kV25 dc25 pm25 an25 cd25 ct25), sl25⟩) (c25 : PySem.W.codeIn K cd25 "_law_stays" = true) (k25 : PySem.W.keepIn K (.ref f25) = true)
    {f26 : Addr} {od26 an26 : Option Addr} {sl26 : Array (Option Value)} {oc26 kV26 dc26 pm26 cd26 ct26 : Value}
    (a26 : PySem.W.nsIn K mainGlobals "law" = some (some (.ref f26))) (l26 : K.lookup f26 = some ⟨oc26, od26, .func (PySem.W.fnOf "law" "law" (defArgs s_law) (defBody s_law) (defScope s_law) .none kV26 dc26 pm26 an26 cd26 ct26), sl26⟩) (c26 : PySem.W.codeIn K cd26 "law" = true) (k26 : PySem.W.keepIn K (.ref f26) = true)
    (z_len : PySem.W.nsIn K mainGlobals "len" = some none)
    (z_range : PySem.W.nsIn K mainGlobals "range" = some none)
    (z_sorted : PySem.W.nsIn K mainGlobals "sorted" = some none)
    (z_tuple : PySem.W.nsIn K mainGlobals "tuple" = some none)
    (z_zip : PySem.W.nsIn K mainGlobals "zip" = some none)
    (z_enumerate : PySem.W.nsIn K mainGlobals "enumerate" = some none)
    (z_all : PySem.W.nsIn K mainGlobals "all" = some none)
    (z_sum : PySem.W.nsIn K mainGlobals "sum" = some none)
    (z_max : PySem.W.nsIn K mainGlobals "max" = some none)
    (z_abs : PySem.W.nsIn K mainGlobals "abs" = some none)
    (z_isinstance : PySem.W.nsIn K mainGlobals "isinstance" = some none)
    (z_int : PySem.W.nsIn K mainGlobals "int" = some none)
    (z_bool : PySem.W.nsIn K mainGlobals "bool" = some none)
    (z_set : PySem.W.nsIn K mainGlobals "set" = some none)
    (z_list : PySem.W.nsIn K mainGlobals "list" = some none)
    (z_repr : PySem.W.nsIn K mainGlobals "repr" = some none)
    {dS : Addr} {es : Array DictEntry} {en : Nat} {t1 t2 t3 : Tok} (zS : PySem.W.nsIn K mainGlobals "SIGNS" = some (some (.ref dS))) (zL : K.lookup dS = some ⟨.type "dict", none, .dict es en, #[]⟩) (zK : PySem.W.KeysLit w.params es.toList)
    (zp : PySem.W.nsIn K dS "+" = some (some (.int 1 t1))) (zm : PySem.W.nsIn K dS "-" = some (some (.int (-1) t2))) (zd : PySem.W.nsIn K dS "." = some (some (.int 0 t3))) :
    ∃ fd : FuncData, (∀ (s : Shared) (v : Value), BindsTo s fd ⟨[v], []⟩ [("_law_script", v)]) ∧ ∀ base : Heap, K.In base → base.Ns mainGlobals mg → FnOk l.prog w K mg base CX0 20 fa fd ["_law_script"] (spLaw K) := by
  have T : Txt K mg w := txt_mk X G ⟨_, _, _, _, _, _, _, _, _, _, a0, l0, c0, k0⟩ ⟨_, _, _, _, _, _, _, _, _, _, a1, l1, c1, k1⟩ ⟨_, _, _, _, _, _, _, _, _, _, a2, l2, c2, k2⟩ ⟨_, _, _, _, _, _, _, _, _, _, a3, l3, c3, k3⟩ ⟨_, _, _, _, _, _, _, _, _, _, a4, l4, c4, k4⟩ ⟨_, _, _, _, _, _, _, _, _, _, a5, l5, c5, k5⟩ ⟨_, _, _, _, _, _, _, _, _, _, a6, l6, c6, k6⟩ ⟨_, _, _, _, _, _, _, _, _, _, a7, l7, c7, k7⟩ ⟨_, _, _, _, _, _, _, _, _, _, a8, l8, c8, k8⟩ ⟨_, _, _, _, _, _, _, _, _, _, a9, l9, c9, k9⟩ ⟨_, _, _, _, _, _, _, _, _, _, a10, l10, c10, k10⟩ ⟨_, _, _, _, _, _, _, _, _, _, a11, l11, c11, k11⟩ ⟨_, _, _, _, _, _, _, _, _, _, a12, l12, c12, k12⟩ ⟨_, _, _, _, _, _, _, _, _, _, a13, l13, c13, k13⟩ ⟨_, _, _, _, _, _, _, _, _, _, a14, l14, c14, k14⟩ ⟨_, _, _, _, _, _, _, _, _, _, a15, l15, c15, k15⟩ ⟨_, _, _, _, _, _, _, _, _, _, a16, l16, c16, k16⟩ ⟨_, _, _, _, _, _, _, _, _, _, a17, l17, c17, k17⟩ ⟨_, _, _, _, _, _, _, _, _, _, a18, l18, c18, k18⟩ ⟨_, _, _, _, _, _, _, _, _, _, a19, l19, c19, k19⟩ ⟨_, _, _, _, _, _, _, _, _, _, a20, l20, c20, k20⟩ ⟨_, _, _, _, _, _, _, _, _, _, a21, l21, c21, k21⟩ ⟨_, _, _, _, _, _, _, _, _, _, a22, l22, c22, k22⟩ ⟨_, _, _, _, _, _, _, _, _, _, a23, l23, c23, k23⟩ ⟨_, _, _, _, _, _, _, _, _, _, a24, l24, c24, k24⟩ ⟨_, _, _, _, _, _, _, _, _, _, a25, l25, c25, k25⟩ ⟨_, _, _, _, _, _, _, _, _, _, a26, l26, c26, k26⟩ z_len z_range z_sorted z_tuple z_zip z_enumerate z_all z_sum z_max z_abs z_isinstance z_int z_bool z_set z_list z_repr ⟨dS, zS, ⟨es, en, _, zL, zK, zp, t1, rfl⟩, ⟨es, en, _, zL, zK, zm, t2, rfl⟩, ⟨es, en, _, zL, zK, zd, t3, rfl⟩⟩
  obtain ⟨f, fd, hm, hb, hF⟩ := ok_law (P := l.prog) T
  have e : f = fa := by
    rw [hfa] at hm
    exact (Value.ref.inj (Option.some.inj hm)).symm
  subst e
  exact ⟨fd, hb, fun base _ _ => hF base⟩
end Du
open PySem PySem.W PyProof.Rows
set_option maxRecDepth 100000 in
set_option maxHeartbeats 0 in
theorem PySem.Challenge.cw_duelsets_k24_whole_only_one_lottery_holds : PySem.Challenge.rw_duelsets_k24_whole_only_one_lottery.Holds := by
  w_on; o_law; k_head; (case hw => w_witness2)
  k_fill
  refine L2.walk_of (l := PySem.Challenge.rw_duelsets_k24_whole_only_one_lottery) (n := 63) (k := 20) (x := "_law_script") (CX := fun _ => L2.CX0) (sp := fun w => Du.spLaw _) rfl (by decide) rfl ⟨rfl, by decide, by decide⟩ (fun w h Y => PySem.W.kIn_of Y) ?F (fun _ _ a ns hl _ hS => ⟨a, ns, rfl, hS, hl, fun _ => rfl⟩) (fun _ _ _ _ _ h => h)
  case F =>
    intro w mg fa h KX G hmg
    refine' Du.all_mk KX G hmg ?a0 ?l0 ?c0 ?k0 ?a1 ?l1 ?c1 ?k1 ?a2 ?l2 ?c2 ?k2 ?a3 ?l3 ?c3 ?k3 ?a4 ?l4 ?c4 ?k4 ?a5 ?l5 ?c5 ?k5 ?a6 ?l6 ?c6 ?k6 ?a7 ?l7 ?c7 ?k7 ?a8 ?l8 ?c8 ?k8 ?a9 ?l9 ?c9 ?k9 ?a10 ?l10 ?c10 ?k10 ?a11 ?l11 ?c11 ?k11 ?a12 ?l12 ?c12 ?k12 ?a13 ?l13 ?c13 ?k13 ?a14 ?l14 ?c14 ?k14 ?a15 ?l15 ?c15 ?k15 ?a16 ?l16 ?c16 ?k16 ?a17 ?l17 ?c17 ?k17 ?a18 ?l18 ?c18 ?k18 ?a19 ?l19 ?c19 ?k19 ?a20 ?l20 ?c20 ?k20 ?a21 ?l21 ?c21 ?k21 ?a22 ?l22 ?c22 ?k22 ?a23 ?l23 ?c23 ?k23 ?a24 ?l24 ?c24 ?k24 ?a25 ?l25 ?c25 ?k25 ?a26 ?l26 ?c26 ?k26 ?z_len ?z_range ?z_sorted ?z_tuple ?z_zip ?z_enumerate ?z_all ?z_sum ?z_max ?z_abs ?z_isinstance ?z_int ?z_bool ?z_set ?z_list ?z_repr ?zS ?zL ?zK ?zp ?zm ?zd
    (case a0 => k_is); (case l0 => k_is); (case c0 => k_is); (case k0 => k_is)
    (case a1 => k_is); (case l1 => k_is); (case c1 => k_is); (case k1 => k_is)
    (case a2 => k_is); (case l2 => k_is); (case c2 => k_is); (case k2 => k_is)
    (case a3 => k_is); (case l3 => k_is); (case c3 => k_is); (case k3 => k_is)
    (case a4 => k_is); (case l4 => k_is); (case c4 => k_is); (case k4 => k_is)
    (case a5 => k_is); (case l5 => k_is); (case c5 => k_is); (case k5 => k_is)
    (case a6 => k_is); (case l6 => k_is); (case c6 => k_is); (case k6 => k_is)
    (case a7 => k_is); (case l7 => k_is); (case c7 => k_is); (case k7 => k_is)
    (case a8 => k_is); (case l8 => k_is); (case c8 => k_is); (case k8 => k_is)
    (case a9 => k_is); (case l9 => k_is); (case c9 => k_is); (case k9 => k_is)
    (case a10 => k_is); (case l10 => k_is); (case c10 => k_is); (case k10 => k_is)
    (case a11 => k_is); (case l11 => k_is); (case c11 => k_is); (case k11 => k_is)
    (case a12 => k_is); (case l12 => k_is); (case c12 => k_is); (case k12 => k_is)
    (case a13 => k_is); (case l13 => k_is); (case c13 => k_is); (case k13 => k_is)
    (case a14 => k_is); (case l14 => k_is); (case c14 => k_is); (case k14 => k_is)
    (case a15 => k_is); (case l15 => k_is); (case c15 => k_is); (case k15 => k_is)
    (case a16 => k_is); (case l16 => k_is); (case c16 => k_is); (case k16 => k_is)
    (case a17 => k_is); (case l17 => k_is); (case c17 => k_is); (case k17 => k_is)
    (case a18 => k_is); (case l18 => k_is); (case c18 => k_is); (case k18 => k_is)
    (case a19 => k_is); (case l19 => k_is); (case c19 => k_is); (case k19 => k_is)
    (case a20 => k_is); (case l20 => k_is); (case c20 => k_is); (case k20 => k_is)
    (case a21 => k_is); (case l21 => k_is); (case c21 => k_is); (case k21 => k_is)
    (case a22 => k_is); (case l22 => k_is); (case c22 => k_is); (case k22 => k_is)
    (case a23 => k_is); (case l23 => k_is); (case c23 => k_is); (case k23 => k_is)
    (case a24 => k_is); (case l24 => k_is); (case c24 => k_is); (case k24 => k_is)
    (case a25 => k_is); (case l25 => k_is); (case c25 => k_is); (case k25 => k_is)
    (case a26 => k_is); (case l26 => k_is); (case c26 => k_is); (case k26 => k_is)
    (case z_len => k_is)
    (case z_range => k_is)
    (case z_sorted => k_is)
    (case z_tuple => k_is)
    (case z_zip => k_is)
    (case z_enumerate => k_is)
    (case z_all => k_is)
    (case z_sum => k_is)
    (case z_max => k_is)
    (case z_abs => k_is)
    (case z_isinstance => k_is)
    (case z_int => k_is)
    (case z_bool => k_is)
    (case z_set => k_is)
    (case z_list => k_is)
    (case z_repr => k_is)
    (case zS => k_is); (case zL => k_is); (case zp => k_is); (case zm => k_is); (case zd => k_is)
    (case zK => exact ⟨⟨_, _, rfl, rfl⟩, ⟨_, _, rfl, rfl⟩, ⟨_, _, rfl, rfl⟩, trivial⟩)
