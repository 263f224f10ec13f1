import PyProof.Rows.All
import Wide.All
import OpenK.AllK
import Wide.FinOn
import PyProof.EqAt
import PyProof.EqKinds
import PyProof.TupleCall
import Open.SpecLaws
import KE.OsGo
import HandS.ForSpec
import HandS.ForMost
import HandS.Walk
import HandS.ExcField
import HandS.ExcInit
import PySem.Challenge.RW_drawnoils_s01_answers
set_option Elab.async false
set_option linter.all false
set_option maxRecDepth 100000
set_option maxHeartbeats 4000000
/-! The plain law, no program in sight: what the code computes, told by the specification's own functions. -/
namespace Dn
open Si83
/-! ### fractions -/
theorem gcd_step (a b : Nat) : Nat.gcd b (a % b) = Nat.gcd a b := by
  rw [Nat.gcd_comm a b, Nat.gcd_rec b a, Nat.gcd_comm]
theorem lowest_eq {n d : Nat} (h : 0 < d) : lowest n d = ⟨n / Nat.gcd d n, d / Nat.gcd d n⟩ := by
  have g : Nat.gcd n d ≠ 0 := fun e => by
    have := Nat.eq_zero_of_gcd_eq_zero_right e
    omega
  unfold lowest
  rw [Nat.gcd_comm d n]
  simp only [g, if_false]
theorem lowest_n {n d : Nat} (h : 0 < d) : (lowest n d).n ≤ n := by
  rw [lowest_eq h]
  exact Nat.div_le_self _ _
theorem lowest_d {n d : Nat} (h : 0 < d) : (lowest n d).d ≤ d := by
  rw [lowest_eq h]
  exact Nat.div_le_self _ _
theorem less_lowest (x : Part) {p q : Nat} (h : 0 < q) : less x (lowest p q) = less x ⟨p, q⟩ := by
  rw [lowest_eq h]
  unfold less
  have g : 0 < Nat.gcd q p := Nat.gcd_pos_of_pos_left _ h
  have e1 : q / Nat.gcd q p * Nat.gcd q p = q := Nat.div_mul_cancel (Nat.gcd_dvd_left q p)
  have e2 : p / Nat.gcd q p * Nat.gcd q p = p := Nat.div_mul_cancel (Nat.gcd_dvd_right q p)
  have key : x.n * (q / Nat.gcd q p) < p / Nat.gcd q p * x.d ↔ x.n * q < p * x.d := by
    generalize Nat.gcd q p = G at *
    generalize q / G = q' at *
    generalize p / G = p' at *
    subst e1 e2
    rw [show x.n * (q' * G) = (x.n * q') * G from (Nat.mul_assoc _ _ _).symm, show p' * G * x.d = (p' * x.d) * G from Nat.mul_right_comm _ _ _]
    exact (Nat.mul_lt_mul_right g).symm
  exact decide_eq_decide.mpr key
theorem less_irr (x : Part) : less x x = false := by
  unfold less
  exact decide_eq_false (Nat.lt_irrefl _)
/-! ### an order as the calls leave it -/
structure OkM (m : Material) : Prop where
  len : m.parts.length = 3
  part : ∀ x ∈ m.parts, x ≤ 1000
  want : m.wanted ≤ m.most
  most : m.most ≤ 6
structure OkO (o : Order) : Prop where
  len : o.bounds.length = 3
  bound : ∀ x ∈ o.bounds, x ≤ 10000
  cnt : o.materials.length ≤ 4
  mat : ∀ m ∈ o.materials, OkM m
theorem ok_init : OkO init := ⟨rfl, by decide, by decide, fun _ h => nomatch h⟩
theorem OkO.at_ {o : Order} (h : OkO o) {i : Nat} (hi : i < o.count) : OkM (o.material i) := by
  have hi' : i < o.materials.length := hi
  have e : o.material i = o.materials[i] := by
    unfold Order.material
    rw [List.getD_eq_getElem?_getD, List.getElem?_eq_getElem hi']
    rfl
  rw [e]
  exact h.mat _ (List.getElem_mem hi')
theorem mat_get {o : Order} {i : Nat} (hi : i < o.count) : o.materials[i]? = some (o.material i) := by
  have hi' : i < o.materials.length := hi
  unfold Order.material
  rw [List.getD_eq_getElem?_getD, List.getElem?_eq_getElem hi']
  rfl
theorem get_of {l : List Nat} {i : Nat} (hi : i < l.length) : l[i]? = some (l.getD i 0) := by
  rw [List.getD_eq_getElem?_getD, List.getElem?_eq_getElem hi]
  rfl
theorem getD_mem {l : List Nat} {i : Nat} (hi : i < l.length) : l.getD i 0 ∈ l := by
  rw [List.getD_eq_getElem?_getD, List.getElem?_eq_getElem hi]
  exact List.getElem_mem hi
/-! ### sums -/
theorem sum_le {f : Nat → Nat} {b : Nat} : ∀ n : Nat, (∀ i, i < n → f i ≤ b) → ((List.range n).map f).sum ≤ n * b
  | 0, _ => Nat.le_of_eq (by simp)
  | n + 1, h => by
    have ih := sum_le (f := f) (b := b) n fun i hi => h i (Nat.lt_succ_of_lt hi)
    have hn := h n (Nat.lt_succ_self n)
    rw [List.range_succ, List.map_append, List.sum_append]
    have e : (n + 1) * b = n * b + b := Nat.succ_mul n b
    rw [e]
    simp only [List.map_cons, List.map_nil, List.sum_cons, List.sum_nil]
    omega
theorem range_map_getD (l : List Nat) : (List.range l.length).map (fun i => l.getD i 0) = l := by
  apply List.ext_getElem
  · simp
  · intro i h1 h2
    simp [List.getD_eq_getElem?_getD, h2]
theorem sum_le_all {l : List Nat} {b : Nat} (h : ∀ x ∈ l, x ≤ b) : l.sum ≤ l.length * b := by
  induction l with
  | nil => exact Nat.zero_le _
  | cons a r ih =>
    have h1 := h a List.mem_cons_self
    have h2 := ih fun x hx => h x (List.mem_cons_of_mem _ hx)
    rw [List.sum_cons, List.length_cons, Nat.succ_mul]
    omega
theorem sum_cast (l : List Nat) : ((l.map fun n : Nat => (n : Int)).sum : Int) = ((l.sum : Nat) : Int) := by
  induction l with
  | nil => rfl
  | cons a r ih =>
    rw [List.map_cons, List.sum_cons, List.sum_cons, ih]
    exact (Int.natCast_add a r.sum).symm
/-! ### formulas -/
structure OkF (o : Order) (l : List Nat) : Prop where
  len : l.length = o.count
  le : ∀ i, i < o.count → l.getD i 0 ≤ (o.material i).most
  pos : 0 < l.sum
theorem right_iff {o : Order} {l : List Nat} : o.right l = true ↔ OkF o l := by
  unfold Order.right Order.told
  simp only [Bool.and_eq_true, beq_iff_eq, List.all_eq_true, decide_eq_true_eq, List.mem_range]
  exact ⟨fun ⟨a, b, c⟩ => ⟨a, b, c⟩, fun ⟨a, b, c⟩ => ⟨a, b, c⟩⟩
theorem OkF.le6 {o : Order} {l : List Nat} (h : OkF o l) (ok : OkO o) : ∀ x ∈ l, x ≤ 6 := fun x hx => by
  obtain ⟨i, hi, e⟩ := List.getElem_of_mem hx
  have hi' : i < o.count := h.len ▸ hi
  have q := h.le i hi'
  have q2 := (ok.at_ hi').most
  have e2 : l.getD i 0 = x := by
    rw [List.getD_eq_getElem?_getD, List.getElem?_eq_getElem hi, e]
    rfl
  omega
theorem OkF.sum_le {o : Order} {l : List Nat} (h : OkF o l) (ok : OkO o) : l.sum ≤ 24 := by
  have q := sum_le_all (h.le6 ok)
  have q2 : l.length ≤ 4 := by rw [h.len]; exact ok.cnt
  have : l.length * 6 ≤ 4 * 6 := Nat.mul_le_mul_right 6 q2
  omega
theorem has_le {o : Order} {l : List Nat} (h : OkF o l) (ok : OkO o) {k : Nat} (hk : k < 3) : o.has l k ≤ 24000 := by
  have q := Dn.sum_le (f := fun i => l.getD i 0 * (o.material i).parts.getD k 0) (b := 6000) o.count fun i hi => by
    have a := (ok.at_ hi)
    have b := h.le i hi
    have c : (o.material i).parts.getD k 0 ≤ 1000 := a.part _ (getD_mem (by rw [a.len]; exact hk))
    have d : l.getD i 0 ≤ 6 := Nat.le_trans b a.most
    exact Nat.mul_le_mul d c
  have z : o.count ≤ 4 := ok.cnt
  have : o.count * 6000 ≤ 4 * 6000 := Nat.mul_le_mul_right _ z
  unfold Order.has
  omega
theorem bound_le {o : Order} (ok : OkO o) {k : Nat} (hk : k < 3) : o.bound k ≤ 10000 := ok.bound _ (getD_mem (by rw [ok.len]; exact hk))
theorem top_le {o : Order} {l : List Nat} (h : OkF o l) (ok : OkO o) {k : Nat} (hk : k < 3) : o.bound k * l.sum ≤ 240000 :=
  Nat.le_trans (Nat.mul_le_mul (bound_le ok hk) (h.sum_le ok)) (by decide)
theorem by_some {o : Order} {l : List Nat} {k : Nat} (h : 0 < o.has l k) : o.by_ l k = some (lowest (o.bound k * l.sum) (10 * o.has l k)) := by
  unfold Order.by_
  rw [if_neg (by omega)]
theorem by_none {o : Order} {l : List Nat} {k : Nat} (h : ¬ 0 < o.has l k) : o.by_ l k = none := by
  unfold Order.by_
  rw [if_pos (by omega)]
/-- how strong by the first i substances -/
def turn (o : Order) (l : List Nat) (m : Part) (k : Nat) : Part := match o.by_ l k with
  | none => m
  | some x => if less x m = true then x else m
def strongTo (o : Order) (l : List Nat) (i : Nat) : Part := (List.range i).foldl (turn o l) all_
theorem strongTo_3 (o : Order) (l : List Nat) : strongTo o l 3 = o.strong l := rfl
theorem strongTo_succ (o : Order) (l : List Nat) (i : Nat) : strongTo o l (i + 1) = turn o l (strongTo o l i) i := by
  unfold strongTo
  rw [List.range_succ, List.foldl_append]
  rfl
theorem turn_le {o : Order} {l : List Nat} (h : OkF o l) (ok : OkO o) {m : Part} (hm : m.n ≤ 240000) {k : Nat} (hk : k < 3) : (turn o l m k).n ≤ 240000 := by
  unfold turn
  by_cases hh : 0 < o.has l k
  · rw [by_some hh]
    show (if less _ m = true then _ else m : Part).n ≤ 240000
    split
    · exact Nat.le_trans (lowest_n (by omega)) (top_le h ok hk)
    · exact hm
  · rw [by_none hh]
    exact hm
theorem strongTo_le {o : Order} {l : List Nat} (h : OkF o l) (ok : OkO o) : ∀ i, i ≤ 3 → (strongTo o l i).n ≤ 240000
  | 0, _ => by
    show (1 : Nat) ≤ 240000
    decide
  | i + 1, hi => by
    rw [strongTo_succ]
    exact turn_le h ok (strongTo_le h ok i (by omega)) (by omega)
theorem strong_le {o : Order} {l : List Nat} (h : OkF o l) (ok : OkO o) : (o.strong l).n ≤ 240000 := strongTo_le h ok 3 (Nat.le_refl 3)
/-- the substances that hold it back, of the first i -/
def holdsTo (o : Order) (l : List Nat) (i : Nat) : List Nat := (List.range i).filter fun k => o.by_ l k == some (o.strong l)
theorem holdsTo_3 (o : Order) (l : List Nat) : holdsTo o l 3 = o.holds l := rfl
theorem holdsTo_succ (o : Order) (l : List Nat) (i : Nat) : holdsTo o l (i + 1) = if (o.by_ l i == some (o.strong l)) = true then holdsTo o l i ++ [i] else holdsTo o l i := by
  unfold holdsTo
  rw [List.range_succ, List.filter_append]
  by_cases c : (o.by_ l i == some (o.strong l)) = true
  · rw [if_pos c, List.filter_cons, if_pos c]
    rfl
  · rw [if_neg c, List.filter_cons, if_neg c]
    exact List.append_nil _
theorem holdsTo_len (o : Order) (l : List Nat) (i : Nat) : (holdsTo o l i).length ≤ i := by
  have h := List.length_filter_le (fun k => o.by_ l k == some (o.strong l)) (List.range i)
  rw [List.length_range] at h
  exact h
/-! ### all formulas -/
def ext (fs : List (List Nat)) (n : Nat) : List (List Nat) := fs.flatMap fun f => (List.range (n + 1)).map fun t => f ++ [t]
theorem ext_fold : ∀ (ms : List Nat) (fs : List (List Nat)), ms.foldl ext fs = fs.flatMap fun f => (rows ms).map fun x => f ++ x
  | [], fs => by
    show fs = fs.flatMap fun f => [f ++ []]
    induction fs with
    | nil => rfl
    | cons a r ih =>
      rw [List.flatMap_cons, ← ih, List.append_nil]
      rfl
  | n :: r, fs => by
    rw [List.foldl_cons, ext_fold r (ext fs n)]
    unfold ext
    rw [List.flatMap_assoc]
    congr 1
    funext f
    rw [List.flatMap_map]
    show _ = ((List.range (n + 1)).flatMap fun t => (rows r).map fun l => t :: l).map fun x => f ++ x
    rw [List.map_flatMap]
    congr 1
    funext t
    rw [List.map_map]
    congr 1
    funext x
    show f ++ [t] ++ x = f ++ (t :: x)
    rw [List.append_assoc]
    rfl
theorem ext_rows (ms : List Nat) : ms.foldl ext [[]] = rows ms := by
  rw [ext_fold]
  simp
theorem mem_rows : ∀ {ms l : List Nat}, l ∈ rows ms → l.length = ms.length ∧ ∀ i, i < ms.length → l.getD i 0 ≤ ms.getD i 0
  | [], l, h => by
    have e : l = [] := by simpa [rows] using h
    subst e
    exact ⟨rfl, fun i hi => absurd hi (Nat.not_lt_zero i)⟩
  | n :: r, l, h => by
    have h : l ∈ (List.range (n + 1)).flatMap fun t => (rows r).map fun l => t :: l := h
    simp only [List.mem_flatMap, List.mem_range, List.mem_map] at h
    obtain ⟨t, ht, x, hx, rfl⟩ := h
    obtain ⟨h1, h2⟩ := mem_rows hx
    refine ⟨by rw [List.length_cons, List.length_cons, h1], fun i hi => ?_⟩
    cases i with
    | zero => exact Nat.le_of_lt_succ ht
    | succ i => exact h2 i (Nat.lt_of_succ_lt_succ hi)
theorem most_get {o : Order} {i : Nat} (hi : i < o.count) : (o.materials.map fun m => m.most).getD i 0 = (o.material i).most := by
  rw [List.getD_eq_getElem?_getD, List.getElem?_map, mat_get hi]
  rfl
theorem formulas_eq (o : Order) : o.formulas = (rows (o.materials.map fun m => m.most)).filter fun l => decide (0 < l.sum) := by
  unfold Order.formulas
  refine List.filter_congr fun l hl => ?_
  obtain ⟨h1, h2⟩ := mem_rows hl
  rw [List.length_map] at h1 h2
  have a : l.length = o.count := h1
  have b : ∀ i, i < o.count → l.getD i 0 ≤ (o.material i).most := fun i hi => by
    rw [← most_get hi]
    exact h2 i hi
  by_cases c : 0 < l.sum
  · rw [decide_eq_true c]
    exact right_iff.mpr ⟨a, b, c⟩
  · rw [decide_eq_false c]
    cases e : o.right l with
    | false => rfl
    | true => exact absurd (right_iff.mp e).pos c
theorem formulas_ok {o : Order} {l : List Nat} (h : l ∈ o.formulas) : OkF o l := right_iff.mp (List.mem_filter.mp h).2
/-- what all_formulas has behind i materials -/
def found (o : Order) (i : Nat) : List (List Nat) := ((o.materials.map fun m => m.most).take i).foldl ext [[]]
theorem take_more {α : Type} : ∀ {l : List α} {i : Nat} {x : α}, l[i]? = some x → l.take (i + 1) = l.take i ++ [x]
  | [], i, x, h => by simp at h
  | a :: l, 0, x, h => by
    have e : a = x := Option.some.inj h
    subst e
    rfl
  | a :: l, i + 1, x, h => by
    have ih := take_more (l := l) (i := i) (x := x) h
    show a :: l.take (i + 1) = a :: l.take i ++ [x]
    rw [ih]
    rfl
theorem found_succ {o : Order} {i : Nat} (hi : i < o.count) : found o (i + 1) = ext (found o i) (o.material i).most := by
  unfold found
  rw [take_more (x := (o.material i).most) (by rw [List.getElem?_map, mat_get hi]; rfl), List.foldl_append]
  rfl
theorem found_all (o : Order) : found o o.count = rows (o.materials.map fun m => m.most) := by
  unfold found
  rw [List.take_of_length_le (Nat.le_of_eq (by rw [List.length_map]; rfl)), ext_rows]
theorem ext_len {fs : List (List Nat)} {n : Nat} (hn : n ≤ 6) : (ext fs n).length ≤ 7 * fs.length := by
  unfold ext
  induction fs with
  | nil => exact Nat.le_refl _
  | cons a r ih =>
    rw [List.flatMap_cons, List.length_append, List.length_map, List.length_range, List.length_cons]
    omega
theorem found_len {o : Order} (ok : OkO o) : ∀ i, i ≤ o.count → (found o i).length ≤ 7 ^ i
  | 0, _ => Nat.le_refl 1
  | i + 1, hi => by
    rw [found_succ (Nat.lt_of_succ_le hi), Nat.pow_succ]
    have a := found_len ok i (Nat.le_of_succ_le hi)
    have b := ext_len (fs := found o i) (ok.at_ (Nat.lt_of_succ_le hi)).most
    omega
theorem found_small {o : Order} (ok : OkO o) {i : Nat} (hi : i ≤ o.count) : (found o i).length ≤ 2401 := by
  have a := found_len ok i hi
  have b : i ≤ 4 := Nat.le_trans hi ok.cnt
  have c : 7 ^ i ≤ 7 ^ 4 := Nat.pow_le_pow_right (by decide) b
  exact Nat.le_trans a c
theorem ext_mem_len {fs : List (List Nat)} {n k : Nat} (h : ∀ f ∈ fs, f.length = k) : ∀ f ∈ ext fs n, f.length = k + 1 := fun f hf => by
  unfold ext at hf
  simp only [List.mem_flatMap, List.mem_map] at hf
  obtain ⟨g, hg, t, _, rfl⟩ := hf
  rw [List.length_append, h g hg]
  rfl
theorem found_mem_len {o : Order} : ∀ i, i ≤ o.count → ∀ f ∈ found o i, f.length = i
  | 0, _, f, hf => by
    have e : f = [] := by simpa [found] using hf
    rw [e]
    rfl
  | i + 1, hi, f, hf => by
    rw [found_succ (Nat.lt_of_succ_le hi)] at hf
    exact ext_mem_len (found_mem_len i (Nat.le_of_succ_le hi)) f hf
/-! ### the best of them -/
def better (byS : Bool) (r : Option Best) (x : Part) (c : Nat) : Bool := match r with
  | none => true
  | some b => if (byS && decide (x ≠ b.strong)) = true then less b.strong x else if c ≠ b.changed then decide (c < b.changed) else less b.strong x
def meet (byS : Bool) (r : Option Best) (x : Part) (c : Nat) (l : List Nat) : Option Best := match r with
  | none => some ⟨x, c, 1, l⟩
  | some b => if better byS (some b) x c = true then some ⟨x, c, 1, l⟩ else if x = b.strong ∧ c = b.changed then some { b with many := b.many + 1 } else some b
theorem better_s (b : Best) (x : Part) (c : Nat) : better true (some b) x c = (less b.strong x || (x == b.strong && decide (c < b.changed))) := by
  show (if (true && decide (x ≠ b.strong)) = true then less b.strong x else if c ≠ b.changed then decide (c < b.changed) else less b.strong x) = _
  by_cases h : x = b.strong
  · subst h
    rw [if_neg (by simp), less_irr]
    by_cases g : c = b.changed
    · rw [if_neg (by simp [g])]
      simp [g]
    · rw [if_pos g]
      simp
  · rw [if_pos (by simp [h])]
    have e : (x == b.strong) = false := beq_eq_false_iff_ne.mpr h
    rw [e]
    simp
theorem better_n (b : Best) (x : Part) (c : Nat) : better false (some b) x c = (decide (c < b.changed) || (c == b.changed && less b.strong x)) := by
  show (if (false && decide (x ≠ b.strong)) = true then less b.strong x else if c ≠ b.changed then decide (c < b.changed) else less b.strong x) = _
  rw [if_neg (by simp)]
  by_cases g : c = b.changed
  · rw [if_neg (by simp [g])]
    simp [g]
  · rw [if_pos g]
    simp [g]
theorem strongest_eq (o : Order) (c : Nat) : o.strongest c = o.formulas.foldl (fun r l => if o.changed l ≤ c then meet true r (o.strong l) (o.changed l) l else r) none := by
  unfold Order.strongest
  rw [List.foldl_filter]
  congr 1
  funext r l
  by_cases h : o.changed l ≤ c
  · rw [if_pos (decide_eq_true h), if_pos h]
    cases r with
    | none => rfl
    | some b =>
      show _ = if better true (some b) (o.strong l) (o.changed l) = true then _ else _
      rw [better_s]
  · rw [if_neg (by simp [h]), if_neg h]
theorem nearest_eq (o : Order) {p q : Nat} (hq : 0 < q) : o.nearest (lowest p q) = o.formulas.foldl (fun r l => if less (o.strong l) ⟨p, q⟩ = true then r else meet false r (o.strong l) (o.changed l) l) none := by
  unfold Order.nearest
  rw [List.foldl_filter]
  congr 1
  funext r l
  rw [less_lowest _ hq]
  by_cases h : less (o.strong l) ⟨p, q⟩ = true
  · rw [if_neg (by simp [h]), if_pos h]
  · have h' : less (o.strong l) ⟨p, q⟩ = false := by simpa using h
    rw [if_pos (by simp [h']), if_neg h]
    cases r with
    | none => rfl
    | some b =>
      show _ = if better false (some b) (o.strong l) (o.changed l) = true then _ else _
      rw [better_n]
end Dn
namespace Dn
open PySem PySem.Spec PyProof.Rows L2
/-! ### the text by places -/
def top (i : Nat) : Stmt := PySem.Challenge.pw_drawnoils_s01_answers.main.body.getD i (.Pass ⟨0, 0, 0, 0⟩)
abbrev sDiv : Stmt := top 3
abbrev sLow : Stmt := top 4
abbrev sLess : Stmt := top 5
abbrev sMI : Stmt := inClass (top 6) 0
abbrev sOI : Stmt := inClass (top 7) 0
abbrev sAmt : Stmt := inClass (top 7) 1
abbrev sBnd : Stmt := inClass (top 7) 2
abbrev sStr : Stmt := inClass (top 7) 3
abbrev sHld : Stmt := inClass (top 7) 4
abbrev sChg : Stmt := inClass (top 7) 5
abbrev sMay : Stmt := inClass (top 7) 6
abbrev sAll : Stmt := inClass (top 7) 7
abbrev sBI : Stmt := inClass (top 8) 0
abbrev sIsB : Stmt := inClass (top 8) 1
abbrev sMeet : Stmt := inClass (top 8) 2
abbrev sHI : Stmt := inClass (top 16) 0
abbrev sNeed : Stmt := top 17
abbrev sBeg : Stmt := top 18
abbrev sMat : Stmt := top 19
abbrev sChk : Stmt := top 20
abbrev sTld : Stmt := top 21
abbrev sStg : Stmt := top 22
abbrev sNrs : Stmt := top 23
abbrev sAnd : Stmt := top 27
abbrev sAns : Stmt := top 28
abbrev sCat : Stmt := top 29
abbrev sAll2 : Stmt := top 30
/-! ### values -/
abbrev VN (n : Nat) : V := .int (n : Int)
def VL (l : List Nat) : List V := (l.map fun n : Nat => (n : Int)).map V.int
theorem VL_len (l : List Nat) : (VL l).length = l.length := by
  unfold VL
  rw [List.length_map, List.length_map]
theorem VL_app (a b : List Nat) : VL (a ++ b) = VL a ++ VL b := by
  unfold VL
  rw [List.map_append, List.map_append]
theorem VL_get {l : List Nat} {i : Nat} (hi : i < l.length) : (VL l)[i]? = some (VN (l.getD i 0)) := by
  unfold VL
  rw [List.getElem?_map, List.getElem?_map, get_of hi]
  rfl
theorem VL_inv {l : List Nat} {i : Nat} {v : V} (h : (VL l)[i]? = some v) : i < l.length ∧ v = VN (l.getD i 0) := by
  have hi : i < l.length := by
    have q := (List.getElem?_eq_some_iff.mp h).1
    rwa [VL_len] at q
  refine ⟨hi, ?_⟩
  rw [VL_get hi] at h
  exact (Option.some.inj h).symm
theorem RL_inv {ps : List Addr} {i : Nat} {y : V} (hy : (ps.map V.ref)[i]? = some y) : ∃ q, ps[i]? = some q ∧ y = V.ref q := by
  rw [List.getElem?_map] at hy
  cases e : ps[i]? with
  | none =>
    rw [e] at hy
    cases hy
  | some z =>
    rw [e] at hy
    exact ⟨z, rfl, (Option.some.inj hy).symm⟩
theorem sz {n : Nat} (h : n ≤ 16000000) : n ≤ sizeLine := Nat.le_trans h (by rw [sizeLine_eq]; decide)
theorem szl {n : Nat} (h : n ≤ 16000000) : n < sizeLine := Nat.lt_of_le_of_lt h (by rw [sizeLine_eq]; decide)
theorem nn {n : Nat} {b : Int} (h : (n : Int) < b) : -b < (n : Int) ∧ (n : Int) < b := ⟨by omega, h⟩
theorem cmul {a b : Nat} (h : a < 18446744073709551616) : CMul (a : Int) (b : Int) := .inl ⟨by omega, by show (a : Int) < 18446744073709551616; omega⟩
theorem cmulR {a b : Nat} (h : b < 18446744073709551616) : CMul (a : Int) (b : Int) := .inr ⟨by omega, by show (b : Int) < 18446744073709551616; omega⟩
theorem fmod_nat (a b : Nat) : Int.fmod (a : Int) (b : Int) = ((a % b : Nat) : Int) := by
  rw [Int.fmod_eq_emod_of_nonneg _ (by omega : (0 : Int) ≤ (b : Int))]
  rfl
theorem fdiv_nat (a b : Nat) : Int.fdiv (a : Int) (b : Int) = ((a / b : Nat) : Int) := by
  rw [Int.fdiv_eq_ediv_of_nonneg _ (by omega : (0 : Int) ≤ (b : Int))]
  rfl
/-! ### heaps -/
theorem same_new {H : Hp} {p : Addr} {o : HO} (h : H p = none) : Same H (upd H p o) := fun b u e => by
  rw [upd_ne (ne_of_none e h)]
  exact e
theorem same_t {K : PySem.W.Frag} {H H' : Hp} {a : Addr} {xs : List V} (e : Same H H') (h : SqT K H a xs) : SqT K H' a xs := by
  rcases h with (h | ⟨o, h⟩) | h
  · exact .inl (.inl (e _ _ h))
  · exact .inl (.inr ⟨o, e _ _ h⟩)
  · exact .inr h
/-- all but what stands at p as it was -/
def But (p : Addr) (H H' : Hp) : Prop := ∀ b o, b ≠ p → H b = some o → H' b = some o
theorem But.refl (p : Addr) (H : Hp) : But p H H := fun _ _ _ h => h
theorem But.of {p : Addr} {H H' : Hp} (s : Same H H') : But p H H' := fun b o _ h => s b o h
theorem But.trans {p : Addr} {H H1 H2 : Hp} (a : But p H H1) (b : But p H1 H2) : But p H H2 := fun c o n h => b c o n (a c o n h)
theorem But.upd_ {p : Addr} {H : Hp} {o : HO} : But p H (upd H p o) := fun b u n h => by
  rw [upd_ne n]
  exact h
/-! ### three comparisons in a row -/
def tChain3 (r r' r'' : R2) (ta tb tc td : TE) : TE := fun σ H Q => ta σ H fun x H1 => tb σ H1 fun y H2 => r x y H2 fun z H3 => ∃ k, z = .bl k ∧
  (if k = true then tc σ H3 fun w' H4 => r' y w' H4 fun z2 H5 => ∃ k2, z2 = .bl k2 ∧ (if k2 = true then td σ H5 fun u' H6 => r'' w' u' H6 Q else Q (.bl false) H5) else Q (.bl false) H3)
theorem pe_chain3 {X : Cx} {a b c d : Expr} {ta tb tc td : TE} {pos : Pos} {op op' op'' : CmpOp} {r r' r'' : R2} (ho : OpR X (compareOp op) r) (ho' : OpR X (compareOp op') r') (ho'' : OpR X (compareOp op'') r'') (ha : PE X a ta) (hb : PE X b tb) (hc : PE X c tc) (hd : PE X d td)
    (hm : lastMarks [op, op', op''] [b, c, d] = false := by with_unfolding_all rfl) : PE X (.Compare a [op, op', op''] [b, c, d] pos) (tChain3 r r' r'' ta tb tc td) := by
  refine ⟨fun pins s σ H Q I h => ?_⟩
  refine Compare_chain (thn (ha.run pins s σ H _ I h) fun v s1 ⟨x, H1, I1, r1, q1⟩ => chain_link (thn (hb.run pins s1 σ H1 _ I1 q1) fun u s2 ⟨y, H2, I2, r2, q2⟩ =>
    thn (ho pins s2 σ H2 x y v u _ I2 r1 r2 q2) fun d s3 ⟨z, H3, I3, r3, k, e, q3⟩ => ?_)) hm
  subst e
  cases r3
  refine wpAny_truthy_bool ?_
  cases k with
  | false => exact ite_ff ⟨.bl false, H3, I3, rfl, q3⟩
  | true =>
    refine ite_tt (chain_link (thn (hc.run pins s3 σ H3 _ I3 q3) fun w' s4 ⟨z', H4, I4, r4, q4⟩ => thn (ho' pins s4 σ H4 y z' u w' _ I4 r2 r4 q4) fun d2 s5 ⟨z2, H5, I5, r5, k2, e2, q5⟩ => ?_))
    subst e2
    cases r5
    refine wpAny_truthy_bool ?_
    cases k2 with
    | false => exact ite_ff ⟨.bl false, H5, I5, rfl, q5⟩
    | true => exact ite_tt (chain_last (thn (hd.run pins s5 σ H5 _ I5 q5) fun u' s6 ⟨z6, H6, I6, r6, q6⟩ => ho'' pins s6 σ H6 z' z6 w' u' Q I6 r4 r6 q6))
/-! ### objects of the program in the heap; cM cO cB cH: the addresses of the classes -/
def fM (lp : Addr) (w m : Nat) : List (Str × V) := [("parts", .ref lp), ("wanted", VN w), ("most", VN m)]
def MatAt (cM : Addr) (H : Hp) (p : Addr) (m : Si83.Material) : Prop := ∃ dx lp, H p = some (.ins cM dx (fM lp m.wanted m.most)) ∧ H lp = some (.lst (VL m.parts))
theorem MatAt.same {cM : Addr} {H H' : Hp} {p : Addr} {m : Si83.Material} (s : Same H H') (h : MatAt cM H p m) : MatAt cM H' p m :=
  let ⟨dx, lp, a, b⟩ := h
  ⟨dx, lp, s _ _ a, s _ _ b⟩
def fO (b ms : Addr) : List (Str × V) := [("bounds", .ref b), ("materials", .ref ms)]
/-- an order at p, its list of materials at ms -/
def OrdAt (cM cO : Addr) (H : Hp) (p ms : Addr) (o : Si83.Order) : Prop := ∃ (dx b : Addr) (ps : List Addr), H p = some (.ins cO dx (fO b ms)) ∧ H b = some (.lst (VL o.bounds)) ∧ H ms = some (.lst (ps.map V.ref)) ∧ ps.length = o.count ∧
  ∀ i q, ps[i]? = some q → MatAt cM H q (o.material i)
theorem OrdAt.same {cM cO : Addr} {H H' : Hp} {p ms : Addr} {o : Si83.Order} (s : Same H H') (h : OrdAt cM cO H p ms o) : OrdAt cM cO H' p ms o :=
  let ⟨dx, b, ps, h1, h2, h3, h4, h5⟩ := h
  ⟨dx, b, ps, s _ _ h1, s _ _ h2, s _ _ h3, h4, fun i q e => (h5 i q e).same s⟩
/-- a def or a method as it stands, with what it promises -/
structure Ok (P : Program) (w : World) (K : PySem.W.Frag) (mg : Str → Option Value) (base : Heap) (CX : CXT) (k : Nat) (f : Addr) (ps : List Str) (sp : Sp) : Prop where
  ok : ∃ fd, FnOk P w K mg base CX k f fd ps sp ∧ Binds K fd ps []
/-- a def of the top by its name -/
structure Nm (K : PySem.W.Frag) (mg : Str → Option Value) (x : Str) (f : Addr) : Prop where
  g : mg x = some (.ref f)
  k : PySem.W.keepIn K (.ref f) = true
theorem vals1' {x : V} {vs : List V} {a : V} (h : x :: vs = [a]) : x = a := (List.cons.inj h).1
end Dn
namespace Dn
open PySem PySem.Spec PyProof.Rows L2
section
variable {P : Program} {w : World} {K : PySem.W.Frag} {mg : Str → Option Value} {base : Heap}
/-! ### divisor -/
def spDiv : Sp := fun vs H Q _ => ∃ a b : Nat, vs = [VN a, VN b] ∧ Q (VN (Nat.gcd a b)) H
theorem scDiv : FnScope ["one", "other"] ["one", "other"] (defScope sDiv) := ⟨rfl, rfl, rfl, by decide +kernel, rfl, by decide +kernel, by decide +kernel⟩
theorem ok_div {f : Addr} (F : ∃ fd, Fun K "divisor" "divisor" sDiv f fd) : Ok P w K mg base CX0 1 f ["one", "other"] spDiv := by
  obtain ⟨fd, F⟩ := F
  refine ⟨fd, ?_, F.binds (ps := ["one", "other"]) fun _ _ _ _ _ _ us hl => match us, hl with | [_, _], _ => rfl⟩
  refine F.ok scDiv (fun vs H Q E h => ?_) (fun cdv A outer s H vs Q E hr h => ?_)
  · obtain ⟨a, b, rfl, _⟩ := h
    rfl
  · obtain ⟨a, b, rfl, k⟩ := h
    refine ⟨_, pss_cons (ps_while PassesOwn.never (pt_cmpR op_ne (pv 1) pe_int (nomark _))
        (pss_one (ps_par (i := 0) (j := 1) (by rfl) scDiv.nd rfl rfl (by decide) rfl rfl (pa_cons (pv 1) (pa_cons (pe_op op_modN (pv 0) (pv 1)) pa_nil)) (by rfl))))
      (pss_one (ps_ret (pv 0))), ?_⟩
    refine ⟨fun m σ H' => ∃ x y : Nat, σ = [some (VN x), some (VN y)] ∧ H' = H ∧ m = y ∧ Nat.gcd x y = Nat.gcd a b, ⟨b, a, b, rfl, rfl, rfl, rfl⟩, ?_⟩
    rintro m σ H' ⟨x, y, rfl, rfl, rfl, e⟩
    refine ⟨_, rfl, rfl, _, rfl, ?_⟩
    by_cases c : m = 0
    · subst c
      show if (!decide (V.int ((0 : Nat) : Int) = V.int 0)) = true then _ else _
      refine iteNS rfl ?_
      refine ⟨_, rfl, ?_⟩
      have e' : x = Nat.gcd a b := by rw [← e, Nat.gcd_zero_right]
      rw [e']
      exact k
    · have cz : ¬ (V.int (m : Int) = V.int 0) := fun q => by
        injection q with q
        omega
      rw [decide_eq_false cz]
      refine iteT ⟨fun σ' H'' => σ' = [some (VN m), some (VN (x % m))] ∧ H'' = H', ?_, ?_⟩
      · rintro σ' H'' ⟨rfl, rfl⟩
        exact ⟨x % m, Nat.mod_lt _ (Nat.pos_of_ne_zero c), m, x % m, rfl, rfl, rfl, by rw [gcd_step, e]⟩
      · refine ⟨_, rfl, _, rfl, _, rfl, _, _, rfl, rfl, (by omega), ?_⟩
        refine ⟨_, _, rfl, ?_, rfl⟩
        show [some (VN m), some (V.int (Int.fmod (x : Int) (m : Int)))] = [some (VN m), some (VN (x % m))]
        rw [fmod_nat]
/-! ### lowest -/
def spLow : Sp := fun vs H Q _ => ∃ n d : Nat, vs = [VN n, VN d] ∧ 0 < d ∧ d < 1073741824 ∧ ∀ p, H p = none → Q (.ref p) (upd H p (.tup [VN (Si83.lowest n d).n, VN (Si83.lowest n d).d]))
theorem scLow : FnScope ["top", "bottom", "by"] ["top", "bottom"] (defScope sLow) := ⟨rfl, rfl, rfl, by decide +kernel, rfl, by decide +kernel, by decide +kernel⟩
theorem ok_low {f fD : Addr} (F : ∃ fd, Fun K "lowest" "lowest" sLow f fd) (nD : Nm K mg "divisor" fD) (GD : Ok P w K mg base CX0 1 fD ["one", "other"] spDiv) : Ok P w K mg base CX0 2 f ["top", "bottom"] spLow := by
  obtain ⟨fd, F⟩ := F
  obtain ⟨fdD, GD, bD⟩ := GD
  refine ⟨fd, ?_, F.binds (ps := ["top", "bottom"]) fun _ _ _ _ _ _ us hl => match us, hl with | [_, _], _ => rfl⟩
  refine F.ok scLow (fun vs H Q E h => ?_) (fun cdv A outer s H vs Q E hr h => ?_)
  · obtain ⟨a, b, rfl, _⟩ := h
    rfl
  · obtain ⟨n, d, rfl, h0, h1, k⟩ := h
    refine ⟨_, pss_cons (ps_set (i := 2) scLow.nd rfl (.inl rfl) (pe_call GD hr rfl nD.g nD.k bD .nil pass0 (pa_cons (pv 1) (pa_cons (pv 0) pa_nil))))
      (pss_one (ps_ret (pe_tup (pa_cons (pe_op op_fdivN (pv 0) (pv 2)) (pa_cons (pe_op op_fdivN (pv 1) (pv 2)) pa_nil))))), ?_⟩
    have g0 : 0 < Nat.gcd d n := Nat.gcd_pos_of_pos_left _ h0
    have g1 : Nat.gcd d n ≤ d := Nat.gcd_le_left _ h0
    have cd : CDivN (n : Int) ((Nat.gcd d n : Nat) : Int) := ⟨by omega, by rw [Int.natAbs_natCast]; omega⟩
    refine ⟨_, rfl, _, rfl, d, n, rfl, ?_⟩
    refine ⟨_, rfl, _, rfl, _, _, rfl, rfl, cd, _, rfl, _, rfl, _, _, rfl, rfl, cd, ?_⟩
    refine ⟨(by show 2 ≤ sizeLine; decide), fun p hp => ?_⟩
    have q := k p hp
    rw [lowest_eq h0] at q
    show Q (.ref p) (upd H p (.tup [V.int (Int.fdiv (n : Int) ((Nat.gcd d n : Nat) : Int)), V.int (Int.fdiv (d : Int) ((Nat.gcd d n : Nat) : Int))]))
    rw [fdiv_nat, fdiv_nat]
    exact q
/-! ### is_less -/
def spLess (K : PySem.W.Frag) : Sp := fun vs H Q _ => ∃ (a b : Addr) (x y : Si83.Part), vs = [.ref a, .ref b] ∧ SqT K H a [VN x.n, VN x.d] ∧ SqT K H b [VN y.n, VN y.d] ∧ x.n < 18446744073709551616 ∧ y.n < 18446744073709551616 ∧ Q (.bl (Si83.less x y)) H
theorem scLess : FnScope ["one", "other"] ["one", "other"] (defScope sLess) := ⟨rfl, rfl, rfl, by decide +kernel, rfl, by decide +kernel, by decide +kernel⟩
theorem ok_less {f : Addr} (F : ∃ fd, Fun K "is_less" "is_less" sLess f fd) : Ok P w K mg base CX0 1 f ["one", "other"] (spLess K) := by
  obtain ⟨fd, F⟩ := F
  refine ⟨fd, ?_, F.binds (ps := ["one", "other"]) fun _ _ _ _ _ _ us hl => match us, hl with | [_, _], _ => rfl⟩
  refine F.ok scLess (fun vs H Q E h => ?_) (fun cdv A outer s H vs Q E hr h => ?_)
  · obtain ⟨a, b, x, y, rfl, _⟩ := h
    rfl
  · obtain ⟨a, b, x, y, rfl, ha, hb, hx, hy, k⟩ := h
    refine ⟨_, pss_one (ps_ret (pe_cmpR op_lt (pe_op op_mul (pe_ix ix_tup (pv 0) pe_int fun _ _ => rfl) (pe_ix ix_tup (pv 1) pe_int fun _ _ => rfl))
      (pe_op op_mul (pe_ix ix_tup (pv 1) pe_int fun _ _ => rfl) (pe_ix ix_tup (pv 0) pe_int fun _ _ => rfl)) (nomark _))), ?_⟩
    refine ⟨_, rfl, _, _, _, _, rfl, rfl, ha, rfl, _, rfl, _, _, _, _, rfl, rfl, hb, rfl, _, _, rfl, rfl, cmul hx, ?_⟩
    refine ⟨_, rfl, _, _, _, _, rfl, rfl, hb, rfl, _, rfl, _, _, _, _, rfl, rfl, ha, rfl, _, _, rfl, rfl, cmul hy, _, _, rfl, rfl, ?_⟩
    have e : decide ((x.n : Int) * (y.d : Int) < (y.n : Int) * (x.d : Int)) = Si83.less x y := by
      unfold Si83.less
      rw [← Int.natCast_mul, ← Int.natCast_mul]
      exact decide_eq_decide.mpr Int.ofNat_lt
    show Q (V.bl (decide ((x.n : Int) * (y.d : Int) < (y.n : Int) * (x.d : Int)))) H
    rw [e]
    exact k
end
end Dn
namespace Dn
open PySem PySem.Spec PyProof.Rows L2
/-- what the written part says of the classes -/
structure TM (K : PySem.W.Frag) (cM : Addr) : Prop where
  cl : Cls K cM
  nP : NoAttr K cM "parts"
  nW : NoAttr K cM "wanted"
  nO : NoAttr K cM "most"
structure TO (K : PySem.W.Frag) (cO : Addr) : Prop where
  cl : Cls K cO
  nB : NoAttr K cO "bounds"
  nM : NoAttr K cO "materials"
/-- the built-in names are still the built-in ones -/
structure Bt (mg : Str → Option Value) : Prop where
  sum : mg "sum" = none
  zip : mg "zip" = none
  range : mg "range" = none
  len : mg "len" = none
  abs : mg "abs" = none
  max : mg "max" = none
  list : mg "list" = none
  int : mg "int" = none
section
variable {P : Program} {w : World} {K : PySem.W.Frag} {mg : Str → Option Value} {base : Heap} {cM cO : Addr}
/-! ### Material.__init__ -/
def spMI (cM : Addr) : Sp := fun vs H Q _ => ∃ (p dx lp : Addr) (a b : Nat), vs = [.ref p, .ref lp, VN a, VN b] ∧ H p = some (.ins cM dx []) ∧ Q .non (upd H p (.ins cM dx (fM lp a b)))
theorem scMI : FnScope ["self", "parts", "wanted", "most"] ["self", "parts", "wanted", "most"] (defScope sMI) := ⟨rfl, rfl, rfl, by decide +kernel, rfl, by decide +kernel, by decide +kernel⟩
theorem ok_MI {f : Addr} (F : ∃ fd, Fun K "__init__" "Material.__init__" sMI f fd) (T : TM K cM) : Ok P w K mg base CX0 1 f ["self", "parts", "wanted", "most"] (spMI cM) := by
  obtain ⟨fd, F⟩ := F
  refine ⟨fd, ?_, F.binds (ps := ["self", "parts", "wanted", "most"]) fun _ _ _ _ _ _ us hl => match us, hl with | [_, _, _, _], _ => rfl⟩
  refine F.ok scMI (fun vs H Q E h => ?_) (fun cdv A outer s H vs Q E hr h => ?_)
  · obtain ⟨p, dx, lp, a, b, rfl, _⟩ := h
    rfl
  · obtain ⟨p, dx, lp, a, b, rfl, hp, k⟩ := h
    refine ⟨_, pss_cons (ps_fld (pv 0) (pv 1) rfl) (pss_cons (ps_fld (pv 0) (pv 2) rfl) (pss_one (ps_fld (pv 0) (pv 3) rfl))), ?_⟩
    refine ⟨_, rfl, _, rfl, p, cM, dx, _, rfl, hp, T.cl, T.nP, (by show 0 < 1000; decide), ?_⟩
    refine ⟨_, rfl, _, rfl, p, cM, dx, _, rfl, upd_same, T.cl, T.nW, (by show 1 < 1000; decide), ?_⟩
    refine ⟨_, rfl, _, rfl, p, cM, dx, _, rfl, upd_same, T.cl, T.nO, (by show 2 < 1000; decide), ?_⟩
    rw [upd_upd, upd_upd]
    exact k
/-! ### Order.__init__ -/
def spOI (cO : Addr) : Sp := fun vs H Q _ => ∃ (p dx b : Addr), vs = [.ref p, .ref b] ∧ H p = some (.ins cO dx []) ∧ ∀ ms, H ms = none → Q .non (upd (upd H ms (.lst [])) p (.ins cO dx (fO b ms)))
theorem scOI : FnScope ["self", "bounds"] ["self", "bounds"] (defScope sOI) := ⟨rfl, rfl, rfl, by decide +kernel, rfl, by decide +kernel, by decide +kernel⟩
theorem upd_comm {H : Hp} {a b : Addr} {o u : HO} (h : a ≠ b) : upd (upd H a o) b u = upd (upd H b u) a o := by
  funext c
  unfold upd
  by_cases h1 : c = a
  · subst h1
    rw [if_neg h, if_pos rfl, if_pos rfl]
  · rw [if_neg h1, if_neg h1]
theorem ok_OI {f : Addr} (F : ∃ fd, Fun K "__init__" "Order.__init__" sOI f fd) (T : TO K cO) : Ok P w K mg base CX0 1 f ["self", "bounds"] (spOI cO) := by
  obtain ⟨fd, F⟩ := F
  refine ⟨fd, ?_, F.binds (ps := ["self", "bounds"]) fun _ _ _ _ _ _ us hl => match us, hl with | [_, _], _ => rfl⟩
  refine F.ok scOI (fun vs H Q E h => ?_) (fun cdv A outer s H vs Q E hr h => ?_)
  · obtain ⟨p, dx, b, rfl, _⟩ := h
    rfl
  · obtain ⟨p, dx, b, rfl, hp, k⟩ := h
    refine ⟨_, pss_cons (ps_fld (pv 0) (pv 1) rfl) (pss_one (ps_fld (pv 0) (pe_lst pa_nil) rfl)), ?_⟩
    refine ⟨_, rfl, _, rfl, p, cO, dx, _, rfl, hp, T.cl, T.nB, (by show 0 < 1000; decide), ?_⟩
    refine ⟨Nat.zero_le _, fun ms hms => ?_⟩
    have n : ms ≠ p := fun q => by
      rw [q, upd_same] at hms
      cases hms
    have hm : H ms = none := by rwa [upd_ne n] at hms
    refine ⟨_, rfl, p, cO, dx, _, rfl, (by rw [upd_ne n.symm]; exact upd_same), T.cl, T.nM, (by show 1 < 1000; decide), ?_⟩
    have q := k ms hm
    rw [upd_comm n] at q
    show Q .non (upd (upd (upd H p (.ins cO dx (putF "bounds" (V.ref b) []))) ms (.lst [])) p (.ins cO dx (fO b ms)))
    rw [upd_comm n, upd_upd]
    exact q
/-! ### Order.amount -/
def amt (o : Si83.Order) (l : List Nat) (k i : Nat) : List Nat := (List.range i).map fun j => l.getD j 0 * (o.material j).parts.getD k 0
theorem amt_succ (o : Si83.Order) (l : List Nat) (k i : Nat) : VL (amt o l k (i + 1)) = VL (amt o l k i) ++ [VN (l.getD i 0 * (o.material i).parts.getD k 0)] := by
  unfold amt
  rw [List.range_succ, List.map_append, VL_app]
  rfl
theorem amt_len (o : Si83.Order) (l : List Nat) (k i : Nat) : (VL (amt o l k i)).length = i := by
  unfold amt
  rw [VL_len, List.length_map, List.length_range]
def spAmt (K : PySem.W.Frag) (cM cO : Addr) : Sp := fun vs H Q _ => ∃ (p ms fl : Addr) (o : Si83.Order) (l : List Nat) (k : Nat), vs = [.ref p, .ref fl, VN k] ∧ OrdAt cM cO H p ms o ∧ SqL K H fl (VL l) ∧ l.length = o.count ∧ OkO o ∧ k < 3 ∧
  ∀ H', Same H H' → Q (VN (o.has l k)) H'
theorem scAmt : FnScope ["self", "formula", "substance", "many", "material"] ["self", "formula", "substance"] (defScope sAmt) := ⟨rfl, rfl, rfl, by decide +kernel, rfl, by decide +kernel, by decide +kernel⟩
theorem ok_amt {f : Addr} (F : ∃ fd, Fun K "amount" "Order.amount" sAmt f fd) (TMs : TM K cM) (TOs : TO K cO) (B : Bt mg) : Ok P w K mg base CX0 1 f ["self", "formula", "substance"] (spAmt K cM cO) := by
  obtain ⟨fd, F⟩ := F
  refine ⟨fd, ?_, F.binds (ps := ["self", "formula", "substance"]) fun _ _ _ _ _ _ us hl => match us, hl with | [_, _, _], _ => rfl⟩
  refine F.ok scAmt (fun vs H Q E h => ?_) (fun cdv A outer s H vs Q E hr h => ?_)
  · obtain ⟨p, ms, fl, o, l, k, rfl, _⟩ := h
    rfl
  · obtain ⟨p, ms, fl, o, l, k, rfl, hO, hl, hlen, ok, hk, q⟩ := h
    obtain ⟨dx, b, ps, h1, h2, h3, h4, h5⟩ := hO
    refine ⟨_, pss_one (ps_ret (pe_callB (cr_sum rfl) (by rfl) B.sum (by decide +kernel) (by exact (pa_cons
      (by exact (pe_lc (own := [("many", 3), ("material", 4)]) (g := gTup K 2 (gCons (gName 3) (gCons (gName 4) gNil))) (tt := tYes) (te := tOp (rI CMul fun i j => .int (i * j)) (tVar 3) (tOp (rIxL K) (tFld K (tVar 4) "parts") (tVar 2))) rfl scAmt.nd (pi_zip (by rfl) B.zip (pa_cons (pv 1) (pa_cons (pe_fld (pv 0) rfl) pa_nil)))
        (blkOk_by (own := [("many", 3), ("material", 4)]) (N := ["self", "formula", "substance", "many", "material"]) (sc := defScope sAmt) (by decide +kernel))
        (fun _ _ _ _ _ => pg_tup rfl (pgs_cons (pg_name (i := 3) scAmt.nd rfl (Or.inl rfl)) (pgs_cons (pg_name (i := 4) scAmt.nd rfl (Or.inl rfl)) pgs_nil)))
        (fun _ _ _ _ _ => pts_nil)
        (fun _ _ _ _ _ => pe_op op_mul (pv 3) (pe_ix ix_list (pe_fld (pv 4) rfl) (pv 2) fun _ _ => rfl)))) pa_nil)))), ?_⟩
    refine ⟨_, rfl, _, rfl, p, cO, dx, _, _, rfl, h1, TOs.cl, TOs.nM, rfl, ?_⟩
    refine ⟨fl, ms, VL l, ps.map V.ref, rfl, hl, .of h3, fun D hD => ?_⟩
    have hn : o.count = min (VL l).length (ps.map V.ref).length := by
      rw [VL_len, List.length_map, hlen, h4, Nat.min_self]
    refine lc_it (walk_zip hn) (fun i H' => Same H H' ∧ H' D = some (.lst (VL (amt o l k i)))) ⟨same_new hD, upd_same⟩ (fun i H' _ ⟨s, _⟩ => ⟨s.seq hl, s.seq (.of h3)⟩) ?_ ?_
    · rintro i v H1 H2 hi ⟨sm, hd⟩ ⟨T, x, y, rfl, hT, rfl, hx, hy⟩
      obtain ⟨hil, rfl⟩ := VL_inv hx
      obtain ⟨pm, hpm, rfl⟩ := RL_inv hy
      obtain ⟨dm, lp, m1, m2⟩ := h5 i pm hpm
      have okm := ok.at_ hi
      have nT : D ≠ T := ne_of_none hd hT
      have sT : Same H1 (upd H1 T (.tup [VN (l.getD i 0), .ref pm])) := same_new hT
      refine ⟨T, _, rfl, .of upd_same, rfl, _, _, rfl, _, _, rfl, rfl, rfl, ?_⟩
      refine ⟨_, rfl, _, rfl, pm, cM, dm, _, _, rfl, sT _ _ (sm _ _ m1), TMs.cl, TMs.nP, rfl, _, rfl, ?_⟩
      refine ⟨lp, _, _, _, rfl, rfl, .of (sT _ _ (sm _ _ m2)), atI_nat (VL_get (by rw [okm.len]; exact hk)), ?_⟩
      have c1 : (o.material i).parts.getD k 0 ≤ 1000 := okm.part _ (getD_mem (by rw [okm.len]; exact hk))
      refine ⟨_, _, rfl, rfl, cmulR (by omega), ?_⟩
      refine ⟨VL (amt o l k i), sT _ _ hd, szl (by rw [amt_len]; have := ok.cnt; have : o.count ≤ 4 := ok.cnt; omega), ?_, ?_⟩
      · intro c u hu
        have : c ≠ D := ne_of_none hu hD
        rw [upd_ne this]
        exact sT _ _ (sm _ _ hu)
      · rw [upd_same, amt_succ]
        show _ = some (HO.lst (VL (amt o l k i) ++ [V.int (((l.getD i 0 * (o.material i).parts.getD k 0 : Nat)) : Int)]))
        rw [Int.natCast_mul]
    · rintro H' ⟨sm, hd⟩
      refine ⟨D, _, rfl, .of hd, ?_⟩
      rw [sum_cast]
      exact q H' sm
end
end Dn
namespace Dn
open PySem PySem.Spec PyProof.Rows L2
theorem same_mut {H H' : Hp} {D : Addr} {o : HO} (s : Same H H') (h : H D = none) : Same H (upd H' D o) := fun b u e => by
  rw [upd_ne (ne_of_none e h)]
  exact s b u e
section
variable {P : Program} {w : World} {K : PySem.W.Frag} {mg : Str → Option Value} {base : Heap} {cM cO : Addr}
/-! ### Order.changed -/
def chg (o : Si83.Order) (l : List Nat) (i : Nat) : List Nat := (List.range i).map fun j => Si83.apart (l.getD j 0) (o.material j).wanted
theorem chg_succ (o : Si83.Order) (l : List Nat) (i : Nat) : VL (chg o l (i + 1)) = VL (chg o l i) ++ [VN (Si83.apart (l.getD i 0) (o.material i).wanted)] := by
  unfold chg
  rw [List.range_succ, List.map_append, VL_app]
  rfl
theorem chg_len (o : Si83.Order) (l : List Nat) (i : Nat) : (VL (chg o l i)).length = i := by
  unfold chg
  rw [VL_len, List.length_map, List.length_range]
theorem abs_apart (a b : Nat) : (if (a : Int) - (b : Int) < 0 then -((a : Int) - (b : Int)) else (a : Int) - (b : Int)) = ((Si83.apart a b : Nat) : Int) := by
  unfold Si83.apart
  split <;> omega
def rAbs : List V → Hp → VK → Prop := fun xs H Q => ∃ i : Int, xs = [.int i] ∧ Q (.int (if i < 0 then -i else i)) H
def spChg (K : PySem.W.Frag) (cM cO : Addr) : Sp := fun vs H Q _ => ∃ (p ms fl : Addr) (o : Si83.Order) (l : List Nat), vs = [.ref p, .ref fl] ∧ OrdAt cM cO H p ms o ∧ SqL K H fl (VL l) ∧ l.length = o.count ∧ OkO o ∧
  ∀ H', Same H H' → Q (VN (o.changed l)) H'
theorem scChg : FnScope ["self", "formula", "many", "material"] ["self", "formula"] (defScope sChg) := ⟨rfl, rfl, rfl, by decide +kernel, rfl, by decide +kernel, by decide +kernel⟩
theorem ok_chg {f : Addr} (F : ∃ fd, Fun K "changed" "Order.changed" sChg f fd) (TMs : TM K cM) (TOs : TO K cO) (B : Bt mg) : Ok P w K mg base CX0 1 f ["self", "formula"] (spChg K cM cO) := by
  obtain ⟨fd, F⟩ := F
  refine ⟨fd, ?_, F.binds (ps := ["self", "formula"]) fun _ _ _ _ _ _ us hl => match us, hl with | [_, _], _ => rfl⟩
  refine F.ok scChg (fun vs H Q E h => ?_) (fun cdv A outer s H vs Q E hr h => ?_)
  · obtain ⟨p, ms, fl, o, l, rfl, _⟩ := h
    rfl
  · obtain ⟨p, ms, fl, o, l, rfl, hO, hl, hlen, ok, q⟩ := h
    obtain ⟨dx, b, ps, h1, h2, h3, h4, h5⟩ := hO
    refine ⟨_, pss_one (ps_ret (pe_callB (cr_sum rfl) (by rfl) B.sum (by decide +kernel) (by exact (pa_cons
      (by exact (pe_lc (own := [("many", 2), ("material", 3)]) (g := gTup K 2 (gCons (gName 2) (gCons (gName 3) gNil))) (tt := tYes) (te := tCB rAbs (tCons (tOp (rI0 fun i j => .int (i - j)) (tVar 2) (tFld K (tVar 3) "wanted")) tNil)) rfl scChg.nd (pi_zip (by rfl) B.zip (pa_cons (pv 1) (pa_cons (pe_fld (pv 0) rfl) pa_nil)))
        (blkOk_by (own := [("many", 2), ("material", 3)]) (N := ["self", "formula", "many", "material"]) (sc := defScope sChg) (by decide +kernel))
        (fun _ _ _ _ _ => pg_tup rfl (pgs_cons (pg_name (i := 2) scChg.nd rfl (Or.inl rfl)) (pgs_cons (pg_name (i := 3) scChg.nd rfl (Or.inl rfl)) pgs_nil)))
        (fun _ _ _ _ _ => pts_nil)
        (fun _ _ _ _ _ => pe_callB call_abs (by rfl) B.abs (by decide +kernel) (by exact (pa_cons (pe_op op_sub (pv 2) (pe_fld (pv 3) rfl)) pa_nil))))) pa_nil)))), ?_⟩
    refine ⟨_, rfl, _, rfl, p, cO, dx, _, _, rfl, h1, TOs.cl, TOs.nM, rfl, ?_⟩
    refine ⟨fl, ms, VL l, ps.map V.ref, rfl, hl, .of h3, fun D hD => ?_⟩
    have hn : o.count = min (VL l).length (ps.map V.ref).length := by
      rw [VL_len, List.length_map, hlen, h4, Nat.min_self]
    refine lc_it (walk_zip hn) (fun i H' => Same H H' ∧ H' D = some (.lst (VL (chg o l i)))) ⟨same_new hD, upd_same⟩ (fun i H' _ ⟨s, _⟩ => ⟨s.seq hl, s.seq (.of h3)⟩) ?_ ?_
    · rintro i v H1 H2 hi ⟨sm, hd⟩ ⟨T, x, y, rfl, hT, rfl, hx, hy⟩
      obtain ⟨hil, rfl⟩ := VL_inv hx
      obtain ⟨pm, hpm, rfl⟩ := RL_inv hy
      obtain ⟨dm, lp, m1, m2⟩ := h5 i pm hpm
      have sT : Same H1 (upd H1 T (.tup [VN (l.getD i 0), .ref pm])) := same_new hT
      refine ⟨T, _, rfl, .of upd_same, rfl, _, _, rfl, _, _, rfl, rfl, rfl, ?_⟩
      refine ⟨_, rfl, _, rfl, pm, cM, dm, _, _, rfl, sT _ _ (sm _ _ m1), TMs.cl, TMs.nW, rfl, _, _, rfl, rfl, ?_⟩
      refine ⟨_, rfl, ?_⟩
      refine ⟨VL (chg o l i), sT _ _ hd, szl (by rw [chg_len]; have : o.count ≤ 4 := ok.cnt; omega), same_mut (fun b u e => sT _ _ (sm _ _ e)) hD, ?_⟩
      rw [upd_same, chg_succ, abs_apart]
    · rintro H' ⟨sm, hd⟩
      refine ⟨D, _, rfl, .of hd, ?_⟩
      rw [sum_cast]
      exact q H' sm
/-! ### Order.may_be -/
def ovr (o : Si83.Order) (l : List Nat) (i : Nat) : List Nat := (List.range i).filter fun j => decide ((o.material j).most < l.getD j 0)
theorem ovr_yes {o : Si83.Order} {l : List Nat} {i : Nat} (h : (o.material i).most < l.getD i 0) : VL (ovr o l (i + 1)) = VL (ovr o l i) ++ [VN i] := by
  unfold ovr
  rw [List.range_succ, List.filter_append, VL_app, List.filter_cons, if_pos (decide_eq_true h)]
  rfl
theorem ovr_no {o : Si83.Order} {l : List Nat} {i : Nat} (h : ¬ (o.material i).most < l.getD i 0) : ovr o l (i + 1) = ovr o l i := by
  unfold ovr
  rw [List.range_succ, List.filter_append, List.filter_cons, if_neg (by rw [decide_eq_false h]; decide)]
  exact List.append_nil _
theorem ovr_len (o : Si83.Order) (l : List Nat) (i : Nat) : (VL (ovr o l i)).length ≤ i := by
  unfold ovr
  rw [VL_len]
  have h := List.length_filter_le (fun j => decide ((o.material j).most < l.getD j 0)) (List.range i)
  rwa [List.length_range] at h
theorem right_ovr {o : Si83.Order} {l : List Nat} (h : l.length = o.count) : o.right l = ((ovr o l o.count).isEmpty && decide (0 < l.sum)) := by
  have e : (ovr o l o.count).isEmpty = true ↔ ∀ i, i < o.count → l.getD i 0 ≤ (o.material i).most := by
    unfold ovr
    rw [List.isEmpty_iff, List.filter_eq_nil_iff]
    constructor
    · intro q i hi
      have := q i (List.mem_range.mpr hi)
      simp only [decide_eq_true_eq] at this
      omega
    · intro q i hi
      have := q i (List.mem_range.mp hi)
      simp only [decide_eq_true_eq]
      omega
  rw [Bool.eq_iff_iff, right_iff, Bool.and_eq_true, e, decide_eq_true_eq]
  exact ⟨fun q => ⟨q.le, q.pos⟩, fun q => ⟨h, q.1, q.2⟩⟩
theorem lay_ints : ∀ l : List Nat, PyData.canLayAll0 (l.map fun n : Nat => PyData.int (n : Int)) = true
  | [] => by simp only [List.map_nil, PyData.canLayAll0]
  | a :: r => by
    rw [List.map_cons]
    simp only [PyData.canLayAll0, PyData.canLay0, lay_ints r, Bool.and_self]
theorem depth_ints : ∀ l : List Nat, PyData.depthAll (l.map fun n : Nat => PyData.int (n : Int)) = 0
  | [] => by simp only [List.map_nil, PyData.depthAll]
  | a :: r => by
    rw [List.map_cons]
    simp only [PyData.depthAll, PyData.depth, depth_ints r, Nat.max_self]
theorem shaped_list (l : List Nat) : SeqAt.shaped (.list (l.map fun n : Nat => PyData.int (n : Int))) = true := by
  unfold SeqAt.shaped
  simp only [PyData.canLay0, PyData.depth, lay_ints, depth_ints]
  decide
theorem shaped_tup (l : List Nat) : SeqAt.shaped (.tuple (l.map fun n : Nat => PyData.int (n : Int))) = true := by
  unfold SeqAt.shaped
  simp only [PyData.canLay0, PyData.depth, lay_ints, depth_ints]
  decide
theorem dp_ints {H : Hp} : ∀ l : List Nat, DpAll K H (VL l) (l.map fun n : Nat => PyData.int (n : Int))
  | [] => .nil
  | a :: r => .cons (.int _) (dp_ints r)
theorem eqv_nil (l : List Nat) : PyData.eqv (.list (l.map fun n : Nat => PyData.int (n : Int))) (.list []) = l.isEmpty := by
  cases l with
  | nil => simp only [List.map_nil, PyData.eqv, PyData.eqvAll, List.isEmpty_nil]
  | cons a r => simp only [List.map_cons, PyData.eqv, PyData.eqvAll, List.isEmpty_cons]
def spMay (K : PySem.W.Frag) (cM cO : Addr) : Sp := fun vs H Q _ => ∃ (p ms fl : Addr) (o : Si83.Order) (l : List Nat), vs = [.ref p, .ref fl] ∧ OrdAt cM cO H p ms o ∧ SqL K H fl (VL l) ∧ l.length = o.count ∧ OkO o ∧
  ∀ H', Same H H' → Q (.bl (o.right l)) H'
theorem scMay : FnScope ["self", "formula", "over", "k"] ["self", "formula"] (defScope sMay) := ⟨rfl, rfl, rfl, by decide +kernel, rfl, by decide +kernel, by decide +kernel⟩
theorem ok_may {f : Addr} (F : ∃ fd, Fun K "may_be" "Order.may_be" sMay f fd) (TMs : TM K cM) (TOs : TO K cO) (B : Bt mg) : Ok P w K mg base CX0 1 f ["self", "formula"] (spMay K cM cO) := by
  obtain ⟨fd, F⟩ := F
  refine ⟨fd, ?_, F.binds (ps := ["self", "formula"]) fun _ _ _ _ _ _ us hl => match us, hl with | [_, _], _ => rfl⟩
  refine F.ok scMay (fun vs H Q E h => ?_) (fun cdv A outer s H vs Q E hr h => ?_)
  · obtain ⟨p, ms, fl, o, l, rfl, _⟩ := h
    rfl
  · obtain ⟨p, ms, fl, o, l, rfl, hO, hl, hlen, ok, q⟩ := h
    obtain ⟨dx, b, ps, h1, h2, h3, h4, h5⟩ := hO
    refine ⟨_, pss_cons (ps_setLc (i := 2) (own := [("k", 3)]) (g := gName 3) (tt := tTest (tOp (rI0 fun i j => .bl (decide (j < i))) (tOp (rIxL K) (tVar 1) (tVar 3)) (tFld K (tOp (rIxL K) (tFld K (tVar 0) "materials") (tVar 3)) "most"))) (te := tVar 3)
        rfl scMay.nd rfl rfl (sw_true rfl rfl rfl (by decide +kernel)) (pi_range1 rfl B.range (by exact (pa_cons (pe_callB call_len_seq (by rfl) B.len PySem.boot_len (pa_cons (pv 1) pa_nil)) pa_nil)))
        (blkOk_by (own := [("k", 3)]) (N := ["self", "formula", "over", "k"]) (sc := defScope sMay) (by decide +kernel))
        (fun _ _ _ _ _ => pg_name (i := 3) scMay.nd rfl (Or.inl rfl))
        (fun _ _ _ _ _ => pts_one (pt_cmpR op_gt (pe_ix ix_list (pv 1) (pv 3) fun _ _ => rfl) (pe_fld (pe_ix ix_list (pe_fld (pv 0) rfl) (pv 3) fun _ _ => rfl) rfl) (nomark _)))
        (fun _ _ _ _ _ => pv 3))
      (pss_one (ps_ret (pe_and (pe_cmpR (op_eqD hr.units) (pv 2) (pe_lst pa_nil) (nomark _)) (pe_one (pe_cmpR op_gt (pe_callB (cr_sum rfl) (by rfl) B.sum (by decide +kernel) (pa_cons (pv 1) pa_nil)) pe_int (nomark _)))))), ?_⟩
    have l4 : o.count ≤ 4 := ok.cnt
    refine ⟨_, rfl, fl, VL l, rfl, .inl hl, _, rfl, (by rw [VL_len]; omega), (by rw [VL_len]; omega), fun D hD => ?_⟩
    have en : (((VL l).length : Nat) : Int).toNat = o.count := by rw [VL_len, hlen]; rfl
    rw [en]
    refine lc_range (lo := 0) (n := o.count) (fun i H' => Same H H' ∧ H' D = some (.lst (VL (ovr o l i)))) ⟨same_new hD, upd_same⟩ ?_ ?_
    · rintro i H1 hi ⟨sm, hd⟩
      refine ⟨rfl, ?_⟩
      obtain ⟨pm, hpm⟩ : ∃ pm, ps[i]? = some pm := ⟨_, List.getElem?_eq_getElem (by rw [h4]; exact hi)⟩
      obtain ⟨dm, lp, m1, m2⟩ := h5 i pm hpm
      have hil : i < l.length := by rw [hlen]; exact hi
      have e0 : (0 : Int) + (i : Int) = (i : Int) := Int.zero_add _
      refine ⟨_, rfl, _, rfl, fl, _, _, _, rfl, rfl, sm.seq hl, (by rw [e0]; exact atI_nat (VL_get hil)), ?_⟩
      refine ⟨_, rfl, p, cO, dx, _, _, rfl, sm _ _ h1, TOs.cl, TOs.nM, rfl, _, rfl, ms, _, _, _, rfl, rfl, .of (sm _ _ h3), (by rw [e0]; exact atI_nat (v := V.ref pm) (by rw [List.getElem?_map, hpm]; rfl)), ?_⟩
      refine ⟨pm, cM, dm, _, _, rfl, sm _ _ m1, TMs.cl, TMs.nO, rfl, _, _, rfl, rfl, _, rfl, ?_⟩
      by_cases c : (o.material i).most < l.getD i 0
      · rw [decide_eq_true (Int.ofNat_lt.mpr c)]
        refine iteT ⟨_, rfl, VL (ovr o l i), hd, szl (by have := ovr_len o l i; omega), same_mut sm hD, ?_⟩
        rw [upd_same, ovr_yes c, e0]
      · rw [decide_eq_false (fun z => c (Int.ofNat_lt.mp z))]
        refine iteF ⟨sm, ?_⟩
        rw [ovr_no c]
        exact hd
    · rintro H' ⟨sm, hd⟩
      refine ⟨_, rfl, Nat.zero_le _, fun z hz => ?_⟩
      have sz' : Same H' (upd H' z (.lst [])) := same_new hz
      refine ⟨_, _, .lst (.of (sz' _ _ hd)) (dp_ints _), .lst (.of upd_same) .nil, shaped_list _, shaped_list [], _, rfl, ?_⟩
      rw [eqv_nil]
      have er := right_ovr hlen
      cases ee : (ovr o l o.count).isEmpty with
      | false =>
        rw [ee] at er
        refine iteF ?_
        have g := q _ (fun b u e => sz' _ _ (sm _ _ e))
        rw [er] at g
        exact g
      | true =>
        rw [ee] at er
        refine iteT ?_
        refine ⟨_, rfl, fl, _, rfl, sz'.seq (sm.seq hl), _, _, rfl, rfl, ?_⟩
        have g := q _ (fun b u e => sz' _ _ (sm _ _ e))
        rw [er] at g
        rw [sum_cast]
        have ed : decide ((0 : Int) < ((l.sum : Nat) : Int)) = decide (0 < l.sum) := decide_eq_decide.mpr (by omega)
        show Q (.bl (decide ((0 : Int) < ((l.sum : Nat) : Int)))) _
        rw [ed]
        exact g
end
end Dn
namespace Dn
open PySem PySem.Spec PyProof.Rows L2
/-- a fraction in a tuple at t -/
def PtAt (K : PySem.W.Frag) (H : Hp) (t : Addr) (x : Si83.Part) : Prop := SqT K H t [VN x.n, VN x.d]
theorem PtAt.same {K : PySem.W.Frag} {H H' : Hp} {t : Addr} {x : Si83.Part} (s : Same H H') (h : PtAt K H t x) : PtAt K H' t x := same_t s h
theorem eqv_part (x y : Si83.Part) : PyData.eqv (.tuple ([x.n, x.d].map fun n : Nat => PyData.int (n : Int))) (.tuple ([y.n, y.d].map fun n : Nat => PyData.int (n : Int))) = decide (x = y) := by
  simp only [List.map_cons, List.map_nil, PyData.eqv, PyData.eqvAll, Bool.and_true]
  by_cases h : x = y
  · subst h
    simp
  · rw [decide_eq_false h]
    cases e : ((x.n : Int) == (y.n : Int) && (x.d : Int) == (y.d : Int)) with
    | false => rfl
    | true =>
      simp only [Bool.and_eq_true, beq_iff_eq] at e
      obtain ⟨a, b⟩ := x
      obtain ⟨c, d⟩ := y
      have e1 : a = c := Int.ofNat.inj e.1
      have e2 : b = d := Int.ofNat.inj e.2
      exact absurd (by rw [e1, e2]) h
theorem dp_part {K : PySem.W.Frag} {H : Hp} {t : Addr} {x : Si83.Part} (h : PtAt K H t x) : Dp K H (.ref t) (.tuple ([x.n, x.d].map fun n : Nat => PyData.int (n : Int))) := .tup h (dp_ints [x.n, x.d])
section
variable {P : Program} {w : World} {K : PySem.W.Frag} {mg : Str → Option Value} {base : Heap} {cM cO : Addr}
/-! ### Order.bound_of -/
def spBnd (K : PySem.W.Frag) (cM cO : Addr) : Sp := fun vs H Q _ => ∃ (p ms fl : Addr) (o : Si83.Order) (l : List Nat) (k : Nat), vs = [.ref p, .ref fl, VN k] ∧ OrdAt cM cO H p ms o ∧ SqL K H fl (VL l) ∧ OkF o l ∧ OkO o ∧ k < 3 ∧ 0 < o.has l k ∧
  ∀ H' t x, o.by_ l k = some x → Same H H' → PtAt K H' t x → Q (.ref t) H'
theorem scBnd : FnScope ["self", "formula", "substance"] ["self", "formula", "substance"] (defScope sBnd) := ⟨rfl, rfl, rfl, by decide +kernel, rfl, by decide +kernel, by decide +kernel⟩
theorem ok_bnd {f fL fA : Addr} (F : ∃ fd, Fun K "bound_of" "Order.bound_of" sBnd f fd) (TOs : TO K cO) (B : Bt mg) (nL : Nm K mg "lowest" fL) (GL : Ok P w K mg base CX0 2 fL ["top", "bottom"] spLow)
    (mA : Meth K cO "amount" fA) (GA : Ok P w K mg base CX0 1 fA ["self", "formula", "substance"] (spAmt K cM cO)) : Ok P w K mg base CX0 3 f ["self", "formula", "substance"] (spBnd K cM cO) := by
  obtain ⟨fd, F⟩ := F
  obtain ⟨fdL, GL, bL⟩ := GL
  obtain ⟨fdA, GA, bA⟩ := GA
  refine ⟨fd, ?_, F.binds (ps := ["self", "formula", "substance"]) fun _ _ _ _ _ _ us hl => match us, hl with | [_, _, _], _ => rfl⟩
  refine F.ok scBnd (fun vs H Q E h => ?_) (fun cdv A outer s H vs Q E hr h => ?_)
  · obtain ⟨p, ms, fl, o, l, k, rfl, _⟩ := h
    rfl
  · obtain ⟨p, ms, fl, o, l, k, rfl, hO, hl, okf, ok, hk, hh, q⟩ := h
    have hr1 : Room 1 _ := hr.mono (by decide)
    refine ⟨_, pss_one (ps_ret (pe_call GL hr rfl nL.g nL.k bL .nil pass0 (by exact (pa_cons
        (pe_op op_mul (pe_ix ix_list (pe_fld (pv 0) rfl) (pv 2) fun _ _ => rfl) (pe_callB (cr_sum rfl) (by rfl) B.sum (by decide +kernel) (pa_cons (pv 1) pa_nil)))
        (pa_cons (pe_op op_mul pe_int (pe_meth (pv 0) TOs.cl mA GA hr1 bA .nil pass0 (by exact (pa_cons (pv 1) (pa_cons (pv 2) pa_nil))))) pa_nil))))), ?_⟩
    obtain ⟨dx, b, ps, h1, h2, h3, h4, h5⟩ := id hO
    refine ⟨_, rfl, p, cO, dx, _, _, rfl, h1, TOs.cl, TOs.nB, rfl, _, rfl, b, _, _, _, rfl, rfl, .of h2, atI_nat (VL_get (by rw [ok.len]; exact hk)), ?_⟩
    have b1 := bound_le ok hk
    have b2 := has_le okf ok hk
    refine ⟨_, rfl, fl, _, rfl, hl, ?_⟩
    rw [sum_cast]
    have c1 : o.bounds.getD k 0 ≤ 10000 := b1
    refine ⟨_, _, rfl, rfl, cmul (by omega), ?_⟩
    refine ⟨_, rfl, p, dx, _, rfl, h1, rfl, _, rfl, _, rfl, ?_⟩
    refine ⟨p, ms, fl, o, l, k, rfl, hO, hl, okf.len, ok, hk, fun H' sm => ?_⟩
    refine ⟨_, _, rfl, rfl, (cmul (a := 10) (by decide) : CMul ((10 : Nat) : Int) (o.has l k : Int)), ?_⟩
    have e1 : ((o.bounds.getD k 0 : Nat) : Int) * ((l.sum : Nat) : Int) = ((o.bound k * l.sum : Nat) : Int) := (Int.natCast_mul _ _).symm
    have e2 : (10 : Int) * ((o.has l k : Nat) : Int) = ((10 * o.has l k : Nat) : Int) := (Int.natCast_mul 10 _).symm
    refine ⟨o.bound k * l.sum, 10 * o.has l k, ?_, by omega, by omega, fun t ht => ?_⟩
    · show [V.int _, V.int _] = _
      rw [e1, e2]
    · exact q _ t _ (by_some hh) (fun c u e => same_new ht c u (sm c u e)) (.of upd_same)
/-! ### Order.strength -/
def spStr (K : PySem.W.Frag) (cM cO : Addr) : Sp := fun vs H Q _ => ∃ (p ms fl : Addr) (o : Si83.Order) (l : List Nat), vs = [.ref p, .ref fl] ∧ OrdAt cM cO H p ms o ∧ SqL K H fl (VL l) ∧ OkF o l ∧ OkO o ∧
  ∀ H' t, Same H H' → PtAt K H' t (o.strong l) → Q (.ref t) H'
theorem scStr : FnScope ["self", "formula", "found", "substance", "bound"] ["self", "formula"] (defScope sStr) := ⟨rfl, rfl, rfl, by decide +kernel, rfl, by decide +kernel, by decide +kernel⟩
/-- PURE and SUBSTANCES as the top leaves them -/
structure Cons (K : PySem.W.Frag) (mg : Str → Option Value) : Prop where
  pure : ∃ t, mg "PURE" = some (.ref t) ∧ ∀ H, SqT K H t [.int 1, .int 1]
  subs : ∃ tk, mg "SUBSTANCES" = some (.int 3 tk)
theorem ok_str {f fA fB fL : Addr} (F : ∃ fd, Fun K "strength" "Order.strength" sStr f fd) (TOs : TO K cO) (B : Bt mg) (C : Cons K mg) (nL : Nm K mg "is_less" fL) (GL : Ok P w K mg base CX0 1 fL ["one", "other"] (spLess K))
    (mA : Meth K cO "amount" fA) (GA : Ok P w K mg base CX0 1 fA ["self", "formula", "substance"] (spAmt K cM cO)) (mB : Meth K cO "bound_of" fB) (GB : Ok P w K mg base CX0 3 fB ["self", "formula", "substance"] (spBnd K cM cO)) :
    Ok P w K mg base CX0 4 f ["self", "formula"] (spStr K cM cO) := by
  obtain ⟨fd, F⟩ := F
  obtain ⟨fdL, GL, bL⟩ := GL
  obtain ⟨fdA, GA, bA⟩ := GA
  obtain ⟨fdB, GB, bB⟩ := GB
  obtain ⟨⟨tP, gP, hP⟩, tk, gS⟩ := C
  refine ⟨fd, ?_, F.binds (ps := ["self", "formula"]) fun _ _ _ _ _ _ us hl => match us, hl with | [_, _], _ => rfl⟩
  refine F.ok scStr (fun vs H Q E h => ?_) (fun cdv A outer s H vs Q E hr h => ?_)
  · obtain ⟨p, ms, fl, o, l, rfl, _⟩ := h
    rfl
  · obtain ⟨p, ms, fl, o, l, rfl, hO, hl, okf, ok, q⟩ := h
    have hr1 : Room 1 _ := hr.mono (by decide)
    refine ⟨_, pss_cons (ps_set (i := 2) scStr.nd rfl (.inl rfl) (pe_glob (v := .ref tP) rfl gP rfl))
      (pss_cons (ps_for PassesOwn.never rfl (pi_range1 rfl B.range (by exact (pa_cons (pe_glob (v := .int 3) rfl gS ⟨_, rfl⟩) pa_nil))) (pg_name (i := 3) scStr.nd rfl (.inl rfl))
        (pss_one (ps_if (pt_cmpR op_gt (pe_meth (pv 0) TOs.cl mA GA hr1 bA .nil pass0 (by exact (pa_cons (pv 1) (pa_cons (pv 3) pa_nil)))) pe_int (nomark _))
          (pss_cons (ps_set (i := 4) scStr.nd rfl (.inl rfl) (pe_meth (pv 0) TOs.cl mB GB hr bB .nil pass0 (by exact (pa_cons (pv 1) (pa_cons (pv 3) pa_nil)))))
            (pss_one (ps_if (pt_val (pe_call GL hr1 rfl nL.g nL.k bL .nil pass0 (by exact (pa_cons (pv 4) (pa_cons (pv 2) pa_nil))))) (pss_one (ps_set (i := 2) scStr.nd rfl (.inl rfl) (pv 4))) pss_nil)))
          pss_nil)))
      (pss_one (ps_ret (pv 2)))), ?_⟩
    refine ⟨3, rfl, by decide, by decide, ?_⟩
    refine for_range (n := 3) (fun i σ H' => ∃ t v3 v4, σ = [some (.ref p), some (.ref fl), some (.ref t), v3, v4] ∧ Same H H' ∧ PtAt K H' t (strongTo o l i)) ⟨tP, none, none, rfl, Same.refl H, hP H⟩ ?_ ?_
    · rintro i σ H' hi ⟨t, v3, v4, rfl, sm, ht⟩
      have e0 : (0 : Int) + (i : Int) = (i : Int) := Int.zero_add _
      rw [e0]
      obtain ⟨dx, b, ps, h1, h2, h3, h4, h5⟩ := id hO
      refine ⟨_, rfl, p, dx, _, rfl, sm _ _ h1, rfl, _, rfl, _, rfl, ?_⟩
      refine ⟨p, ms, fl, o, l, i, rfl, hO.same sm, sm.seq hl, okf.len, ok, hi, fun H2 s2 => ?_⟩
      refine ⟨_, _, rfl, rfl, _, rfl, ?_⟩
      have s02 : Same H H2 := sm.trans s2
      have ts : strongTo o l (i + 1) = turn o l (strongTo o l i) i := strongTo_succ o l i
      by_cases c : 0 < o.has l i
      · rw [decide_eq_true (show (0 : Int) < ((o.has l i : Nat) : Int) by omega)]
        refine iteT ?_
        refine ⟨_, rfl, p, dx, _, rfl, s02 _ _ h1, rfl, _, rfl, _, rfl, ?_⟩
        refine ⟨p, ms, fl, o, l, i, rfl, hO.same s02, s02.seq hl, okf, ok, hi, c, fun H3 t2 x hx s3 ht2 => ?_⟩
        have tx : turn o l (strongTo o l i) i = if Si83.less x (strongTo o l i) = true then x else strongTo o l i := by
          unfold turn
          rw [hx]
        have xn : x.n ≤ 240000 := by
          rw [by_some c] at hx
          rw [← Option.some.inj hx]
          exact Nat.le_trans (lowest_n (by omega)) (top_le okf ok hi)
        have yn := strongTo_le okf ok i (by omega)
        refine ⟨_, rfl, _, rfl, t2, t, x, strongTo o l i, rfl, ht2, (ht.same s2).same s3, by omega, by omega, _, rfl, ?_⟩
        cases cl : Si83.less x (strongTo o l i) with
        | true =>
          refine iteT ⟨_, rfl, ?_⟩
          refine ⟨t2, some (VN i), some (.ref t2), rfl, s02.trans s3, ?_⟩
          rw [ts, tx, if_pos cl]
          exact ht2
        | false =>
          refine iteF ?_
          refine ⟨t, some (VN i), some (.ref t2), rfl, s02.trans s3, ?_⟩
          rw [ts, tx, if_neg (by rw [cl]; decide)]
          exact (ht.same s2).same s3
      · rw [decide_eq_false (show ¬ (0 : Int) < ((o.has l i : Nat) : Int) by omega)]
        refine iteF ?_
        refine ⟨t, some (VN i), v4, rfl, s02, ?_⟩
        rw [ts]
        unfold turn
        rw [by_none c]
        exact ht.same s2
    · rintro σ H' ⟨t, v3, v4, rfl, sm, ht⟩
      exact ⟨_, rfl, q H' t sm ht⟩
/-! ### Order.holding -/
def spHld (K : PySem.W.Frag) (cM cO : Addr) : Sp := fun vs H Q _ => ∃ (p ms fl : Addr) (o : Si83.Order) (l : List Nat), vs = [.ref p, .ref fl] ∧ OrdAt cM cO H p ms o ∧ SqL K H fl (VL l) ∧ OkF o l ∧ OkO o ∧
  ∀ H' d, Same H H' → H d = none → H' d = some (.lst (VL (o.holds l))) → Q (.ref d) H'
theorem scHld : FnScope ["self", "formula", "strength", "found", "substance"] ["self", "formula"] (defScope sHld) := ⟨rfl, rfl, rfl, by decide +kernel, rfl, by decide +kernel, by decide +kernel⟩
theorem ok_hld {f fA fB fS : Addr} (F : ∃ fd, Fun K "holding" "Order.holding" sHld f fd) (TOs : TO K cO) (B : Bt mg) (C : Cons K mg)
    (mA : Meth K cO "amount" fA) (GA : Ok P w K mg base CX0 1 fA ["self", "formula", "substance"] (spAmt K cM cO)) (mB : Meth K cO "bound_of" fB) (GB : Ok P w K mg base CX0 3 fB ["self", "formula", "substance"] (spBnd K cM cO))
    (mS : Meth K cO "strength" fS) (GS : Ok P w K mg base CX0 4 fS ["self", "formula"] (spStr K cM cO)) :
    Ok P w K mg base CX0 5 f ["self", "formula"] (spHld K cM cO) := by
  obtain ⟨fd, F⟩ := F
  obtain ⟨fdS, GS, bS⟩ := GS
  obtain ⟨fdA, GA, bA⟩ := GA
  obtain ⟨fdB, GB, bB⟩ := GB
  obtain ⟨_, tk, gS⟩ := C
  refine ⟨fd, ?_, F.binds (ps := ["self", "formula"]) fun _ _ _ _ _ _ us hl => match us, hl with | [_, _], _ => rfl⟩
  refine F.ok scHld (fun vs H Q E h => ?_) (fun cdv A outer s H vs Q E hr h => ?_)
  · obtain ⟨p, ms, fl, o, l, rfl, _⟩ := h
    rfl
  · obtain ⟨p, ms, fl, o, l, rfl, hO, hl, okf, ok, q⟩ := h
    have hr1 : Room 1 _ := hr.mono (by decide)
    have hr3 : Room 3 _ := hr.mono (by decide)
    refine ⟨_, pss_cons (ps_set (i := 2) scHld.nd rfl (.inl rfl) (pe_meth (pv 0) TOs.cl mS GS hr bS .nil pass0 (by exact (pa_cons (pv 1) pa_nil))))
      (pss_cons (ps_set (i := 3) scHld.nd rfl (.inl rfl) (pe_lst pa_nil))
      (pss_cons (ps_for PassesOwn.never rfl (pi_range1 rfl B.range (by exact (pa_cons (pe_glob (v := .int 3) rfl gS ⟨_, rfl⟩) pa_nil))) (pg_name (i := 4) scHld.nd rfl (.inl rfl))
        (pss_one (ps_if (PW.pt (pw_and (pt_cmpR op_gt (pe_meth (pv 0) TOs.cl mA GA hr1 bA .nil pass0 (by exact (pa_cons (pv 1) (pa_cons (pv 4) pa_nil)))) pe_int (nomark _))
            (pw_and1 (pt_cmpR (op_eqD hr.units) (pe_meth (pv 0) TOs.cl mB GB hr3 bB .nil pass0 (by exact (pa_cons (pv 1) (pa_cons (pv 4) pa_nil)))) (pv 2) (nomark _)))))
          (pss_one (ps_expr (pe_bm PySem.F.plainAttrs_list PySem.F.slot_list_append PySem.F.type_list_append mt_append (pv 3) (pa_cons (pv 4) pa_nil))))
          pss_nil)))
      (pss_one (ps_ret (pv 3))))), ?_⟩
    obtain ⟨dx, b, ps, h1, h2, h3, h4, h5⟩ := id hO
    refine ⟨_, rfl, p, dx, _, rfl, h1, rfl, _, rfl, p, ms, fl, o, l, rfl, hO, hl, okf, ok, fun H1 t s1 ht => ?_⟩
    refine ⟨Nat.zero_le _, fun d hd => ?_⟩
    have hd0 : H d = none := s1.free hd
    refine ⟨3, rfl, by decide, by decide, ?_⟩
    refine for_range (n := 3) (fun i σ H' => ∃ v4, σ = [some (.ref p), some (.ref fl), some (.ref t), some (.ref d), v4] ∧ Same H H' ∧ PtAt K H' t (o.strong l) ∧ H' d = some (.lst (VL (holdsTo o l i))))
      ⟨none, rfl, fun c u e => same_new hd c u (s1 c u e), ht.same (same_new hd), upd_same⟩ ?_ ?_
    · rintro i σ H' hi ⟨v4, rfl, sm, ht', hdl⟩
      have e0 : (0 : Int) + (i : Int) = (i : Int) := Int.zero_add _
      rw [e0]
      refine ⟨_, rfl, p, dx, _, rfl, sm _ _ h1, rfl, _, rfl, _, rfl, ?_⟩
      refine ⟨p, ms, fl, o, l, i, rfl, hO.same sm, sm.seq hl, okf.len, ok, hi, fun H2 s2 => ?_⟩
      refine ⟨_, _, rfl, rfl, _, rfl, ?_⟩
      have s02 : Same H H2 := sm.trans s2
      have ts := holdsTo_succ o l i
      by_cases c : 0 < o.has l i
      · rw [decide_eq_true (show (0 : Int) < ((o.has l i : Nat) : Int) by omega)]
        refine iteT ?_
        refine ⟨_, rfl, p, dx, _, rfl, s02 _ _ h1, rfl, _, rfl, _, rfl, ?_⟩
        refine ⟨p, ms, fl, o, l, i, rfl, hO.same s02, s02.seq hl, okf, ok, hi, c, fun H3 t2 x hx s3 ht2 => ?_⟩
        have s03 := s02.trans s3
        have ht3 := (ht'.same s2).same s3
        refine ⟨_, rfl, _, _, dp_part ht2, dp_part ht3, shaped_tup _, shaped_tup _, _, rfl, ?_⟩
        rw [eqv_part]
        have eb : (o.by_ l i == some (o.strong l)) = decide (x = o.strong l) := by
          rw [hx]
          by_cases z : x = o.strong l
          · rw [z]
            simp
          · rw [decide_eq_false z]
            simp [z]
        rw [eb] at ts
        have hd3 := s3 _ _ (s2 _ _ hdl)
        by_cases z : x = o.strong l
        · rw [decide_eq_true z] at ts ⊢
          refine iteT ?_
          refine ⟨_, rfl, .inl ⟨rfl, _, .of hd3⟩, _, rfl, d, _, _, rfl, rfl, hd3, szl (by rw [VL_len]; have := holdsTo_len o l i; omega), ?_⟩
          refine ⟨some (VN i), rfl, same_mut s03 hd0, ?_, ?_⟩
          · rcases ht3 with (h | ⟨ob, h⟩) | h
            · exact .inl (.inl (by rw [upd_ne (ne_of h hd3 (by intro z; cases z))]; exact h))
            · exact .inl (.inr ⟨ob, by rw [upd_ne (ne_of h hd3 (by intro z; cases z))]; exact h⟩)
            · exact .inr h
          · rw [upd_same, ts, if_pos rfl, VL_app]
            rfl
        · rw [decide_eq_false z] at ts ⊢
          refine iteF ?_
          refine ⟨some (VN i), rfl, s03, ht3, ?_⟩
          rw [ts, if_neg (by decide)]
          exact hd3
      · rw [decide_eq_false (show ¬ (0 : Int) < ((o.has l i : Nat) : Int) by omega)]
        refine iteF (iteF ?_)
        refine ⟨some (VN i), rfl, s02, ht'.same s2, ?_⟩
        rw [ts, by_none c]
        exact s2 _ _ hdl
    · rintro σ H' ⟨v4, rfl, sm, ht', hdl⟩
      refine ⟨_, rfl, q H' d sm hd0 ?_⟩
      rw [holdsTo_3] at hdl
      exact hdl
end
end Dn
namespace Dn
open PySem PySem.Spec PyProof.Rows L2
/-- lists of numbers at the addresses ps -/
def LL (H : Hp) (ps : List Addr) (fs : List (List Nat)) : Prop := ps.length = fs.length ∧ ∀ (j : Nat) (q : Addr), ps[j]? = some q → ∃ f : List Nat, fs[j]? = some f ∧ H q = some (.lst (VL f))
theorem LL.same {H H' : Hp} {ps : List Addr} {fs : List (List Nat)} (s : Same H H') (h : LL H ps fs) : LL H' ps fs :=
  ⟨h.1, fun j q e => let ⟨f, a, b⟩ := h.2 j q e; ⟨f, a, s _ _ b⟩⟩
theorem LL.nil {H : Hp} : LL H [] [] := ⟨rfl, fun j q e => by simp at e⟩
theorem LL.app {H : Hp} {ps qs : List Addr} {fs gs : List (List Nat)} (a : LL H ps fs) (b : LL H qs gs) : LL H (ps ++ qs) (fs ++ gs) := by
  refine ⟨by rw [List.length_append, List.length_append, a.1, b.1], fun j q e => ?_⟩
  by_cases hj : j < ps.length
  · rw [List.getElem?_append_left hj] at e
    obtain ⟨f, h1, h2⟩ := a.2 j q e
    exact ⟨f, by rw [List.getElem?_append_left (a.1 ▸ hj)]; exact h1, h2⟩
  · rw [List.getElem?_append_right (by omega)] at e
    obtain ⟨f, h1, h2⟩ := b.2 _ q e
    refine ⟨f, ?_, h2⟩
    rw [List.getElem?_append_right (by rw [← a.1]; omega), ← a.1]
    exact h1
theorem LL.one {H : Hp} {q : Addr} {f : List Nat} (h : H q = some (.lst (VL f))) : LL H [q] [f] := ⟨rfl, fun j r e => by
  cases j with
  | zero =>
    have : q = r := Option.some.inj e
    subst this
    exact ⟨f, rfl, h⟩
  | succ j => simp at e⟩
theorem LL.get {H : Hp} {ps : List Addr} {fs : List (List Nat)} (h : LL H ps fs) {j : Nat} {q : Addr} (e : ps[j]? = some q) : ∃ f, fs[j]? = some f ∧ f ∈ fs ∧ H q = some (.lst (VL f)) :=
  let ⟨f, a, b⟩ := h.2 j q e
  ⟨f, a, List.mem_of_getElem? a, b⟩
theorem ext_take {fs : List (List Nat)} {n j : Nat} {f : List Nat} (h : fs[j]? = some f) : ext (fs.take (j + 1)) n = ext (fs.take j) n ++ (List.range (n + 1)).map fun t => f ++ [t] := by
  rw [take_more h]
  unfold ext
  rw [List.flatMap_append]
  simp
def pre (f : List Nat) (t : Nat) : List (List Nat) := (List.range t).map fun t => f ++ [t]
theorem pre_succ (f : List Nat) (t : Nat) : pre f (t + 1) = pre f t ++ [f ++ [t]] := by
  unfold pre
  rw [List.range_succ, List.map_append]
  rfl
theorem pre_len (f : List Nat) (t : Nat) : (pre f t).length = t := by
  unfold pre
  rw [List.length_map, List.length_range]
theorem ext_take_len {fs : List (List Nat)} {n j : Nat} (hn : n ≤ 6) (hf : fs.length ≤ 2401) : (ext (fs.take j) n).length ≤ 16807 := by
  have a := ext_len (fs := fs.take j) hn
  have b : (fs.take j).length ≤ fs.length := by rw [List.length_take]; omega
  omega
section
variable {P : Program} {w : World} {K : PySem.W.Frag} {mg : Str → Option Value} {base : Heap} {cM cO : Addr}
/-! ### Order.all_formulas -/
def spAll (K : PySem.W.Frag) (cM cO : Addr) : Sp := fun vs H Q _ => ∃ (p ms : Addr) (o : Si83.Order), vs = [.ref p] ∧ OrdAt cM cO H p ms o ∧ OkO o ∧
  ∀ H' d ps, Same H H' → H' d = some (.lst (ps.map V.ref)) → LL H' ps o.formulas → Q (.ref d) H'
theorem scAll : FnScope ["self", "found", "material", "longer", "formula", "many"] ["self"] (defScope sAll) := ⟨rfl, rfl, rfl, by decide +kernel, rfl, by decide +kernel, by decide +kernel⟩
def rLstN (l : List Nat) : List V := VL l
theorem ok_all {f : Addr} (F : ∃ fd, Fun K "all_formulas" "Order.all_formulas" sAll f fd) (TMs : TM K cM) (TOs : TO K cO) (B : Bt mg) : Ok P w K mg base CX0 1 f ["self"] (spAll K cM cO) := by
  obtain ⟨fd, F⟩ := F
  refine ⟨fd, ?_, F.binds (ps := ["self"]) fun _ _ _ _ _ _ us hl => match us, hl with | [_], _ => rfl⟩
  refine F.ok scAll (fun vs H Q E h => ?_) (fun cdv A outer s H vs Q E hr h => ?_)
  · obtain ⟨p, ms, o, rfl, _⟩ := h
    rfl
  · obtain ⟨p, ms, o, rfl, hO, ok, q⟩ := h
    obtain ⟨dx, b, ps, h1, h2, h3, h4, h5⟩ := hO
    refine ⟨_, pss_cons (ps_set (i := 1) scAll.nd rfl (.inl rfl) (pe_lst (pa_cons (pe_lst pa_nil) pa_nil)))
      (pss_cons (ps_for PassesOwn.never rfl (pi_list (pe_fld (pv 0) rfl)) (pg_name (i := 2) scAll.nd rfl (.inl rfl))
        (pss_cons (ps_set (i := 3) scAll.nd rfl (.inl rfl) (pe_lst pa_nil))
        (pss_cons (ps_for PassesOwn.never rfl (pi_list (pv 1)) (pg_name (i := 4) scAll.nd rfl (.inr rfl))
          (pss_one (ps_set (i := 3) scAll.nd rfl (.inl rfl) (pe_op op_cat (pv 3)
            (by exact (pe_lc (own := [("many", 5)]) (g := gName 5) (tt := tYes) (te := tOp rCat (tVar 4) (tLst (tCons (tVar 5) tNil))) rfl scAll.nd (pi_range1 rfl B.range (by exact (pa_cons (pe_op op_add (pe_fld (pv 2) rfl) pe_int) pa_nil)))
              (blkOk_by (own := [("many", 5)]) (N := ["self", "found", "material", "longer", "formula", "many"]) (sc := defScope sAll) (by decide +kernel))
              (fun _ _ _ _ _ => pg_name (i := 5) scAll.nd rfl (Or.inl rfl))
              (fun _ _ _ _ _ => pts_nil)
              (fun _ _ _ _ _ => pe_op op_cat (pv 4) (pe_lst (pa_cons (pv 5) pa_nil)))))))))
        (pss_one (ps_set (i := 1) scAll.nd rfl (.inl rfl) (pv 3))))))
      (pss_one (ps_ret (by exact (pe_lc (own := [("formula", 4)]) (g := gName 4) (tt := tTest (tOp (rI0 fun i j => .bl (decide (j < i))) (tCB (rSum K) (tCons (tVar 4) tNil)) (tC (.int 0)))) (te := tVar 4) rfl scAll.nd (pi_list (pv 1))
              (blkOk_by (own := [("formula", 4)]) (N := ["self", "found", "material", "longer", "formula", "many"]) (sc := defScope sAll) (by decide +kernel))
              (fun _ _ _ _ _ => pg_name (i := 4) scAll.nd rfl (Or.inl rfl))
              (fun _ _ _ _ _ => pts_one (pt_cmpR op_gt (pe_callB (cr_sum rfl) (by rfl) B.sum (by decide +kernel) (by exact (pa_cons (pv 4) pa_nil))) pe_int (nomark _)))
              (fun _ _ _ _ _ => pv 4)))))), ?_⟩
    refine ⟨Nat.zero_le _, fun e0 he0 => ⟨(by show 1 ≤ sizeLine; decide), fun d0 hd0 => ?_⟩⟩
    have se : Same H (upd H e0 (.lst [])) := same_new he0
    have sd : Same (upd H e0 (.lst [])) (upd (upd H e0 (.lst [])) d0 (.lst [.ref e0])) := same_new hd0
    have s0 := se.trans sd
    refine ⟨_, rfl, p, cO, dx, _, _, rfl, s0 _ _ h1, TOs.cl, TOs.nM, rfl, ms, rfl, ⟨_, .of (s0 _ _ h3)⟩, ?_⟩
    refine for_list (K := K) (a := ms) (xs := ps.map V.ref) (fun i σ H' => ∃ (D : Addr) (rs : List Addr) (v2 v3 v4 v5 : Option V), σ = [some (.ref p), some (.ref D), v2, v3, v4, v5] ∧ Same H H' ∧ H' D = some (.lst (rs.map V.ref)) ∧ LL H' rs (found o i))
      ⟨d0, [e0], none, none, none, none, rfl, s0, upd_same, LL.one (sd _ _ upd_same)⟩ (fun i σ H' _ ⟨_, _, _, _, _, _, _, sm, _⟩ => .of (sm _ _ h3)) ?_ ?_
    · rintro i y σ H' hi ⟨D, rs, v2, v3, v4, v5, rfl, sm, hD, hLL⟩
      obtain ⟨pm, hpm, rfl⟩ := RL_inv hi
      have hic : i < o.count := by rw [← h4]; exact (List.getElem?_eq_some_iff.mp hpm).1
      obtain ⟨dm, lp, m1, m2⟩ := h5 i pm hpm
      have okm := ok.at_ hic
      have fl := found_small ok (Nat.le_of_lt hic)
      refine ⟨Nat.zero_le _, fun L hL => ?_⟩
      have sL : Same H' (upd H' L (.lst [])) := same_new hL
      refine ⟨_, rfl, D, rfl, ⟨_, .of (sL _ _ hD)⟩, ?_⟩
      refine for_list (K := K) (a := D) (xs := rs.map V.ref) (fun j σ H2 => ∃ (L : Addr) (qs : List Addr) (v4 v5 : Option V), σ = [some (.ref p), some (.ref D), some (.ref pm), some (.ref L), v4, v5] ∧ Same H' H2 ∧ H2 L = some (.lst (qs.map V.ref)) ∧ LL H2 qs (ext ((found o i).take j) (o.material i).most))
        ⟨L, [], v4, v5, rfl, sL, upd_same, LL.nil⟩ (fun j σ H2 _ ⟨_, _, _, _, _, s2, _⟩ => .of (s2 _ _ hD)) ?_ ?_
      · rintro j y σ H2 hj ⟨L, qs, v4, v5, rfl, s2, hL2, hLL2⟩
        obtain ⟨fa, hfa, rfl⟩ := RL_inv hj
        obtain ⟨fm, g1, g2, g3⟩ := hLL.get hfa
        have hfl : fm.length = i := found_mem_len i (Nat.le_of_lt hic) fm g2
        have i4 : i ≤ 4 := Nat.le_trans (Nat.le_of_lt hic) ok.cnt
        refine ⟨_, rfl, _, rfl, pm, cM, dm, _, _, rfl, s2 _ _ (sm _ _ m1), TMs.cl, TMs.nO, rfl, _, _, rfl, rfl, ?_⟩
        have m6 := okm.most
        refine ⟨_, rfl, (by omega), (by omega), fun E2 hE2 => ?_⟩
        have en : (((o.material i).most : Int) + 1).toNat = (o.material i).most + 1 := by omega
        rw [en]
        refine lc_range (lo := 0) (n := (o.material i).most + 1) (fun t H3 => ∃ us : List Addr, Same H2 H3 ∧ H3 E2 = some (.lst (us.map V.ref)) ∧ LL H3 us (pre fm t) ∧ E2 ∉ us) ⟨[], same_new hE2, upd_same, LL.nil, by simp⟩ ?_ ?_
        · rintro t H3 ht ⟨us, s3, hE3, hLL3, hn3⟩
          have e0 : (0 : Int) + (t : Int) = (t : Int) := Int.zero_add _
          rw [e0]
          refine ⟨rfl, _, rfl, _, rfl, (by show 1 ≤ sizeLine; decide), fun z hz => ?_⟩
          have sz3 : Same H3 (upd H3 z (.lst [VN t])) := same_new hz
          refine ⟨fa, z, VL fm, [VN t], rfl, rfl, sz3 _ _ (s3 _ _ (s2 _ _ g3)), upd_same, sz (by rw [VL_len]; show fm.length + 1 ≤ _; omega), fun x hx => ?_⟩
          have sx : Same (upd H3 z (.lst [VN t])) (upd (upd H3 z (.lst [VN t])) x (.lst (VL fm ++ [VN t]))) := same_new hx
          have hE4 := sx _ _ (sz3 _ _ hE3)
          have xE : x ≠ E2 := (ne_of_none (sz3 _ _ hE3) hx).symm
          have lus : us.length = t := by rw [hLL3.1, pre_len]
          refine ⟨us.map V.ref, hE4, szl (by rw [List.length_map]; omega), us ++ [x], same_mut (s3.trans (sz3.trans sx)) hE2, ?_, ?_, ?_⟩
          · rw [upd_same, List.map_append]
            rfl
          · rw [pre_succ]
            refine LL.app ⟨hLL3.1, fun k r e => ?_⟩ (LL.one ?_)
            · obtain ⟨f', a1, a2⟩ := hLL3.2 k r e
              have rE : r ≠ E2 := fun q => hn3 (q ▸ List.mem_of_getElem? e)
              exact ⟨f', a1, by rw [upd_ne rE]; exact sx _ _ (sz3 _ _ a2)⟩
            · rw [upd_ne xE, VL_app]
              exact upd_same
          · simp only [List.mem_append, List.mem_singleton, not_or]
            exact ⟨hn3, xE.symm⟩
        · rintro H3 ⟨us, s3, hE3, hLL3, hn3⟩
          have lqs : qs.length ≤ 16807 := by rw [hLL2.1]; exact ext_take_len m6 fl
          have lus : us.length ≤ 7 := by rw [hLL3.1, pre_len]; omega
          refine ⟨L, E2, _, _, rfl, rfl, s3 _ _ hL2, hE3, sz (by rw [List.length_map, List.length_map]; omega), fun x hx => ?_⟩
          have sx : Same H3 (upd H3 x (.lst (qs.map V.ref ++ us.map V.ref))) := same_new hx
          refine ⟨x, qs ++ us, _, _, rfl, s2.trans (s3.trans sx), ?_, ?_⟩
          · rw [upd_same, List.map_append]
          · rw [ext_take g1]
            exact LL.app ((hLL2.same s3).same sx) (hLL3.same sx)
      · rintro σ H2 ⟨L, qs, v4, v5, rfl, s2, hL2, hLL2⟩
        refine ⟨_, rfl, ?_⟩
        refine ⟨L, qs, _, _, _, _, rfl, sm.trans s2, hL2, ?_⟩
        rw [List.length_map, List.take_of_length_le (Nat.le_of_eq hLL.1.symm)] at hLL2
        rw [found_succ hic]
        exact hLL2
    · rintro σ H' ⟨D, rs, v2, v3, v4, v5, rfl, sm, hD, hLL⟩
      rw [List.length_map, h4, found_all] at hLL
      refine ⟨_, rfl, D, rfl, ⟨_, .of hD⟩, fun R hR => ?_⟩
      refine lc_list (K := K) (a := D) (xs := rs.map V.ref) (fun i H2 => ∃ us : List Addr, Same H' H2 ∧ H2 R = some (.lst (us.map V.ref)) ∧ LL H2 us (((Si83.rows (o.materials.map fun m => m.most)).take i).filter fun l => decide (0 < l.sum)) ∧ R ∉ us)
        ⟨[], same_new hR, upd_same, LL.nil, by simp⟩ (fun i H2 _ ⟨_, s2, _⟩ => .of (s2 _ _ hD)) ?_ ?_
      · rintro i y H2 hi ⟨us, s2, hR2, hLL2, hn2⟩
        obtain ⟨fa, hfa, rfl⟩ := RL_inv hi
        obtain ⟨fm, g1, g2, g3⟩ := hLL.get hfa
        refine ⟨rfl, _, rfl, fa, _, rfl, .of (s2 _ _ g3), _, _, rfl, rfl, _, rfl, ?_⟩
        rw [sum_cast]
        have tk := take_more g1
        by_cases c : 0 < fm.sum
        · rw [decide_eq_true (show (0 : Int) < ((fm.sum : Nat) : Int) by omega)]
          refine iteT ⟨_, rfl, us.map V.ref, hR2, ?_, us ++ [fa], same_mut s2 hR, ?_, ?_, ?_⟩
          · refine szl ?_
            rw [List.length_map, hLL2.1]
            have a := List.length_filter_le (fun l : List Nat => decide (0 < l.sum)) ((Si83.rows (o.materials.map fun m => m.most)).take i)
            have b : ((Si83.rows (o.materials.map fun m => m.most)).take i).length ≤ (Si83.rows (o.materials.map fun m => m.most)).length := by rw [List.length_take]; omega
            have c := found_small ok (Nat.le_refl o.count)
            rw [found_all] at c
            omega
          · rw [upd_same, List.map_append]
            rfl
          · rw [tk, List.filter_append, List.filter_cons, if_pos (decide_eq_true c)]
            refine LL.app ⟨hLL2.1, fun k r e => ?_⟩ (LL.one ?_)
            · obtain ⟨f', a1, a2⟩ := hLL2.2 k r e
              have rE : r ≠ R := fun q => hn2 (q ▸ List.mem_of_getElem? e)
              exact ⟨f', a1, by rw [upd_ne rE]; exact a2⟩
            · rw [upd_ne (ne_of_none g3 hR)]
              exact s2 _ _ g3
          · simp only [List.mem_append, List.mem_singleton, not_or]
            exact ⟨hn2, (ne_of_none g3 hR).symm⟩
        · rw [decide_eq_false (show ¬ (0 : Int) < ((fm.sum : Nat) : Int) by omega)]
          refine iteF ⟨us, s2, hR2, ?_, hn2⟩
          rw [tk, List.filter_append, List.filter_cons, if_neg (by rw [decide_eq_false c]; decide)]
          show LL H2 us (_ ++ [])
          rw [List.append_nil]
          exact hLL2
      · rintro H2 ⟨us, s2, hR2, hLL2, hn2⟩
        refine q H2 R us (sm.trans s2) hR2 ?_
        rw [List.length_map, List.take_of_length_le (Nat.le_of_eq hLL.1.symm)] at hLL2
        rw [formulas_eq]
        exact hLL2
end
end Dn
namespace Dn
open PySem PySem.Spec PyProof.Rows L2
structure TB (K : PySem.W.Frag) (cB : Addr) : Prop where
  cl : Cls K cB
  nY : NoAttr K cB "by_strength"
  nS : NoAttr K cB "strength_found"
  nC : NoAttr K cB "changed_found"
  nM : NoAttr K cB "many"
  nF : NoAttr K cB "formula"
def fB (y : Bool) (sf : V) (c m : Nat) (fl : Addr) : List (Str × V) := [("by_strength", .bl y), ("strength_found", sf), ("changed_found", VN c), ("many", VN m), ("formula", .ref fl)]
/-- what stands in a Best at p -/
def BestAt (K : PySem.W.Frag) (cB : Addr) (H : Hp) (p : Addr) (y : Bool) : Option Si83.Best → Prop
  | none => ∃ dx fl, H p = some (.ins cB dx (fB y .non 0 0 fl))
  | some b => ∃ dx t fl, H p = some (.ins cB dx (fB y (.ref t) b.changed b.many fl)) ∧ PtAt K H t b.strong ∧ H fl = some (.lst (VL b.row))
theorem pt_but {K : PySem.W.Frag} {H H' : Hp} {t p : Addr} {x : Si83.Part} {C dx : Addr} {fs : List (Str × V)} (hp : H p = some (.ins C dx fs)) (s : But p H H') (h : PtAt K H t x) : PtAt K H' t x := by
  rcases h with (h | ⟨o, h⟩) | h
  · exact .inl (.inl (s _ _ (ne_of h hp (by intro z; cases z)) h))
  · exact .inl (.inr ⟨o, s _ _ (ne_of h hp (by intro z; cases z)) h⟩)
  · exact .inr h
theorem BestAt.same {K : PySem.W.Frag} {cB : Addr} {H H' : Hp} {p : Addr} {y : Bool} {r : Option Si83.Best} (s : Same H H') (h : BestAt K cB H p y r) : BestAt K cB H' p y r := by
  cases r with
  | none =>
    obtain ⟨dx, fl, h⟩ := h
    exact ⟨dx, fl, s _ _ h⟩
  | some b =>
    obtain ⟨dx, t, fl, h1, h2, h3⟩ := h
    exact ⟨dx, t, fl, s _ _ h1, h2.same s, s _ _ h3⟩
theorem better_f (b : Si83.Best) (x : Si83.Part) (c : Nat) : better false (some b) x c = if c ≠ b.changed then decide (c < b.changed) else Si83.less b.strong x := by
  show (if (false && decide (x ≠ b.strong)) = true then Si83.less b.strong x else if c ≠ b.changed then decide (c < b.changed) else Si83.less b.strong x) = _
  rw [if_neg (show ¬ ((false && decide (x ≠ b.strong)) = true) by simp)]
theorem better_t (b : Si83.Best) {x : Si83.Part} {c : Nat} (z : x = b.strong) : better true (some b) x c = if c ≠ b.changed then decide (c < b.changed) else Si83.less b.strong x := by
  show (if (true && decide (x ≠ b.strong)) = true then Si83.less b.strong x else if c ≠ b.changed then decide (c < b.changed) else Si83.less b.strong x) = _
  rw [if_neg (show ¬ ((true && decide (x ≠ b.strong)) = true) by simp [z])]
theorem better_u (b : Si83.Best) {x : Si83.Part} {c : Nat} (z : ¬ x = b.strong) : better true (some b) x c = Si83.less b.strong x := by
  show (if (true && decide (x ≠ b.strong)) = true then Si83.less b.strong x else if c ≠ b.changed then decide (c < b.changed) else Si83.less b.strong x) = _
  rw [if_pos (show (true && decide (x ≠ b.strong)) = true by simp [z])]
section
variable {P : Program} {w : World} {K : PySem.W.Frag} {mg : Str → Option Value} {base : Heap} {cB : Addr}
/-! ### Best.__init__ -/
def spBI (cB : Addr) : Sp := fun vs H Q _ => ∃ (p dx : Addr) (y : Bool), vs = [.ref p, .bl y] ∧ H p = some (.ins cB dx []) ∧ ∀ fl, H fl = none → Q .non (upd (upd H fl (.lst [])) p (.ins cB dx (fB y .non 0 0 fl)))
theorem scBI : FnScope ["self", "by_strength"] ["self", "by_strength"] (defScope sBI) := ⟨rfl, rfl, rfl, by decide +kernel, rfl, by decide +kernel, by decide +kernel⟩
theorem ok_BI {f : Addr} (F : ∃ fd, Fun K "__init__" "Best.__init__" sBI f fd) (T : TB K cB) : Ok P w K mg base CX0 1 f ["self", "by_strength"] (spBI cB) := by
  obtain ⟨fd, F⟩ := F
  refine ⟨fd, ?_, F.binds (ps := ["self", "by_strength"]) fun _ _ _ _ _ _ us hl => match us, hl with | [_, _], _ => rfl⟩
  refine F.ok scBI (fun vs H Q E h => ?_) (fun cdv A outer s H vs Q E hr h => ?_)
  · obtain ⟨p, dx, y, rfl, _⟩ := h
    rfl
  · obtain ⟨p, dx, y, rfl, hp, k⟩ := h
    refine ⟨_, pss_cons (ps_fld (pv 0) (pv 1) rfl) (pss_cons (ps_fld (pv 0) pe_non rfl) (pss_cons (ps_fld (pv 0) pe_int rfl) (pss_cons (ps_fld (pv 0) pe_int rfl) (pss_one (ps_fld (pv 0) (pe_lst pa_nil) rfl))))), ?_⟩
    refine ⟨_, rfl, _, rfl, p, cB, dx, _, rfl, hp, T.cl, T.nY, (by show 0 < 1000; decide), ?_⟩
    refine ⟨_, rfl, p, cB, dx, _, rfl, upd_same, T.cl, T.nS, (by show 1 < 1000; decide), ?_⟩
    refine ⟨_, rfl, p, cB, dx, _, rfl, upd_same, T.cl, T.nC, (by show 2 < 1000; decide), ?_⟩
    refine ⟨_, rfl, p, cB, dx, _, rfl, upd_same, T.cl, T.nM, (by show 3 < 1000; decide), ?_⟩
    refine ⟨Nat.zero_le _, fun fl hfl => ?_⟩
    rw [upd_upd, upd_upd, upd_upd] at hfl ⊢
    have n : fl ≠ p := fun q => by
      rw [q, upd_same] at hfl
      cases hfl
    have hm : H fl = none := by rwa [upd_ne n] at hfl
    refine ⟨_, rfl, p, cB, dx, _, rfl, (by rw [upd_ne n.symm]; exact upd_same), T.cl, T.nF, (by show 4 < 1000; decide), ?_⟩
    have q := k fl hm
    rw [upd_comm n] at q
    rw [upd_comm n, upd_upd]
    exact q
/-! ### Best.is_better -/
def spIsB (K : PySem.W.Frag) (cB : Addr) : Sp := fun vs H Q _ => ∃ (p t : Addr) (y : Bool) (r : Option Si83.Best) (x : Si83.Part) (c : Nat), vs = [.ref p, .ref t, VN c] ∧ BestAt K cB H p y r ∧ PtAt K H t x ∧ x.n < 18446744073709551616 ∧
  (∀ b, r = some b → b.strong.n < 18446744073709551616) ∧ Q (.bl (better y r x c)) H
theorem scIsB : FnScope ["self", "strength", "changed"] ["self", "strength", "changed"] (defScope sIsB) := ⟨rfl, rfl, rfl, by decide +kernel, rfl, by decide +kernel, by decide +kernel⟩
theorem ok_isb {f fL : Addr} (F : ∃ fd, Fun K "is_better" "Best.is_better" sIsB f fd) (T : TB K cB) (nL : Nm K mg "is_less" fL) (GL : Ok P w K mg base CX0 1 fL ["one", "other"] (spLess K)) : Ok P w K mg base CX0 2 f ["self", "strength", "changed"] (spIsB K cB) := by
  obtain ⟨fd, F⟩ := F
  obtain ⟨fdL, GL, bL⟩ := GL
  refine ⟨fd, ?_, F.binds (ps := ["self", "strength", "changed"]) fun _ _ _ _ _ _ us hl => match us, hl with | [_, _, _], _ => rfl⟩
  refine F.ok scIsB (fun vs H Q E h => ?_) (fun cdv A outer s H vs Q E hr h => ?_)
  · obtain ⟨p, t, y, r, x, c, rfl, _⟩ := h
    rfl
  · obtain ⟨p, t, y, r, x, c, rfl, hB, ht, hx, hr2, k⟩ := h
    refine ⟨_, pss_cons (ps_if (pt_cmpR op_isN (pe_fld (pv 0) rfl) pe_non (nomark _)) (pss_one (ps_ret pe_bl)) pss_nil)
      (pss_cons (ps_if (PW.pt (pw_and (pt_val (pe_fld (pv 0) rfl)) (pw_and1 (pt_cmpR (op_neD hr.units) (pv 1) (pe_fld (pv 0) rfl) (nomark _))))) (pss_one (ps_ret (pe_call GL hr rfl nL.g nL.k bL .nil pass0 (by exact (pa_cons (pe_fld (pv 0) rfl) (pa_cons (pv 1) pa_nil)))))) pss_nil)
      (pss_cons (ps_if (pt_cmpR op_ne (pv 2) (pe_fld (pv 0) rfl) (nomark _)) (pss_one (ps_ret (pe_cmpR op_lt (pv 2) (pe_fld (pv 0) rfl) (nomark _)))) pss_nil)
      (pss_one (ps_ret (pe_call GL hr rfl nL.g nL.k bL .nil pass0 (by exact (pa_cons (pe_fld (pv 0) rfl) (pa_cons (pv 1) pa_nil)))))))), ?_⟩
    cases r with
    | none =>
      obtain ⟨dx, fl, hp⟩ := hB
      refine ⟨_, rfl, p, cB, dx, _, _, rfl, hp, T.cl, T.nS, rfl, rfl, _, rfl, ?_⟩
      exact k
    | some b =>
      obtain ⟨dx, t0, fl, hp, h2, h3⟩ := hB
      have hbn := hr2 b rfl
      have less : ∀ Q' : VK, Q' (.bl (Si83.less b.strong x)) H → spLess K [.ref t0, .ref t] H Q' E := fun Q' g => ⟨t0, t, b.strong, x, rfl, h2, ht, hbn, hx, g⟩
      refine ⟨_, rfl, p, cB, dx, _, _, rfl, hp, T.cl, T.nS, rfl, rfl, _, rfl, ?_⟩
      have tail : better y (some b) x c = (if c ≠ b.changed then decide (c < b.changed) else Si83.less b.strong x) →
          (tSeq (tIfS (tTest (tOp rNe (tVar 2) (tFld K (tVar 0) "changed_found"))) (tRet (tOp (rI0 fun i j => .bl (decide (i < j))) (tVar 2) (tFld K (tVar 0) "changed_found"))) tNext)
            (tRet (tCall (spLess K) [] E0 (tCons (tFld K (tVar 0) "strength_found") (tCons (tVar 1) tNil))))) { nx := fun _ H' => Q .non H', rt := Q } (start ["self", "strength", "changed"] [.ref p, .ref t, VN c]) H := fun e => by
        refine ⟨_, rfl, _, rfl, p, cB, dx, _, _, rfl, hp, T.cl, T.nC, rfl, rfl, _, rfl, ?_⟩
        by_cases z : c = b.changed
        · have dz : decide (VN c = VN b.changed) = true := decide_eq_true (by rw [z])
          rw [if_neg (by simp [z])] at e
          rw [dz]
          refine iteF ?_
          refine ⟨_, rfl, p, cB, dx, _, _, rfl, hp, T.cl, T.nS, rfl, _, rfl, t0, t, b.strong, x, rfl, h2, ht, hbn, hx, ?_⟩
          rw [e] at k
          exact k
        · have dz : decide (VN c = VN b.changed) = false := decide_eq_false (fun q => by injection q with q; omega)
          rw [if_pos z] at e
          rw [dz]
          refine iteT ?_
          refine ⟨_, rfl, _, rfl, p, cB, dx, _, _, rfl, hp, T.cl, T.nC, rfl, _, _, rfl, rfl, ?_⟩
          have ed : decide ((c : Int) < (b.changed : Int)) = decide (c < b.changed) := decide_eq_decide.mpr (by omega)
          show Q (.bl (decide ((c : Int) < (b.changed : Int)))) H
          rw [ed]
          rw [e] at k
          exact k
      refine ⟨_, rfl, p, cB, dx, _, _, rfl, hp, T.cl, T.nY, rfl, _, rfl, ?_⟩
      cases y with
      | false =>
        refine iteF (iteF ?_)
        exact tail (better_f b x c)
      | true =>
        refine iteT ?_
        refine ⟨_, rfl, _, rfl, p, cB, dx, _, _, rfl, hp, T.cl, T.nS, rfl, _, _, dp_part ht, dp_part h2, shaped_tup _, shaped_tup _, _, rfl, ?_⟩
        rw [eqv_part]
        by_cases z : x = b.strong
        · rw [decide_eq_true z]
          refine iteF ?_
          exact tail (better_t b z)
        · rw [decide_eq_false z]
          refine iteT ?_
          refine ⟨_, rfl, p, cB, dx, _, _, rfl, hp, T.cl, T.nS, rfl, _, rfl, t0, t, b.strong, x, rfl, h2, ht, hbn, hx, ?_⟩
          have e : better true (some b) x c = Si83.less b.strong x := better_u b z
          rw [e] at k
          exact k
/-! ### Best.meet -/
def spMeet (K : PySem.W.Frag) (cB : Addr) : Sp := fun vs H Q _ => ∃ (p t fl : Addr) (y : Bool) (r : Option Si83.Best) (x : Si83.Part) (c : Nat) (l : List Nat), vs = [.ref p, .ref t, VN c, .ref fl] ∧ BestAt K cB H p y r ∧ PtAt K H t x ∧ H fl = some (.lst (VL l)) ∧
  x.n < 18446744073709551616 ∧ (∀ b, r = some b → b.strong.n < 18446744073709551616) ∧ ∀ H', But p H H' → BestAt K cB H' p y (meet y r x c l) → Q .non H'
theorem scMeet : FnScope ["self", "strength", "changed", "formula"] ["self", "strength", "changed", "formula"] (defScope sMeet) := ⟨rfl, rfl, rfl, by decide +kernel, rfl, by decide +kernel, by decide +kernel⟩
theorem ok_meet {f fI : Addr} (F : ∃ fd, Fun K "meet" "Best.meet" sMeet f fd) (T : TB K cB) (B : Bt mg) (mI : Meth K cB "is_better" fI) (GI : Ok P w K mg base CX0 2 fI ["self", "strength", "changed"] (spIsB K cB)) :
    Ok P w K mg base CX0 3 f ["self", "strength", "changed", "formula"] (spMeet K cB) := by
  obtain ⟨fd, F⟩ := F
  obtain ⟨fdI, GI, bI⟩ := GI
  refine ⟨fd, ?_, F.binds (ps := ["self", "strength", "changed", "formula"]) fun _ _ _ _ _ _ us hl => match us, hl with | [_, _, _, _], _ => rfl⟩
  refine F.ok scMeet (fun vs H Q E h => ?_) (fun cdv A outer s H vs Q E hr h => ?_)
  · obtain ⟨p, t, fl, y, r, x, c, l, rfl, _⟩ := h
    rfl
  · obtain ⟨p, t, fl, y, r, x, c, l, rfl, hB, ht, hfl, hx, hr2, k⟩ := h
    refine ⟨_, pss_cons (ps_if (pt_val (pe_meth (pv 0) T.cl mI GI hr bI .nil pass0 (by exact (pa_cons (pv 1) (pa_cons (pv 2) pa_nil)))))
        (pss_cons (ps_fld (pv 0) (pv 1) rfl) (pss_cons (ps_fld (pv 0) (pv 2) rfl) (pss_cons (ps_fld (pv 0) pe_int rfl) (pss_one (ps_fld (pv 0) (pv 3) rfl))))) pss_nil)
      (pss_one (ps_fldaug (pv 0) (pe_callTy call_int1 (by rfl) B.int (by decide +kernel) (by exact (pa_cons
        (pe_and (pe_cmpR (op_eqD hr.units) (pv 1) (pe_fld (pv 0) rfl) (nomark _)) (pe_one (pe_cmpR op_eq (pv 2) (pe_fld (pv 0) rfl) (nomark _)))) pa_nil))) in_add)), ?_⟩
    -- behind the if: the last statement over a Best that holds something
    have last : ∀ (H1 : Hp) (dx t0 fl0 : Addr) (b : Si83.Best), But p H H1 → H1 p = some (.ins cB dx (fB y (.ref t0) b.changed b.many fl0)) → PtAt K H1 t0 b.strong → H1 fl0 = some (.lst (VL b.row)) → PtAt K H1 t x →
        (∀ H', But p H H' → BestAt K cB H' p y (if x = b.strong ∧ c = b.changed then some { b with many := b.many + 1 } else some b) → Q .non H') →
        (sFldAug K (tVar 0) (tCB (fun xs H Q => (∃ i, xs = [.int i] ∧ Q (.int i) H) ∨ ∃ k, xs = [.bl k] ∧ Q (.int (if k then 1 else 0)) H) (tCons (tAndV (tOp (rEqD K) (tVar 1) (tFld K (tVar 0) "strength_found")) (tOp rEq (tVar 2) (tFld K (tVar 0) "changed_found"))) tNil)) rAdd "many")
          { nx := fun _ H' => Q .non H', rt := Q } (start ["self", "strength", "changed", "formula"] [.ref p, .ref t, VN c, .ref fl]) H1 := fun H1 dx t0 fl0 b sb hp h2 h3 ht1 kk => by
      refine ⟨_, rfl, p, cB, dx, _, _, rfl, hp, T.cl, T.nM, rfl, ?_⟩
      refine ⟨_, rfl, _, rfl, p, cB, dx, _, _, rfl, hp, T.cl, T.nS, rfl, _, _, dp_part ht1, dp_part h2, shaped_tup _, shaped_tup _, _, rfl, ?_⟩
      rw [eqv_part]
      have fin : ∀ (z : Bool), (z = true ↔ (x = b.strong ∧ c = b.changed)) → (fun xs (H : Hp) (Q : VK) => (∃ i, xs = [V.int i] ∧ Q (.int i) H) ∨ ∃ k : Bool, xs = [.bl k] ∧ Q (.int (if k then 1 else 0)) H) [.bl z] H1
          (fun y_1 H2 => rAdd (VN b.many) y_1 H2 fun z H3 => ∃ dx' fs', H3 p = some (.ins cB dx' fs') ∧ fs'.length < 1000 ∧ Q .non (upd H3 p (.ins cB dx' (putF "many" z fs')))) := fun z hz => by
        refine .inr ⟨z, rfl, _, _, rfl, rfl, dx, _, hp, (by show 5 < 1000; decide), ?_⟩
        refine kk _ (sb.trans But.upd_) ?_
        have bu : But p H1 (upd H1 p (.ins cB dx (putF "many" (.int ((b.many : Int) + (if z then 1 else 0))) (fB y (.ref t0) b.changed b.many fl0)))) := But.upd_
        cases z with
        | true =>
          rw [if_pos (show x = b.strong ∧ c = b.changed from hz.mp rfl)]
          refine ⟨dx, t0, fl0, ?_, pt_but hp bu h2, ?_⟩
          · rw [upd_same]
            rfl
          · exact bu _ _ (ne_of h3 hp (by intro z; cases z)) h3
        | false =>
          rw [if_neg (show ¬ (x = b.strong ∧ c = b.changed) from fun q => by have := hz.mpr q; cases this)]
          refine ⟨dx, t0, fl0, ?_, pt_but hp bu h2, ?_⟩
          · rw [upd_same]
            rfl
          · exact bu _ _ (ne_of h3 hp (by intro z; cases z)) h3
      by_cases z : x = b.strong
      · rw [decide_eq_true z]
        refine iteT ?_
        refine ⟨_, rfl, _, rfl, p, cB, dx, _, _, rfl, hp, T.cl, T.nC, rfl, rfl, ?_⟩
        refine fin _ ?_
        constructor
        · intro q
          have := of_decide_eq_true q
          injection this with this
          exact ⟨z, by omega⟩
        · rintro ⟨_, q⟩
          exact decide_eq_true (by rw [q])
      · rw [decide_eq_false z]
        refine iteF ?_
        refine fin _ ?_
        exact ⟨fun q => (by cases q), fun q => absurd q.1 z⟩
    have hpd : ∃ dx fs, H p = some (.ins cB dx fs) ∧ fs.lookup ("is_better" : Str) = none ∧ ∃ sf c0 m0 fl0, fs = fB y sf c0 m0 fl0 := by
      cases r with
      | none =>
        obtain ⟨dx, fl, hp⟩ := hB
        exact ⟨dx, _, hp, rfl, _, _, _, _, rfl⟩
      | some b =>
        obtain ⟨dx, t0, fl, hp, _⟩ := hB
        exact ⟨dx, _, hp, rfl, _, _, _, _, rfl⟩
    obtain ⟨dx, fs, hp, nol, sf, c0, m0, fl0, rfl⟩ := hpd
    refine ⟨_, rfl, p, dx, _, rfl, hp, nol, _, rfl, _, rfl, p, t, y, r, x, c, rfl, hB, ht, hx, hr2, _, rfl, ?_⟩
    cases eb : better y r x c with
    | true =>
      refine iteT ?_
      refine ⟨_, rfl, _, rfl, p, cB, dx, _, rfl, hp, T.cl, T.nS, (by show 5 < 1000; decide), ?_⟩
      refine ⟨_, rfl, _, rfl, p, cB, dx, _, rfl, upd_same, T.cl, T.nC, (by show 5 < 1000; decide), ?_⟩
      refine ⟨_, rfl, p, cB, dx, _, rfl, upd_same, T.cl, T.nM, (by show 5 < 1000; decide), ?_⟩
      refine ⟨_, rfl, _, rfl, p, cB, dx, _, rfl, upd_same, T.cl, T.nF, (by show 5 < 1000; decide), ?_⟩
      rw [upd_upd, upd_upd, upd_upd]
      have bu : But p H (upd H p (.ins cB dx (fB y (.ref t) c 0 fl))) := But.upd_
      refine last (upd H p (.ins cB dx (fB y (.ref t) c 0 fl))) dx t fl ⟨x, c, 0, l⟩ bu upd_same (pt_but hp bu ht) (bu _ _ (ne_of hfl hp (by intro z; cases z)) hfl) (pt_but hp bu ht) (fun H' b' g => k H' b' ?_)
      have e : meet y r x c l = some ⟨x, c, 1, l⟩ := by
        cases r with
        | none => rfl
        | some b =>
          show (if better y (some b) x c = true then _ else _) = _
          rw [if_pos eb]
      rw [e]
      rw [if_pos ⟨rfl, rfl⟩] at g
      exact g
    | false =>
      refine iteF ?_
      cases r with
      | none => cases eb
      | some b =>
        obtain ⟨dx', t0, fl1, hp', h2, h3⟩ := hB
        refine last H dx' t0 fl1 b (But.refl p H) hp' h2 h3 ht (fun H' b' g => k H' b' ?_)
        have e : meet y (some b) x c l = (if x = b.strong ∧ c = b.changed then some { b with many := b.many + 1 } else some b) := by
          show (if better y (some b) x c = true then _ else _) = _
          rw [if_neg (by rw [eb]; decide)]
        rw [e]
        exact g
end
end Dn
namespace Dn
open PySem PySem.Spec PyProof.Rows L2
/-- what the written part says of Refused, its __init__ at iR -/
structure TR (K : PySem.W.Frag) (mg : Str → Option Value) (cR iR : Addr) : Prop where
  ox : OexC K cR
  xf : XfC K cR
  no : PySem.W.findIn K (.ref cR) "number" = some none
  ini : PySem.W.findIn K (.ref cR) "__init__" = some (some (.ref iR))
  ty : PySem.W.typeIn K (.ref iR) = some (.type "function")
  g : mg "Refused" = some (.ref cR)
  te : PySem.W.exmOne K (.ref cR) (.ref cR) = some true
abbrev sRI : Stmt := inClass (top 15) 0
/-- an error with that number is in the air -/
def Ref (cR : Addr) (H : Hp) (n : Int) (E : XK) : Prop := ∀ d H', Same H H' → H' d = some (.xd [("number", .int n)]) → E (.ref cR) (some d) H'
theorem Ref.same {cR : Addr} {H H' : Hp} {n : Int} {E : XK} (s : Same H H') (h : Ref cR H n E) : Ref cR H' n E := fun d H2 s2 e => h d H2 (s.trans s2) e
section
variable {P : Program} {w : World} {K : PySem.W.Frag} {mg : Str → Option Value} {base : Heap} {cM cO cB cR : Addr}
def spRI (K : PySem.W.Frag) (cR : Addr) : Sp := fun vs H Q _ => ∃ (a : Addr) (n : Int), vs = [.ref a, .int n] ∧ H a = some (exo a cR none) ∧ ∀ dx, H dx = none → dx ≠ a → Q .non (upd (upd H dx (exd dx [("number", .int n)])) a (exo a cR (some dx)))
theorem scRI : FnScope ["self", "number"] ["self", "number"] (defScope sRI) := ⟨rfl, rfl, rfl, by decide +kernel, rfl, by decide +kernel, by decide +kernel⟩
theorem ok_RI {f : Addr} (F : ∃ fd, Fun K "__init__" "Refused.__init__" sRI f fd) {iR : Addr} (T : TR K mg cR iR) : Ok P w K mg base CX0 1 f ["self", "number"] (spRI K cR) := by
  obtain ⟨fd, F⟩ := F
  refine ⟨fd, ?_, F.binds (ps := ["self", "number"]) fun _ _ _ _ _ _ us hl => match us, hl with | [_, _], _ => rfl⟩
  refine F.ok scRI (fun vs H Q E h => ?_) (fun cdv A outer s H vs Q E hr h => ?_)
  · obtain ⟨a, n, rfl, _⟩ := h
    rfl
  · obtain ⟨a, n, rfl, ha, k⟩ := h
    refine ⟨_, pss_one (ps_ost (pv 0) (pv 1)), ?_⟩
    exact ⟨_, rfl, _, rfl, a, cR, rfl, T.ox, T.no, .inl ⟨ha, fun dx hd ne => k dx hd ne⟩⟩
/-! ### need -/
def spNeed (cR : Addr) : Sp := fun vs H Q E => ∃ (b : Bool) (n : Int), vs = [.bl b, .int n] ∧ (b = true → Q .non H) ∧ (b = false → Ref cR H n E)
theorem scNeed : FnScope ["fulfilled", "number"] ["fulfilled", "number"] (defScope sNeed) := ⟨rfl, rfl, rfl, by decide +kernel, rfl, by decide +kernel, by decide +kernel⟩
theorem ok_need {f iR : Addr} (F : ∃ fd, Fun K "need" "need" sNeed f fd) (T : TR K mg cR iR) (GI : Ok P w K mg base CX0 1 iR ["self", "number"] (spRI K cR)) : Ok P w K mg base (L2.CX P w) 3 f ["fulfilled", "number"] (spNeed cR) := by
  obtain ⟨fd, F⟩ := F
  obtain ⟨fdI, GI, bI⟩ := GI
  refine ⟨fd, ?_, F.binds (ps := ["fulfilled", "number"]) fun _ _ _ _ _ _ us hl => match us, hl with | [_, _], _ => rfl⟩
  refine F.okX scNeed (fun vs H Q E h => ?_) (fun cdv A outer s H vs Q E hr h => ?_)
  · obtain ⟨b, n, rfl, _⟩ := h
    rfl
  · obtain ⟨b, n, rfl, k1, k2⟩ := h
    refine ⟨_, pss_one (ps_if (pt_not (pt_val (pv 0))) (pss_one (ps_raise rfl (takes_of rfl rfl rfl rfl) (by exact (pmk_oex T.ox T.ini T.ty GI hr bI .nil pass0 rfl T.g (by exact (pa_cons (pv 1) pa_nil)))))) pss_nil), ?_⟩
    refine ⟨_, rfl, b, rfl, ?_⟩
    cases b with
    | true => exact iteF (k1 rfl)
    | false =>
      refine iteT ?_
      refine ⟨_, rfl, (by show 1 ≤ 1000; decide), fun a ha => ?_⟩
      refine ⟨a, n, rfl, upd_same, fun dx hdx ne => ⟨rfl, dx, [(("number" : Str), V.int n)], upd_same, ?_, ?_, ?_⟩⟩
      · rw [upd_ne ne]
        exact upd_same
      · rwa [upd_ne ne] at hdx
      · have hd0 : H dx = none := by rwa [upd_ne ne] at hdx
        refine k2 rfl dx _ (fun c u e => ?_) upd_same
        rw [upd_ne (ne_of_none e hd0), del_ne (ne_of_none e ha), upd_ne (ne_of_none e ha), upd_ne (ne_of_none e hd0), upd_ne (ne_of_none e ha)]
        exact e
/-! ### told -/
def VI (l : List Int) : List V := l.map V.int
theorem VI_app (a b : List Int) : VI (a ++ b) = VI a ++ VI b := List.map_append
def tolds (b : Si83.Best) : List Int := 0 :: Si83.ints (Si83.both b.strong ++ [b.changed, b.many] ++ b.row)
def spTld (K : PySem.W.Frag) (cB cR : Addr) : Sp := fun vs H Q E => ∃ (p : Addr) (y : Bool) (r : Option Si83.Best), vs = [.ref p] ∧ BestAt K cB H p y r ∧ (∀ b, r = some b → b.row.length ≤ 100) ∧
  (∀ b, r = some b → ∀ H' l, Same H H' → H' l = some (.lst (VI (tolds b))) → Q (.ref l) H') ∧ (r = none → Ref cR H (-6) E)
theorem scTld : FnScope ["best"] ["best"] (defScope sTld) := ⟨rfl, rfl, rfl, by decide +kernel, rfl, by decide +kernel, by decide +kernel⟩
theorem ok_tld {f fN : Addr} (F : ∃ fd, Fun K "told" "told" sTld f fd) (T : TB K cB) (B : Bt mg) (nN : Nm K mg "need" fN) (GN : Ok P w K mg base (L2.CX P w) 3 fN ["fulfilled", "number"] (spNeed cR)) : Ok P w K mg base (L2.CX P w) 4 f ["best"] (spTld K cB cR) := by
  obtain ⟨fd, F⟩ := F
  obtain ⟨fdN, GN, bN⟩ := GN
  refine ⟨fd, ?_, F.binds (ps := ["best"]) fun _ _ _ _ _ _ us hl => match us, hl with | [_], _ => rfl⟩
  refine F.okX scTld (fun vs H Q E h => ?_) (fun cdv A outer s H vs Q E hr h => ?_)
  · obtain ⟨p, y, r, rfl, _⟩ := h
    rfl
  · obtain ⟨p, y, r, rfl, hB, hrow, k1, k2⟩ := h
    refine ⟨_, pss_cons (ps_expr (pe_call GN hr rfl nN.g nN.k bN .nil (passes_call (E := E) (W := fun cls d _ H => E cls d H) (takes_of rfl rfl rfl rfl) (fun _ _ _ _ h => h)) (by exact (pa_cons (pe_cmpR op_notN (pe_fld (pv 0) rfl) pe_non (nomark _)) (pa_cons (pe_un un_neg pe_int) pa_nil)))))
      (pss_one (ps_ret (pe_op op_cat (pe_op op_cat (pe_op op_cat (pe_lst (pa_cons pe_int pa_nil)) (pe_callTy call_list_of (by rfl) B.list (by decide +kernel) (by exact (pa_cons (pe_fld (pv 0) rfl) pa_nil))))
        (pe_lst (by exact (pa_cons (pe_fld (pv 0) rfl) (pa_cons (pe_fld (pv 0) rfl) pa_nil))))) (pe_fld (pv 0) rfl)))), ?_⟩
    cases r with
    | none =>
      obtain ⟨dx, fl, hp⟩ := hB
      refine ⟨_, rfl, p, cB, dx, _, _, rfl, hp, T.cl, T.nS, rfl, rfl, _, rfl, ?_⟩
      exact ⟨false, -6, rfl, fun q => (by cases q), fun _ => k2 rfl⟩
    | some b =>
      obtain ⟨dx, t, fl, hp, h2, h3⟩ := hB
      refine ⟨_, rfl, p, cB, dx, _, _, rfl, hp, T.cl, T.nS, rfl, rfl, _, rfl, ?_⟩
      refine ⟨true, -6, rfl, fun _ => ?_, fun q => (by cases q)⟩
      refine ⟨(by show 1 ≤ sizeLine; decide), fun a1 n1 => ?_⟩
      have s1 := same_new (o := .lst [V.int 0]) n1
      refine ⟨_, rfl, p, cB, dx, _, _, rfl, s1 _ _ hp, T.cl, T.nS, rfl, t, _, rfl, .inr (h2.same s1), fun a2 n2 => ?_⟩
      have s2 := same_new (o := .lst [VN b.strong.n, VN b.strong.d]) n2
      refine ⟨a1, a2, _, _, rfl, rfl, s2 _ _ upd_same, upd_same, (by show 3 ≤ sizeLine; decide), fun a3 n3 => ?_⟩
      have s3 := same_new (o := .lst ([V.int 0] ++ [VN b.strong.n, VN b.strong.d])) n3
      have s03 := (s1.trans s2).trans s3
      refine ⟨_, rfl, p, cB, dx, _, _, rfl, s03 _ _ hp, T.cl, T.nC, rfl, _, rfl, p, cB, dx, _, _, rfl, s03 _ _ hp, T.cl, T.nM, rfl, (by show 2 ≤ sizeLine; decide), fun a4 n4 => ?_⟩
      have s4 := same_new (o := .lst [VN b.changed, VN b.many]) n4
      refine ⟨a3, a4, _, _, rfl, rfl, s4 _ _ upd_same, upd_same, (by show 5 ≤ sizeLine; decide), fun a5 n5 => ?_⟩
      have s5 := same_new (o := .lst ([V.int 0] ++ [VN b.strong.n, VN b.strong.d] ++ [VN b.changed, VN b.many])) n5
      have s05 := (s03.trans s4).trans s5
      refine ⟨_, rfl, p, cB, dx, _, _, rfl, s05 _ _ hp, T.cl, T.nF, rfl, ?_⟩
      have hrl := hrow b rfl
      refine ⟨a5, fl, _, _, rfl, rfl, upd_same, s05 _ _ h3, sz (by rw [VL_len]; show 5 + b.row.length ≤ _; omega), fun a6 n6 => ?_⟩
      exact k1 b rfl _ a6 (s05.trans (same_new n6)) upd_same
end
end Dn
namespace Dn
open PySem PySem.Spec PyProof.Rows L2
/-! ### what a step is -/
theorem step_beg_ok {o : Si83.Order} {b : List Nat} (h3 : b.length = 3) (h : ∀ x ∈ b, x ≤ 10000) : Si83.step o (.begins b) = (⟨b, []⟩, ⟨0, []⟩) := by
  show (if b.length ≠ Si83.SUBSTANCES ∨ (b.all fun n => decide (n ≤ 10000)) = false then (o, Si83.ok (-1)) else (⟨b, []⟩, Si83.ok 0)) = _
  have e : (b.all fun n => decide (n ≤ 10000)) = true := List.all_eq_true.mpr fun x hx => decide_eq_true (h x hx)
  rw [if_neg (by rw [e, h3]; simp [Si83.SUBSTANCES])]
  rfl
theorem step_beg_no {o : Si83.Order} {b : List Nat} (h : ¬ ∀ x ∈ b, x ≤ 10000) : Si83.step o (.begins b) = (o, ⟨-1, []⟩) := by
  show (if b.length ≠ Si83.SUBSTANCES ∨ (b.all fun n => decide (n ≤ 10000)) = false then (o, Si83.ok (-1)) else (⟨b, []⟩, Si83.ok 0)) = _
  have e : (b.all fun n => decide (n ≤ 10000)) = false := by
    cases q : (b.all fun n => decide (n ≤ 10000)) with
    | false => rfl
    | true => exact absurd (fun x hx => of_decide_eq_true (List.all_eq_true.mp q x hx)) h
  rw [if_pos (Or.inr e)]
  rfl
def goodM (m : Si83.Material) : Prop := (∀ x ∈ m.parts, x ≤ 1000) ∧ m.wanted ≤ m.most ∧ m.most ≤ 6
theorem mat_cond {m : Si83.Material} (h3 : m.parts.length = 3) : (m.parts.length ≠ Si83.SUBSTANCES ∨ (m.parts.all fun n => decide (n ≤ Si83.THOUSAND)) = false ∨ Si83.EACH < m.most ∨ m.most < m.wanted) ↔ ¬ goodM m := by
  have e : (m.parts.all fun n => decide (n ≤ Si83.THOUSAND)) = true ↔ ∀ x ∈ m.parts, x ≤ 1000 := by
    rw [List.all_eq_true]
    exact ⟨fun q x hx => of_decide_eq_true (q x hx), fun q x hx => decide_eq_true (q x hx)⟩
  unfold goodM
  rw [← e]
  simp only [h3, Si83.SUBSTANCES, Si83.EACH, ne_eq, not_true_eq_false, false_or]
  cases (m.parts.all fun n => decide (n ≤ Si83.THOUSAND)) with
  | false => simp
  | true =>
    simp only [Bool.true_eq_false, false_or, true_and]
    omega
theorem step_mat_bad {o : Si83.Order} {m : Si83.Material} (h3 : m.parts.length = 3) (h : ¬ goodM m) : Si83.step o (.material m) = (o, ⟨-1, []⟩) := by
  show (if m.parts.length ≠ Si83.SUBSTANCES ∨ (m.parts.all fun n => decide (n ≤ Si83.THOUSAND)) = false ∨ Si83.EACH < m.most ∨ m.most < m.wanted then (o, Si83.ok (-1)) else if Si83.MATERIALS ≤ o.count then (o, Si83.ok (-5)) else ({ o with materials := o.materials ++ [m] }, Si83.ok ((o.count : Nat) : Int))) = _
  rw [if_pos ((mat_cond h3).mpr h)]
  rfl
theorem step_mat_full {o : Si83.Order} {m : Si83.Material} (h3 : m.parts.length = 3) (h : goodM m) (hc : 4 ≤ o.count) : Si83.step o (.material m) = (o, ⟨-5, []⟩) := by
  show (if m.parts.length ≠ Si83.SUBSTANCES ∨ (m.parts.all fun n => decide (n ≤ Si83.THOUSAND)) = false ∨ Si83.EACH < m.most ∨ m.most < m.wanted then (o, Si83.ok (-1)) else if Si83.MATERIALS ≤ o.count then (o, Si83.ok (-5)) else ({ o with materials := o.materials ++ [m] }, Si83.ok ((o.count : Nat) : Int))) = _
  rw [if_neg (fun q => (mat_cond h3).mp q h), if_pos (show Si83.MATERIALS ≤ o.count from hc)]
  rfl
theorem step_mat_ok {o : Si83.Order} {m : Si83.Material} (h3 : m.parts.length = 3) (h : goodM m) (hc : ¬ 4 ≤ o.count) : Si83.step o (.material m) = ({ o with materials := o.materials ++ [m] }, ⟨((o.count : Nat) : Int), []⟩) := by
  show (if m.parts.length ≠ Si83.SUBSTANCES ∨ (m.parts.all fun n => decide (n ≤ Si83.THOUSAND)) = false ∨ Si83.EACH < m.most ∨ m.most < m.wanted then (o, Si83.ok (-1)) else if Si83.MATERIALS ≤ o.count then (o, Si83.ok (-5)) else ({ o with materials := o.materials ++ [m] }, Si83.ok ((o.count : Nat) : Int))) = _
  rw [if_neg (fun q => (mat_cond h3).mp q h), if_neg (show ¬ Si83.MATERIALS ≤ o.count from hc)]
  rfl
theorem told_iff {o : Si83.Order} {l : List Nat} : o.told l = true ↔ l.length = o.count := by
  unfold Si83.Order.told
  exact beq_iff_eq
theorem step_chk_len {o : Si83.Order} {l : List Nat} (h : ¬ l.length = o.count) : Si83.step o (.check l) = (o, ⟨-1, []⟩) := by
  show (if o.told l = false then (o, Si83.ok (-1)) else if o.right l = false then (o, Si83.ok (-4)) else _) = _
  have e : o.told l = false := by
    cases q : o.told l with
    | false => rfl
    | true => exact absurd (told_iff.mp q) h
  rw [if_pos e]
  rfl
theorem step_chk_bad {o : Si83.Order} {l : List Nat} (h : l.length = o.count) (hr : o.right l = false) : Si83.step o (.check l) = (o, ⟨-4, []⟩) := by
  show (if o.told l = false then (o, Si83.ok (-1)) else if o.right l = false then (o, Si83.ok (-4)) else _) = _
  rw [if_neg (by rw [told_iff.mpr h]; decide), if_pos hr]
  rfl
theorem step_chk_ok {o : Si83.Order} {l : List Nat} (h : l.length = o.count) (hr : o.right l = true) : Si83.step o (.check l) = (o, ⟨0, Si83.ints (Si83.both (o.strong l) ++ (o.changed l :: o.holds l))⟩) := by
  show (if o.told l = false then (o, Si83.ok (-1)) else if o.right l = false then (o, Si83.ok (-4)) else (o, ⟨0, Si83.ints (Si83.both (o.strong l) ++ (o.changed l :: o.holds l))⟩)) = _
  rw [if_neg (by rw [told_iff.mpr h]; decide), if_neg (by rw [hr]; decide)]
theorem step_nrs_bad {o : Si83.Order} {p q : Nat} (h : ¬ (1 ≤ p ∧ p ≤ q ∧ q ≤ 10000)) : Si83.step o (.nearest p q) = (o, ⟨-1, []⟩) := by
  show (if p < 1 ∨ q < p ∨ 10000 < q then (o, Si83.ok (-1)) else (o, Si83.toldBest (o.nearest (Si83.lowest p q)))) = _
  rw [if_pos (by omega)]
  rfl
theorem step_nrs_ok {o : Si83.Order} {p q : Nat} (h : 1 ≤ p ∧ p ≤ q ∧ q ≤ 10000) : Si83.step o (.nearest p q) = (o, Si83.toldBest (o.nearest (Si83.lowest p q))) := by
  show (if p < 1 ∨ q < p ∨ 10000 < q then (o, Si83.ok (-1)) else (o, Si83.toldBest (o.nearest (Si83.lowest p q)))) = _
  rw [if_neg (by omega)]
/-- a step leaves an order as it has to be -/
theorem step_ok {o : Si83.Order} (ok : OkO o) : ∀ q : Si83.Call, OkO (Si83.step o q).1
  | .begins b => by
    by_cases h3 : b.length = 3
    · by_cases h : ∀ x ∈ b, x ≤ 10000
      · rw [step_beg_ok h3 h]
        exact ⟨h3, h, by show (0 : Nat) ≤ 4; decide, fun _ h => nomatch h⟩
      · rw [step_beg_no h]
        exact ok
    · have e : Si83.step o (.begins b) = (o, ⟨-1, []⟩) := by
        show (if b.length ≠ Si83.SUBSTANCES ∨ (b.all fun n => decide (n ≤ 10000)) = false then (o, Si83.ok (-1)) else (⟨b, []⟩, Si83.ok 0)) = _
        rw [if_pos (show b.length ≠ Si83.SUBSTANCES ∨ (b.all fun n => decide (n ≤ 10000)) = false from Or.inl h3)]
        rfl
      rw [e]
      exact ok
  | .material m => by
    by_cases h3 : m.parts.length = 3
    · by_cases h : goodM m
      · by_cases hc : 4 ≤ o.count
        · rw [step_mat_full h3 h hc]
          exact ok
        · rw [step_mat_ok h3 h hc]
          refine ⟨ok.len, ok.bound, ?_, fun x hx => ?_⟩
          · show (o.materials ++ [m]).length ≤ 4
            have : o.materials.length = o.count := rfl
            rw [List.length_append]
            show o.materials.length + 1 ≤ 4
            omega
          · rcases List.mem_append.mp hx with hx | hx
            · exact ok.mat x hx
            · rw [List.mem_singleton.mp hx]
              exact ⟨h3, h.1, h.2.1, h.2.2⟩
      · rw [step_mat_bad h3 h]
        exact ok
    · have e : Si83.step o (.material m) = (o, ⟨-1, []⟩) := by
        show (if m.parts.length ≠ Si83.SUBSTANCES ∨ (m.parts.all fun n => decide (n ≤ Si83.THOUSAND)) = false ∨ Si83.EACH < m.most ∨ m.most < m.wanted then (o, Si83.ok (-1)) else if Si83.MATERIALS ≤ o.count then (o, Si83.ok (-5)) else ({ o with materials := o.materials ++ [m] }, Si83.ok ((o.count : Nat) : Int))) = _
        rw [if_pos (show m.parts.length ≠ Si83.SUBSTANCES ∨ (m.parts.all fun n => decide (n ≤ Si83.THOUSAND)) = false ∨ Si83.EACH < m.most ∨ m.most < m.wanted from Or.inl h3)]
        rfl
      rw [e]
      exact ok
  | .check l => by
    show OkO (if o.told l = false then (o, Si83.ok (-1)) else if o.right l = false then (o, Si83.ok (-4)) else (o, (⟨0, Si83.ints (Si83.both (o.strong l) ++ (o.changed l :: o.holds l))⟩ : Si83.Ans))).1
    split
    · exact ok
    · split <;> exact ok
  | .strongest c => ok
  | .nearest p q => by
    show OkO (if p < 1 ∨ q < p ∨ 10000 < q then (o, Si83.ok (-1)) else (o, Si83.toldBest (o.nearest (Si83.lowest p q)))).1
    split <;> exact ok
/-! ### the holder -/
structure TH (K : PySem.W.Frag) (cH : Addr) : Prop where
  cl : Cls K cH
  nO : NoAttr K cH "order"
def fH (oa : Addr) : List (Str × V) := [("order", .ref oa)]
def HolAt (cM cO cH : Addr) (H : Hp) (h oa ms : Addr) (o : Si83.Order) : Prop := (∃ dx, H h = some (.ins cH dx (fH oa))) ∧ OrdAt cM cO H oa ms o
theorem HolAt.same {cM cO cH : Addr} {H H' : Hp} {h oa ms : Addr} {o : Si83.Order} (s : Same H H') (x : HolAt cM cO cH H h oa ms o) : HolAt cM cO cH H' h oa ms o := ⟨let ⟨dx, e⟩ := x.1; ⟨dx, s _ _ e⟩, x.2.same s⟩
def But2 (h ms : Addr) (H H' : Hp) : Prop := ∀ b o, b ≠ h → b ≠ ms → H b = some o → H' b = some o
theorem But2.of {h ms : Addr} {H H' : Hp} (s : Same H H') : But2 h ms H H' := fun b o _ _ e => s b o e
/-- what a call leaves -/
def Fin (cM cO cH cR : Addr) (H : Hp) (h ms : Addr) (o : Si83.Order) (q : Si83.Call) (Q : VK) (E : XK) : Prop :=
  (0 ≤ (Si83.step o q).2.v → ∀ H' oa' ms' p, But2 h ms H H' → (ms' = ms ∨ H ms' = none) → HolAt cM cO cH H' h oa' ms' (Si83.step o q).1 → H' p = some (.lst (VI ((Si83.step o q).2.v :: (Si83.step o q).2.l))) → Q (.ref p) H') ∧
  ((Si83.step o q).2.v < 0 → Ref cR H (Si83.step o q).2.v E)
/-- the numbers of asking.py -/
structure Cn (mg : Str → Option Value) : Prop where
  b : ∃ tk, mg "MOST_BOUND" = some (.int 10000 tk)
  p : ∃ tk, mg "MOST_PART" = some (.int 1000 tk)
  d : ∃ tk, mg "MOST_DROPS" = some (.int 6 tk)
  m : ∃ tk, mg "MOST_MATERIALS" = some (.int 4 tk)
  l : ∃ tk, mg "MOST_BELOW" = some (.int 10000 tk)
theorem made_order {cM cO : Addr} {H1 : Hp} {x dx b ms : Addr} {bs : List Nat} (hb : H1 b = some (.lst (VL bs))) (nx : H1 x = none) (nd : H1 dx = none) (ne : dx ≠ x) (nm : (upd (upd H1 dx (.own x)) x (.ins cO dx [])) ms = none) :
    Same H1 (upd (upd (upd (upd H1 dx (.own x)) x (.ins cO dx [])) ms (.lst [])) x (.ins cO dx (fO b ms))) ∧ H1 ms = none ∧
      OrdAt cM cO (upd (upd (upd (upd H1 dx (.own x)) x (.ins cO dx [])) ms (.lst [])) x (.ins cO dx (fO b ms))) x ms ⟨bs, []⟩ := by
  have mx : ms ≠ x := fun q => by
    rw [q, upd_same] at nm
    cases nm
  have md : ms ≠ dx := fun q => by
    rw [q, upd_ne ne, upd_same] at nm
    cases nm
  have n0 : H1 ms = none := by rwa [upd_ne mx, upd_ne md] at nm
  have s : Same H1 (upd (upd (upd (upd H1 dx (.own x)) x (.ins cO dx [])) ms (.lst [])) x (.ins cO dx (fO b ms))) := fun c u e => by
    rw [upd_ne (ne_of_none e nx), upd_ne (ne_of_none e n0), upd_ne (ne_of_none e nx), upd_ne (ne_of_none e nd)]
    exact e
  refine ⟨s, n0, dx, b, [], upd_same, s _ _ hb, ?_, rfl, fun i q e => by simp at e⟩
  rw [upd_ne mx, upd_same]
  rfl
section
variable {P : Program} {w : World} {K : PySem.W.Frag} {mg : Str → Option Value} {base : Heap} {cM cO cB cR cH : Addr}
/-! ### Holder.__init__ -/
def spHI (cM cO cH : Addr) : Sp := fun vs H Q _ => ∃ (h dx : Addr), vs = [.ref h] ∧ H h = some (.ins cH dx []) ∧ ∀ H' oa ms, But h H H' → HolAt cM cO cH H' h oa ms Si83.init → H ms = none → Q .non H'
theorem scHI : FnScope ["self"] ["self"] (defScope sHI) := ⟨rfl, rfl, rfl, by decide +kernel, rfl, by decide +kernel, by decide +kernel⟩
theorem ok_HI {f iO : Addr} (F : ∃ fd, Fun K "__init__" "Holder.__init__" sHI f fd) (T : TH K cH) (C : Cn mg) (gO : mg "Order" = some (.ref cO)) (MO : Mk K cO iO) (GO : Ok P w K mg base CX0 1 iO ["self", "bounds"] (spOI cO)) : Ok P w K mg base CX0 3 f ["self"] (spHI cM cO cH) := by
  obtain ⟨fd, F⟩ := F
  obtain ⟨fdO, GO, bO⟩ := GO
  obtain ⟨tk, gB⟩ := C.b
  refine ⟨fd, ?_, F.binds (ps := ["self"]) fun _ _ _ _ _ _ us hl => match us, hl with | [_], _ => rfl⟩
  refine F.ok scHI (fun vs H Q E h => ?_) (fun cdv A outer s H vs Q E hr h => ?_)
  · obtain ⟨h, dx, rfl, _⟩ := h
    rfl
  · obtain ⟨h, dh, rfl, hh, k⟩ := h
    refine ⟨_, pss_one (ps_fld (pv 0) (pe_make MO GO hr rfl gO bO .nil pass0 (by exact (pa_cons (pe_lst (by exact (pa_cons (pe_glob (v := .int 10000) rfl gB ⟨_, rfl⟩) (pa_cons (pe_glob (v := .int 10000) rfl gB ⟨_, rfl⟩) (pa_cons (pe_glob (v := .int 10000) rfl gB ⟨_, rfl⟩) pa_nil))))) pa_nil))) rfl), ?_⟩
    refine ⟨(by show 3 ≤ sizeLine; decide), fun b nb => ?_⟩
    intro x dx nx nd ne
    refine ⟨x, dx, b, rfl, upd_same, fun ms nm => ⟨rfl, ?_⟩⟩
    have sb : Same H (upd H b (.lst [V.int 10000, V.int 10000, V.int 10000])) := same_new nb
    obtain ⟨s1, n1, o1⟩ := made_order (cM := cM) (cO := cO) (bs := [10000, 10000, 10000]) upd_same nx nd ne nm
    have hh1 := s1 _ _ (sb _ _ hh)
    refine ⟨_, rfl, h, cH, dh, _, rfl, hh1, T.cl, T.nO, (by show 0 < 1000; decide), ?_⟩
    refine k _ x ms (fun c u nc e => ?_) ⟨⟨dh, upd_same⟩, ?_⟩ (sb.free n1)
    · rw [upd_ne nc]
      exact s1 _ _ (sb _ _ e)
    · obtain ⟨d1, b1, ps1, e1, e2, e3, e4, e5⟩ := o1
      have ni : ∀ {a : Addr} {u : HO}, (upd (upd (upd (upd (upd H b (.lst [V.int 10000, V.int 10000, V.int 10000])) dx (.own x)) x (.ins cO dx [])) ms (.lst [])) x (.ins cO dx (fO b ms))) a = some u → a ≠ h → (upd (upd (upd (upd (upd (upd H b (.lst [V.int 10000, V.int 10000, V.int 10000])) dx (.own x)) x (.ins cO dx [])) ms (.lst [])) x (.ins cO dx (fO b ms))) h (.ins cH dh (putF "order" (.ref x) []))) a = some u := fun {a u} e n => by
        rw [upd_ne n]
        exact e
      have nhx : x ≠ h := (ne_of_none (sb _ _ hh) nx).symm
      have nhm : ms ≠ h := (ne_of_none (sb _ _ hh) n1).symm
      have nhb : b1 ≠ h := ne_of e2 hh1 (by intro z; cases z)
      have ep : ps1 = [] := List.eq_nil_of_length_eq_zero (by rw [e4]; rfl)
      subst ep
      exact ⟨d1, b1, [], ni e1 nhx, ni e2 nhb, ni e3 nhm, rfl, fun i q e => by simp at e⟩
/-! ### begins -/
def spBeg (cM cO cH cR : Addr) : Sp := fun vs H Q E => ∃ (h oa ms bl : Addr) (o : Si83.Order) (b : List Nat), vs = [.ref h, .ref bl] ∧ HolAt cM cO cH H h oa ms o ∧ H bl = some (.lst (VL b)) ∧ b.length = 3 ∧ Fin cM cO cH cR H h ms o (.begins b) Q E
theorem scBeg : FnScope ["holder", "bounds"] ["holder", "bounds"] (defScope sBeg) := ⟨rfl, rfl, rfl, by decide +kernel, rfl, by decide +kernel, by decide +kernel⟩
theorem ok_beg {f iO fN : Addr} (F : ∃ fd, Fun K "begins" "begins" sBeg f fd) (T : TH K cH) (C : Cn mg) (B : Bt mg) (gO : mg "Order" = some (.ref cO)) (MO : Mk K cO iO) (GO : Ok P w K mg base CX0 1 iO ["self", "bounds"] (spOI cO))
    (nN : Nm K mg "need" fN) (GN : Ok P w K mg base (L2.CX P w) 3 fN ["fulfilled", "number"] (spNeed cR)) : Ok P w K mg base (L2.CX P w) 4 f ["holder", "bounds"] (spBeg cM cO cH cR) := by
  obtain ⟨fd, F⟩ := F
  obtain ⟨fdO, GO, bO⟩ := GO
  obtain ⟨fdN, GN, bN⟩ := GN
  obtain ⟨tk, gB⟩ := C.b
  refine ⟨fd, ?_, F.binds (ps := ["holder", "bounds"]) fun _ _ _ _ _ _ us hl => match us, hl with | [_, _], _ => rfl⟩
  refine F.okX scBeg (fun vs H Q E h => ?_) (fun cdv A outer s H vs Q E hr h => ?_)
  · obtain ⟨h, oa, ms, bl, o, b, rfl, _⟩ := h
    rfl
  · obtain ⟨h, oa, ms, bl, o, b, rfl, ⟨⟨dh, hh⟩, hO⟩, hbl, h3, k1, k2⟩ := h
    have hr2 : Room 2 _ := hr.mono (by decide)
    refine ⟨_, pss_cons (ps_expr (pe_call GN hr rfl nN.g nN.k bN .nil (passes_call (E := E) (W := fun cls d _ H => E cls d H) (takes_of rfl rfl rfl rfl) (fun _ _ _ _ h => h)) (by exact (pa_cons
        (pe_cmpR op_le (pe_callB (cr_max rfl) (by rfl) B.max (by decide +kernel) (by exact (pa_cons (pv 1) pa_nil))) (pe_glob (v := .int 10000) rfl gB ⟨_, rfl⟩) (nomark _)) (pa_cons (pe_un un_neg pe_int) pa_nil)))))
      (pss_cons (ps_fld (pv 0) (pe_make MO GO hr2 rfl gO bO .nil pass0 (by exact (pa_cons (pv 1) pa_nil))) rfl)
      (pss_one (ps_ret (pe_lst (pa_cons pe_int pa_nil))))), ?_⟩
    refine ⟨_, rfl, bl, _, rfl, .of hbl, (by rw [List.length_map, h3]; decide), fun m hm hle => ?_⟩
    refine ⟨_, _, rfl, rfl, _, rfl, ?_⟩
    have key : m ≤ 10000 ↔ ∀ x ∈ b, x ≤ 10000 := by
      constructor
      · intro q x hx
        have := hle (x : Int) (List.mem_map.mpr ⟨x, hx, rfl⟩)
        omega
      · intro q
        obtain ⟨x, hx, rfl⟩ := List.mem_map.mp hm
        have := q x hx
        omega
    refine ⟨decide (m ≤ 10000), -1, rfl, fun q => ?_, fun q => ?_⟩
    · have g := key.mp (of_decide_eq_true q)
      rw [step_beg_ok h3 g] at k1
      refine ⟨_, rfl, ?_⟩
      intro x dx nx nd ne
      refine ⟨x, dx, bl, rfl, upd_same, fun ms' nm => ⟨rfl, ?_⟩⟩
      obtain ⟨s1, n1, o1⟩ := made_order (cM := cM) (cO := cO) (bs := b) hbl nx nd ne nm
      have hh1 := s1 _ _ hh
      refine ⟨_, rfl, h, cH, dh, _, rfl, hh1, T.cl, T.nO, (by show 1 < 1000; decide), ?_⟩
      refine ⟨(by show 1 ≤ sizeLine; decide), fun r nr => ?_⟩
      have nhx : x ≠ h := (ne_of_none hh nx).symm
      have nhm : ms' ≠ h := (ne_of_none hh n1).symm
      have sr := same_new (o := .lst [V.int 0]) nr
      refine k1 (show (0 : Int) ≤ 0 by decide) _ x ms' r (fun c u nc _ e => sr _ _ (by rw [upd_ne nc]; exact s1 _ _ e)) (.inr n1) ⟨⟨dh, sr _ _ upd_same⟩, ?_⟩ upd_same
      obtain ⟨d1, b1, ps1, e1, e2, e3, e4, e5⟩ := o1
      have nhb : b1 ≠ h := ne_of e2 hh1 (by intro z; cases z)
      have ep : ps1 = [] := List.eq_nil_of_length_eq_zero (by rw [e4]; rfl)
      subst ep
      exact ⟨d1, b1, [], sr _ _ (by rw [upd_ne nhx]; exact e1), sr _ _ (by rw [upd_ne nhb]; exact e2), sr _ _ (by rw [upd_ne nhm]; exact e3), rfl, fun i q e => by simp at e⟩
    · have g : ¬ ∀ x ∈ b, x ≤ 10000 := fun z => of_decide_eq_false q (key.mpr z)
      rw [step_beg_no g] at k2
      exact k2 (show (-1 : Int) < 0 by decide)
end
end Dn
namespace Dn
open PySem PySem.Spec PyProof.Rows L2
theorem mat_app_lt {o : Si83.Order} {m : Si83.Material} {i : Nat} (hi : i < o.count) : ({ o with materials := o.materials ++ [m] } : Si83.Order).material i = o.material i := by
  have hi' : i < o.materials.length := hi
  unfold Si83.Order.material
  rw [List.getD_eq_getElem?_getD, List.getD_eq_getElem?_getD, List.getElem?_append_left hi']
theorem mat_app_eq {o : Si83.Order} {m : Si83.Material} : ({ o with materials := o.materials ++ [m] } : Si83.Order).material o.count = m := by
  unfold Si83.Order.material
  show (o.materials ++ [m]).getD o.materials.length _ = m
  rw [List.getD_eq_getElem?_getD, List.getElem?_append_right (Nat.le_refl _), Nat.sub_self]
  rfl
theorem mat_test {K : PySem.W.Frag} {H : Hp} {h gl p1 : Addr} {m : Si83.Material} (hp : SqL K H p1 (VL m.parts)) (h3 : m.parts.length = 3) {Q : VK} (k : ∀ b : Bool, (b = true ↔ goodM m) → Q (.bl b) H) :
    tAndV (tOp (rI0 fun i j => .bl (decide (i ≤ j))) (tCB (rMax K) (tCons (tVar 2) tNil)) (tC (.int 1000))) (tChain (rI0 fun i j => .bl (decide (i ≤ j))) (rI0 fun i j => .bl (decide (i ≤ j))) (tVar 3) (tVar 4) (tC (.int 6)))
      [some (.ref h), some (.ref gl), some (.ref p1), some (VN m.wanted), some (VN m.most)] H Q := by
  refine ⟨_, rfl, p1, _, rfl, hp, (by rw [List.length_map, h3]; decide), fun x hx hle => ?_⟩
  have key : x ≤ 1000 ↔ ∀ y ∈ m.parts, y ≤ 1000 := by
    constructor
    · intro q y hy
      have := hle (y : Int) (List.mem_map.mpr ⟨y, hy, rfl⟩)
      omega
    · intro q
      obtain ⟨y, hy, rfl⟩ := List.mem_map.mp hx
      have := q y hy
      omega
  refine ⟨_, _, rfl, rfl, _, rfl, ?_⟩
  by_cases c1 : x ≤ 1000
  · rw [decide_eq_true c1]
    refine iteT ⟨_, rfl, _, rfl, _, _, rfl, rfl, _, rfl, ?_⟩
    by_cases c2 : (m.wanted : Int) ≤ (m.most : Int)
    · rw [decide_eq_true c2]
      refine iteT ⟨_, _, rfl, rfl, ?_⟩
      refine k _ ?_
      rw [decide_eq_true_eq]
      exact ⟨fun q => ⟨key.mp c1, by omega, by omega⟩, fun q => by have := q.2.2; omega⟩
    · rw [decide_eq_false c2]
      refine iteF (k false ⟨fun q => (by cases q), fun q => absurd q.2.1 (by omega)⟩)
  · rw [decide_eq_false c1]
    exact iteF (k false ⟨fun q => (by cases q), fun q => absurd (key.mpr q.1) c1⟩)
section
variable {P : Program} {w : World} {K : PySem.W.Frag} {mg : Str → Option Value} {base : Heap} {cM cO cB cR cH : Addr}
/-! ### material -/
def spMat (cM cO cH cR : Addr) : Sp := fun vs H Q E => ∃ (h oa ms gl : Addr) (o : Si83.Order) (m : Si83.Material), vs = [.ref h, .ref gl] ∧ HolAt cM cO cH H h oa ms o ∧ OkO o ∧ H gl = some (.lst (VL (m.parts ++ [m.wanted, m.most]))) ∧ m.parts.length = 3 ∧ Fin cM cO cH cR H h ms o (.material m) Q E
theorem scMat : FnScope ["holder", "given", "parts", "wanted", "most"] ["holder", "given"] (defScope sMat) := ⟨rfl, rfl, rfl, by decide +kernel, rfl, by decide +kernel, by decide +kernel⟩
theorem ok_mat {f iM fN : Addr} (F : ∃ fd, Fun K "material" "material" sMat f fd) (T : TH K cH) (TOs : TO K cO) (C : Cn mg) (B : Bt mg) (gM : mg "Material" = some (.ref cM)) (MM : Mk K cM iM) (GM : Ok P w K mg base CX0 1 iM ["self", "parts", "wanted", "most"] (spMI cM))
    (nN : Nm K mg "need" fN) (GN : Ok P w K mg base (L2.CX P w) 3 fN ["fulfilled", "number"] (spNeed cR)) : Ok P w K mg base (L2.CX P w) 4 f ["holder", "given"] (spMat cM cO cH cR) := by
  obtain ⟨fd, F⟩ := F
  obtain ⟨fdM, GM, bM⟩ := GM
  obtain ⟨fdN, GN, bN⟩ := GN
  obtain ⟨_, ⟨tp, gP⟩, ⟨td, gD⟩, ⟨tm, gMm⟩, _⟩ := C
  refine ⟨fd, ?_, F.binds (ps := ["holder", "given"]) fun _ _ _ _ _ _ us hl => match us, hl with | [_, _], _ => rfl⟩
  refine F.okX scMat (fun vs H Q E h => ?_) (fun cdv A outer s H vs Q E hr h => ?_)
  · obtain ⟨h, oa, ms, gl, o, m, rfl, _⟩ := h
    rfl
  · obtain ⟨h, oa, ms, gl, o, m, rfl, ⟨⟨dh, hh⟩, hO⟩, ok, hgl, h3, k1, k2⟩ := h
    have hr2 : Room 2 _ := hr.mono (by decide)
    refine ⟨_, pss_cons (ps_set (i := 2) scMat.nd rfl (.inl rfl) (pe_slice sl_list (pv 1) po_none (po_some pe_int)))
      (pss_cons (ps_asg (pe_slice sl_list (pv 1) (po_some pe_int) po_none) (pg_lst rfl (pgs_cons (pg_name (i := 3) scMat.nd rfl (.inl rfl)) (pgs_cons (pg_name (i := 4) scMat.nd rfl (.inl rfl)) pgs_nil))))
      (pss_cons (ps_expr (pe_call GN hr rfl nN.g nN.k bN .nil (passes_call (E := E) (W := fun cls d _ H => E cls d H) (takes_of rfl rfl rfl rfl) (fun _ _ _ _ h => h)) (by exact (pa_cons
        (pe_and (pe_cmpR op_le (pe_callB (cr_max rfl) (by rfl) B.max (by decide +kernel) (by exact (pa_cons (pv 2) pa_nil))) (pe_glob (v := .int 1000) rfl gP ⟨_, rfl⟩) (nomark _)) (pe_one (pe_chain op_le op_le (pv 3) (pv 4) (pe_glob (v := .int 6) rfl gD ⟨_, rfl⟩)))) (pa_cons (pe_un un_neg pe_int) pa_nil)))))
      (pss_cons (ps_expr (pe_call GN hr rfl nN.g nN.k bN .nil (passes_call (E := E) (W := fun cls d _ H => E cls d H) (takes_of rfl rfl rfl rfl) (fun _ _ _ _ h => h)) (by exact (pa_cons
        (pe_cmpR op_lt (pe_callB call_len_seq (by rfl) B.len PySem.boot_len (by exact (pa_cons (pe_fld (pe_fld (pv 0) rfl) rfl) pa_nil))) (pe_glob (v := .int 4) rfl gMm ⟨_, rfl⟩) (nomark _)) (pa_cons (pe_un un_neg pe_int) pa_nil)))))
      (pss_cons (ps_expr (pe_bm PySem.F.plainAttrs_list PySem.F.slot_list_append PySem.F.type_list_append mt_append (pe_fld (pe_fld (pv 0) rfl) rfl) (by exact (pa_cons (pe_make MM GM hr2 rfl gM bM .nil pass0 (by exact (pa_cons (pv 2) (pa_cons (pv 3) (pa_cons (pv 4) pa_nil))))) pa_nil))))
      (pss_one (ps_ret (pe_lst (by exact (pa_cons (pe_op op_sub (pe_callB call_len_seq (by rfl) B.len PySem.boot_len (by exact (pa_cons (pe_fld (pe_fld (pv 0) rfl) rfl) pa_nil))) pe_int) pa_nil))))))))), ?_⟩
    obtain ⟨mp, mw, mm⟩ := m
    obtain ⟨a, b, c, rfl⟩ : ∃ a b c, mp = [a, b, c] := by
      match mp, h3 with
      | [a, b, c], _ => exact ⟨a, b, c, rfl⟩
    refine ⟨_, rfl, 3, rfl, gl, _, rfl, .of hgl, fun p1 n1 => ?_⟩
    have s1 : Same H (upd H p1 (.lst (VL [a, b, c]))) := same_new n1
    refine ⟨_, rfl, 3, rfl, gl, _, rfl, .of (s1 _ _ hgl), fun p2 n2 => ?_⟩
    have s2 : Same (upd H p1 (.lst (VL [a, b, c]))) (upd (upd H p1 (.lst (VL [a, b, c]))) p2 (.lst (VL [mw, mm]))) := same_new n2
    refine ⟨p2, _, rfl, .of upd_same, rfl, _, _, rfl, _, _, rfl, rfl, ?_⟩
    have s12 := s1.trans s2
    have hp1 : (upd (upd H p1 (.lst (VL [a, b, c]))) p2 (.lst (VL [mw, mm]))) p1 = some (.lst (VL [a, b, c])) := s2 _ _ upd_same
    obtain ⟨dO, bb, ps, o1, o2, o3, o4, o5⟩ := hO
    refine mat_test (m := ⟨[a, b, c], mw, mm⟩) (.of hp1) rfl (fun t ht => ?_)
    refine ⟨_, rfl, t, -1, rfl, fun q => ?_, fun q => ?_⟩
    · have g := ht.mp q
      have len : ((ps.map V.ref).length : Int) = (o.count : Int) := by rw [List.length_map, o4]
      refine ⟨_, rfl, h, cH, dh, _, _, rfl, s12 _ _ hh, T.cl, T.nO, rfl, oa, cO, dO, _, _, rfl, s12 _ _ o1, TOs.cl, TOs.nM, rfl, ms, _, rfl, .inl (.of (s12 _ _ o3)), ?_⟩
      rw [len]
      refine ⟨_, _, rfl, rfl, _, rfl, ?_⟩
      refine ⟨decide ((o.count : Int) < 4), -5, rfl, fun q4 => ?_, fun q4 => ?_⟩
      · have c4 : ¬ 4 ≤ o.count := by have := of_decide_eq_true q4; omega
        rw [step_mat_ok rfl g c4] at k1
        refine ⟨_, rfl, h, cH, dh, _, _, rfl, s12 _ _ hh, T.cl, T.nO, rfl, oa, cO, dO, _, _, rfl, s12 _ _ o1, TOs.cl, TOs.nM, rfl, .inl ⟨rfl, _, .of (s12 _ _ o3)⟩, ?_⟩
        refine ⟨_, rfl, _, rfl, _, rfl, ?_⟩
        intro x dx nx nd ne
        generalize hG : upd (upd H p1 (.lst (VL [a, b, c]))) p2 (.lst (VL [mw, mm])) = G at *
        refine ⟨x, dx, p1, mw, mm, rfl, upd_same, rfl, ?_⟩
        rw [upd_upd]
        have s3 : Same G (upd (upd G dx (.own x)) x (.ins cM dx (fM p1 mw mm))) := fun z u e => by
          rw [upd_ne (ne_of_none e nx), upd_ne (ne_of_none e nd)]
          exact e
        have s13 := s12.trans s3
        have hxx : (upd (upd G dx (.own x)) x (.ins cM dx (fM p1 mw mm))) x = some (.ins cM dx (fM p1 mw mm)) := upd_same
        generalize hG2 : upd (upd G dx (.own x)) x (.ins cM dx (fM p1 mw mm)) = G2 at *
        refine ⟨ms, _, _, rfl, rfl, s13 _ _ o3, szl (by rw [List.length_map, o4]; omega), ?_⟩
        have bm : But ms G2 (upd G2 ms (.lst (ps.map V.ref ++ [.ref x]))) := But.upd_
        have hm2 := s13 _ _ o3
        have nh : h ≠ ms := ne_of (s13 _ _ hh) hm2 (by intro z; cases z)
        have no : oa ≠ ms := ne_of (s13 _ _ o1) hm2 (by intro z; cases z)
        have len2 : ((((ps.map V.ref ++ [V.ref x]).length : Nat) : Int)) - 1 = (o.count : Int) := by
          rw [List.length_append, List.length_map, o4]
          show ((o.count + 1 : Nat) : Int) - 1 = _
          omega
        refine ⟨_, rfl, h, cH, dh, _, _, rfl, bm _ _ nh (s13 _ _ hh), T.cl, T.nO, rfl, oa, cO, dO, _, _, rfl, bm _ _ no (s13 _ _ o1), TOs.cl, TOs.nM, rfl, ms, _, rfl, .inl (.of upd_same), _, _, rfl, rfl, ?_⟩
        refine ⟨(by show 1 ≤ sizeLine; decide), fun r nr => ?_⟩
        have sr := same_new (o := .lst [V.int ((((ps.map V.ref ++ [V.ref x]).length : Nat) : Int) - 1)]) nr
        have nb : bb ≠ ms := fun z => by
          have e1 := o2
          rw [z, o3] at e1
          have e2 := HO.lst.inj (Option.some.inj e1)
          have e3 : (VL o.bounds).length = 3 := by rw [VL_len, ok.len]
          cases hps : ps with
          | nil =>
            rw [hps] at e2
            rw [← e2] at e3
            cases e3
          | cons u v =>
            rw [hps] at e2
            have e4 : (VL o.bounds)[0]? = some (V.ref u) := by rw [← e2]; rfl
            have e5 := (VL_inv e4).2
            cases e5
        refine k1 (show (0 : Int) ≤ ((o.count : Nat) : Int) by omega) _ oa ms r (fun z u n1' n2' e => sr _ _ (bm _ _ n2' (s13 _ _ e))) (.inl rfl) ⟨⟨dh, sr _ _ (bm _ _ nh (s13 _ _ hh))⟩, ?_⟩ ?_
        · refine ⟨dO, bb, ps ++ [x], sr _ _ (bm _ _ no (s13 _ _ o1)), sr _ _ (bm _ _ nb (s13 _ _ o2)), sr _ _ (by rw [upd_same, List.map_append]; rfl), ?_, fun i q e => ?_⟩
          · rw [List.length_append, o4]
            show o.count + 1 = (o.materials ++ [_]).length
            rw [List.length_append]
            rfl
          · by_cases hi : i < o.count
            · rw [List.getElem?_append_left (by rw [o4]; exact hi)] at e
              rw [mat_app_lt hi]
              obtain ⟨d1, l1, e1, e2⟩ := o5 i q e
              refine ⟨d1, l1, sr _ _ (bm _ _ (ne_of (s13 _ _ e1) hm2 (by intro z; cases z)) (s13 _ _ e1)), ?_⟩
              have nl : l1 ≠ ms := fun z => by
                have e3 := e2
                rw [z, o3] at e3
                have e4 := HO.lst.inj (Option.some.inj e3)
                have e5 : (VL (o.material i).parts).length = 3 := by rw [VL_len, (ok.at_ hi).len]
                cases hps : ps with
                | nil =>
                  rw [hps] at e4
                  rw [← e4] at e5
                  cases e5
                | cons u v =>
                  rw [hps] at e4
                  have e6 : (VL (o.material i).parts)[0]? = some (V.ref u) := by rw [← e4]; rfl
                  have e7 := (VL_inv e6).2
                  cases e7
              exact sr _ _ (bm _ _ nl (s13 _ _ e2))
            · have hi2 : i = o.count := by
                have := (List.getElem?_eq_some_iff.mp e).1
                rw [List.length_append, o4] at this
                have : i < o.count + 1 := this
                omega
              subst hi2
              rw [List.getElem?_append_right (by rw [o4]; exact Nat.le_refl _), o4, Nat.sub_self] at e
              have ex : x = q := Option.some.inj e
              subst ex
              rw [mat_app_eq]
              have np : p1 ≠ ms := fun z => by
                rw [z] at n1
                rw [o3] at n1
                cases n1
              exact ⟨dx, p1, sr _ _ (bm _ _ (ne_of hxx hm2 (by intro z; cases z)) hxx), sr _ _ (bm _ _ np (s3 _ _ hp1))⟩
        · rw [upd_same]
          show some (HO.lst [V.int ((((ps.map V.ref ++ [V.ref x]).length : Nat) : Int) - 1)]) = some (HO.lst [V.int ((o.count : Nat) : Int)])
          rw [len2]
      · have c4 : 4 ≤ o.count := by have := of_decide_eq_false q4; omega
        rw [step_mat_full rfl g c4] at k2
        exact (k2 (show (-5 : Int) < 0 by decide)).same s12
    · have g : ¬ goodM _ := fun z => by
        have := ht.mpr z
        rw [q] at this
        cases this
      rw [step_mat_bad rfl g] at k2
      exact (k2 (show (-1 : Int) < 0 by decide)).same s12
end
end Dn
namespace Dn
open PySem PySem.Spec PyProof.Rows L2
/-! ### the best so far -/
def stepS (o : Si83.Order) (c : Nat) (r : Option Si83.Best) (l : List Nat) : Option Si83.Best := if o.changed l ≤ c then meet true r (o.strong l) (o.changed l) l else r
def stepN (o : Si83.Order) (p q : Nat) (r : Option Si83.Best) (l : List Nat) : Option Si83.Best := if Si83.less (o.strong l) ⟨p, q⟩ = true then r else meet false r (o.strong l) (o.changed l) l
structure GoodB (b : Si83.Best) : Prop where
  n : b.strong.n ≤ 240000
  row : b.row.length ≤ 4
def Good (r : Option Si83.Best) : Prop := ∀ b, r = some b → GoodB b
theorem Good.none : Good none := fun _ h => nomatch h
theorem good_meet {y : Bool} {r : Option Si83.Best} {x : Si83.Part} {c : Nat} {l : List Nat} (g : Good r) (hx : x.n ≤ 240000) (hl : l.length ≤ 4) : Good (meet y r x c l) := fun b hb => by
  cases r with
  | none =>
    have e : (⟨x, c, 1, l⟩ : Si83.Best) = b := Option.some.inj hb
    subst e
    exact ⟨hx, hl⟩
  | some b0 =>
    have hb : (if better y (some b0) x c = true then some ⟨x, c, 1, l⟩ else if x = b0.strong ∧ c = b0.changed then some { b0 with many := b0.many + 1 } else some b0) = some b := hb
    split at hb
    · have e := Option.some.inj hb
      subst e
      exact ⟨hx, hl⟩
    · split at hb
      · have e := Option.some.inj hb
        subst e
        exact ⟨(g b0 rfl).n, (g b0 rfl).row⟩
      · have e := Option.some.inj hb
        subst e
        exact g b0 rfl
theorem OkF.row4 {o : Si83.Order} {l : List Nat} (h : OkF o l) (ok : OkO o) : l.length ≤ 4 := by
  rw [h.len]
  exact ok.cnt
theorem good_S {o : Si83.Order} (ok : OkO o) {c : Nat} {r : Option Si83.Best} {l : List Nat} (h : OkF o l) (g : Good r) : Good (stepS o c r l) := by
  unfold stepS
  split
  · exact good_meet g (strong_le h ok) (h.row4 ok)
  · exact g
theorem good_N {o : Si83.Order} (ok : OkO o) {p q : Nat} {r : Option Si83.Best} {l : List Nat} (h : OkF o l) (g : Good r) : Good (stepN o p q r l) := by
  unfold stepN
  split
  · exact g
  · exact good_meet g (strong_le h ok) (h.row4 ok)
theorem foldl_more {α β : Type} {f : β → α → β} {z : β} {l : List α} {i : Nat} {x : α} (h : l[i]? = some x) : (l.take (i + 1)).foldl f z = f ((l.take i).foldl f z) x := by
  rw [take_more h, List.foldl_append]
  rfl
section
variable {P : Program} {w : World} {K : PySem.W.Frag} {mg : Str → Option Value} {base : Heap} {cM cO cB cR cH : Addr}
/-! ### check -/
def spChk (cM cO cH cR : Addr) : Sp := fun vs H Q E => ∃ (h oa ms fl : Addr) (o : Si83.Order) (l : List Nat), vs = [.ref h, .ref fl] ∧ HolAt cM cO cH H h oa ms o ∧ OkO o ∧ H fl = some (.lst (VL l)) ∧ l.length ≤ 100 ∧ Fin cM cO cH cR H h ms o (.check l) Q E
theorem scChk : FnScope ["holder", "formula", "order"] ["holder", "formula"] (defScope sChk) := ⟨rfl, rfl, rfl, by decide +kernel, rfl, by decide +kernel, by decide +kernel⟩
theorem ok_chk {f fN fM fS fC fH : Addr} (F : ∃ fd, Fun K "check" "check" sChk f fd) (T : TH K cH) (TOs : TO K cO) (B : Bt mg)
    (nN : Nm K mg "need" fN) (GN : Ok P w K mg base (L2.CX P w) 3 fN ["fulfilled", "number"] (spNeed cR)) (mM : Meth K cO "may_be" fM) (GM : Ok P w K mg base CX0 1 fM ["self", "formula"] (spMay K cM cO))
    (mS : Meth K cO "strength" fS) (GS : Ok P w K mg base CX0 4 fS ["self", "formula"] (spStr K cM cO)) (mC : Meth K cO "changed" fC) (GC : Ok P w K mg base CX0 1 fC ["self", "formula"] (spChg K cM cO))
    (mH : Meth K cO "holding" fH) (GH : Ok P w K mg base CX0 5 fH ["self", "formula"] (spHld K cM cO)) : Ok P w K mg base (L2.CX P w) 6 f ["holder", "formula"] (spChk cM cO cH cR) := by
  obtain ⟨fd, F⟩ := F
  obtain ⟨fdN, GN, bN⟩ := GN
  obtain ⟨fdM, GM, bM⟩ := GM
  obtain ⟨fdS, GS, bS⟩ := GS
  obtain ⟨fdC, GC, bC⟩ := GC
  obtain ⟨fdH, GH, bH⟩ := GH
  refine ⟨fd, ?_, F.binds (ps := ["holder", "formula"]) fun _ _ _ _ _ _ us hl => match us, hl with | [_, _], _ => rfl⟩
  refine F.okX scChk (fun vs H Q E h => ?_) (fun cdv A outer s H vs Q E hr h => ?_)
  · obtain ⟨h, oa, ms, fl, o, l, rfl, _⟩ := h
    rfl
  · obtain ⟨h, oa, ms, fl, o, l, rfl, ⟨⟨dh, hh⟩, hO⟩, ok, hfl, hlen, k1, k2⟩ := h
    have hr3 : Room 3 _ := hr.mono (by decide)
    have hr1 : Room 1 _ := hr.mono (by decide)
    have hr4 : Room 4 _ := hr.mono (by decide)
    refine ⟨_, pss_cons (ps_set (i := 2) scChk.nd rfl (.inl rfl) (pe_fld (pv 0) rfl))
      (pss_cons (ps_expr (pe_call GN hr3 rfl nN.g nN.k bN .nil (passes_call (E := E) (W := fun cls d _ H => E cls d H) (takes_of rfl rfl rfl rfl) (fun _ _ _ _ h => h)) (by exact (pa_cons
        (pe_cmpR op_eq (pe_callB call_len_seq (by rfl) B.len PySem.boot_len (by exact (pa_cons (pv 1) pa_nil))) (pe_callB call_len_seq (by rfl) B.len PySem.boot_len (by exact (pa_cons (pe_fld (pv 2) rfl) pa_nil))) (nomark _)) (pa_cons (pe_un un_neg pe_int) pa_nil)))))
      (pss_cons (ps_expr (pe_call GN hr3 rfl nN.g nN.k bN .nil (passes_call (E := E) (W := fun cls d _ H => E cls d H) (takes_of rfl rfl rfl rfl) (fun _ _ _ _ h => h)) (by exact (pa_cons
        (pe_meth (pv 2) TOs.cl mM GM hr1 bM .nil pass0 (by exact (pa_cons (pv 1) pa_nil))) (pa_cons (pe_un un_neg pe_int) pa_nil)))))
      (pss_one (ps_ret (pe_op op_cat (pe_op op_cat (pe_op op_cat (pe_lst (pa_cons pe_int pa_nil)) (pe_callTy call_list_of (by rfl) B.list (by decide +kernel) (by exact (pa_cons (pe_meth (pv 2) TOs.cl mS GS hr4 bS .nil pass0 (by exact (pa_cons (pv 1) pa_nil))) pa_nil))))
        (pe_lst (by exact (pa_cons (pe_meth (pv 2) TOs.cl mC GC hr1 bC .nil pass0 (by exact (pa_cons (pv 1) pa_nil))) pa_nil)))) (pe_meth (pv 2) TOs.cl mH GH hr bH .nil pass0 (by exact (pa_cons (pv 1) pa_nil)))))))), ?_⟩
    obtain ⟨dO, bb, ps, o1, o2, o3, o4, o5⟩ := id hO
    refine ⟨_, rfl, h, cH, dh, _, _, rfl, hh, T.cl, T.nO, rfl, ?_⟩
    refine ⟨_, rfl, fl, _, rfl, .inl (.of hfl), _, rfl, oa, cO, dO, _, _, rfl, o1, TOs.cl, TOs.nM, rfl, ms, _, rfl, .inl (.of o3), rfl, ?_⟩
    have el : decide (V.int (((VL l).length : Nat) : Int) = V.int (((ps.map V.ref).length : Nat) : Int)) = decide (l.length = o.count) := by
      rw [VL_len, List.length_map, o4]
      refine decide_eq_decide.mpr ⟨fun q => ?_, fun q => by rw [q]⟩
      injection q with q
      omega
    rw [el]
    refine ⟨_, rfl, decide (l.length = o.count), -1, rfl, fun q1 => ?_, fun q1 => ?_⟩
    · have hl := of_decide_eq_true q1
      refine ⟨_, rfl, oa, dO, _, rfl, o1, rfl, _, rfl, oa, ms, fl, o, l, rfl, hO, .of hfl, hl, ok, fun H1 s1 => ?_⟩
      refine ⟨_, rfl, o.right l, -4, rfl, fun q2 => ?_, fun q2 => ?_⟩
      · have okf := right_iff.mp q2
        rw [step_chk_ok hl q2] at k1
        refine ⟨(by show 1 ≤ sizeLine; decide), fun a1 n1 => ?_⟩
        have t1 := same_new (o := .lst [V.int 0]) n1
        have u1 := s1.trans t1
        refine ⟨_, rfl, oa, dO, _, rfl, u1 _ _ o1, rfl, _, rfl, oa, ms, fl, o, l, rfl, hO.same u1, .of (u1 _ _ hfl), okf, ok, fun H2 t s2 ht => ?_⟩
        refine ⟨t, _, rfl, .inr ht, fun a2 n2 => ?_⟩
        have t2 := same_new (o := .lst [VN (o.strong l).n, VN (o.strong l).d]) n2
        refine ⟨a1, a2, _, _, rfl, rfl, t2 _ _ (s2 _ _ upd_same), upd_same, (by show 3 ≤ sizeLine; decide), fun a3 n3 => ?_⟩
        have t3 := same_new (o := .lst ([V.int 0] ++ [VN (o.strong l).n, VN (o.strong l).d])) n3
        have u3 := ((u1.trans s2).trans t2).trans t3
        refine ⟨_, rfl, oa, dO, _, rfl, u3 _ _ o1, rfl, _, rfl, oa, ms, fl, o, l, rfl, hO.same u3, .of (u3 _ _ hfl), hl, ok, fun H3 s3 => ?_⟩
        refine ⟨(by show 1 ≤ sizeLine; decide), fun a4 n4 => ?_⟩
        have t4 := same_new (o := .lst [VN (o.changed l)]) n4
        refine ⟨a3, a4, _, _, rfl, rfl, t4 _ _ (s3 _ _ upd_same), upd_same, (by show 4 ≤ sizeLine; decide), fun a5 n5 => ?_⟩
        have t5 := same_new (o := .lst ([V.int 0] ++ [VN (o.strong l).n, VN (o.strong l).d] ++ [VN (o.changed l)])) n5
        have u5 := ((u3.trans s3).trans t4).trans t5
        refine ⟨_, rfl, oa, dO, _, rfl, u5 _ _ o1, rfl, _, rfl, oa, ms, fl, o, l, rfl, hO.same u5, .of (u5 _ _ hfl), okf, ok, fun H4 a6 s4 n6 h6 => ?_⟩
        have h3 : (o.holds l).length ≤ 3 := holdsTo_len o l 3
        refine ⟨a5, a6, _, _, rfl, rfl, s4 _ _ upd_same, h6, sz (by rw [VL_len]; show 4 + (o.holds l).length ≤ _; omega), fun a7 n7 => ?_⟩
        have u7 := (u5.trans s4).trans (same_new (o := .lst ([V.int 0] ++ [VN (o.strong l).n, VN (o.strong l).d] ++ [VN (o.changed l)] ++ VL (o.holds l))) n7)
        refine k1 (show (0 : Int) ≤ 0 by decide) _ oa ms a7 (But2.of u7) (.inl rfl) (HolAt.same u7 ⟨⟨dh, hh⟩, hO⟩) upd_same
      · rw [step_chk_bad hl q2] at k2
        exact (k2 (show (-4 : Int) < 0 by decide)).same s1
    · rw [step_chk_len (of_decide_eq_false q1)] at k2
      exact k2 (show (-1 : Int) < 0 by decide)
/-! ### strongest, nearest: what both ends have in common -/
theorem fin_best {H H' : Hp} {h oa ms : Addr} {o : Si83.Order} {q : Si83.Call} {r : Option Si83.Best} {Q : VK} {E : XK} (hs : Si83.step o q = (o, Si83.toldBest r)) (s : Same H H') (hol : HolAt cM cO cH H h oa ms o) (F : Fin cM cO cH cR H h ms o q Q E) :
    (∀ b, r = some b → ∀ H2 l, Same H' H2 → H2 l = some (.lst (VI (tolds b))) → Q (.ref l) H2) ∧ (r = none → Ref cR H' (-6) E) := by
  obtain ⟨k1, k2⟩ := F
  rw [hs] at k1 k2
  refine ⟨fun b hb H2 l s2 hl => ?_, fun hn => ?_⟩
  · subst hb
    exact k1 (show (0 : Int) ≤ 0 by decide) H2 oa ms l (But2.of (s.trans s2)) (.inl rfl) (hol.same (s.trans s2)) hl
  · subst hn
    exact (k2 (show (-6 : Int) < 0 by decide)).same s
def spStg (cM cO cH cR : Addr) : Sp := fun vs H Q E => ∃ (h oa ms : Addr) (o : Si83.Order) (c : Nat), vs = [.ref h, VN c] ∧ HolAt cM cO cH H h oa ms o ∧ OkO o ∧ Fin cM cO cH cR H h ms o (.strongest c) Q E
theorem scStg : FnScope ["holder", "drops", "best", "formula", "changed"] ["holder", "drops"] (defScope sStg) := ⟨rfl, rfl, rfl, by decide +kernel, rfl, by decide +kernel, by decide +kernel⟩
theorem ok_stg {f iB fA fC fS fM fT : Addr} (F : ∃ fd, Fun K "strongest" "strongest" sStg f fd) (T : TH K cH) (TOs : TO K cO) (TBs : TB K cB) (gB : mg "Best" = some (.ref cB)) (MB : Mk K cB iB) (GB : Ok P w K mg base CX0 1 iB ["self", "by_strength"] (spBI cB))
    (mA : Meth K cO "all_formulas" fA) (GA : Ok P w K mg base CX0 1 fA ["self"] (spAll K cM cO)) (mC : Meth K cO "changed" fC) (GC : Ok P w K mg base CX0 1 fC ["self", "formula"] (spChg K cM cO))
    (mS : Meth K cO "strength" fS) (GS : Ok P w K mg base CX0 4 fS ["self", "formula"] (spStr K cM cO)) (mM : Meth K cB "meet" fM) (GM : Ok P w K mg base CX0 3 fM ["self", "strength", "changed", "formula"] (spMeet K cB))
    (nT : Nm K mg "told" fT) (GT : Ok P w K mg base (L2.CX P w) 4 fT ["best"] (spTld K cB cR)) : Ok P w K mg base (L2.CX P w) 5 f ["holder", "drops"] (spStg cM cO cH cR) := by
  obtain ⟨fd, F⟩ := F
  obtain ⟨fdB, GB, bB⟩ := GB
  obtain ⟨fdA, GA, bA⟩ := GA
  obtain ⟨fdC, GC, bC⟩ := GC
  obtain ⟨fdS, GS, bS⟩ := GS
  obtain ⟨fdM, GM, bM⟩ := GM
  obtain ⟨fdT, GT, bT⟩ := GT
  refine ⟨fd, ?_, F.binds (ps := ["holder", "drops"]) fun _ _ _ _ _ _ us hl => match us, hl with | [_, _], _ => rfl⟩
  refine F.okX scStg (fun vs H Q E h => ?_) (fun cdv A outer s H vs Q E hr h => ?_)
  · obtain ⟨h, oa, ms, o, c, rfl, _⟩ := h
    rfl
  · obtain ⟨h, oa, ms, o, c, rfl, hol, ok, hF⟩ := h
    have hr3 : Room 3 _ := hr.mono (by decide)
    have hr2 : Room 2 _ := hr.mono (by decide)
    have hr1 : Room 1 _ := hr.mono (by decide)
    refine ⟨_, pss_cons (ps_set (i := 2) scStg.nd rfl (.inl rfl) (pe_make MB GB hr2 rfl gB bB .nil pass0 (by exact (pa_cons pe_bl pa_nil))))
      (pss_cons (ps_for (passes_of rfl) rfl (pi_list (pe_meth0 (pe_fld (pv 0) rfl) TOs.cl mA GA hr1 bA .nil pass0)) (pg_name (i := 3) scStg.nd rfl (.inl rfl))
        (pss_cons (ps_set (i := 4) scStg.nd rfl (.inl rfl) (pe_meth (pe_fld (pv 0) rfl) TOs.cl mC GC hr1 bC .nil pass0 (by exact (pa_cons (pv 3) pa_nil))))
        (pss_one (ps_if (pt_cmpR op_le (pv 4) (pv 1) (nomark _))
          (pss_one (ps_expr (pe_meth (pv 2) TBs.cl mM GM hr3 bM .nil pass0 (by exact (pa_cons (pe_meth (pe_fld (pv 0) rfl) TOs.cl mS GS hr bS .nil pass0 (by exact (pa_cons (pv 3) pa_nil))) (pa_cons (pv 4) (pa_cons (pv 3) pa_nil)))))))
          pss_nil))))
      (pss_one (ps_ret (pe_call GT hr rfl nT.g nT.k bT .nil (passes_call (E := E) (W := fun cls d _ H => E cls d H) (takes_of rfl rfl rfl rfl) (fun _ _ _ _ h => h)) (by exact (pa_cons (pv 2) pa_nil)))))), ?_⟩
    obtain ⟨⟨dh, hh⟩, hO⟩ := id hol
    obtain ⟨dO, bb, ps, o1, o2, o3, o4, o5⟩ := id hO
    intro bp db nb nd ne
    refine ⟨bp, db, true, rfl, upd_same, fun fl nf => ⟨rfl, ?_⟩⟩
    have nbf : fl ≠ bp := fun q => by
      rw [q, upd_same] at nf
      cases nf
    have ndf : fl ≠ db := fun q => by
      rw [q, upd_ne ne, upd_same] at nf
      cases nf
    have nf0 : H fl = none := by rwa [upd_ne nbf, upd_ne ndf] at nf
    have s0 : Same H (upd (upd (upd (upd H db (.own bp)) bp (.ins cB db [])) fl (.lst [])) bp (.ins cB db (fB true .non 0 0 fl))) := fun z u e => by
      rw [upd_ne (ne_of_none e nb), upd_ne (ne_of_none e nf0), upd_ne (ne_of_none e nb), upd_ne (ne_of_none e nd)]
      exact e
    have hB0 : BestAt K cB (upd (upd (upd (upd H db (.own bp)) bp (.ins cB db [])) fl (.lst [])) bp (.ins cB db (fB true .non 0 0 fl))) bp true none := ⟨db, fl, upd_same⟩
    generalize (upd (upd (upd (upd H db (.own bp)) bp (.ins cB db [])) fl (.lst [])) bp (.ins cB db (fB true .non 0 0 fl))) = G at *
    refine ⟨_, rfl, h, cH, dh, _, _, rfl, s0 _ _ hh, T.cl, T.nO, rfl, oa, dO, _, rfl, s0 _ _ o1, rfl, oa, ms, o, rfl, hO.same s0, ok, fun H1 d fps s1 hd hLL => ?_⟩
    refine ⟨d, rfl, ⟨_, .of hd⟩, ?_⟩
    have s01 := s0.trans s1
    have hB1 := hB0.same s1
    obtain ⟨dx1, fl1, hbp1⟩ := id hB1
    have ndb : d ≠ bp := ne_of hd hbp1 (by intro z; cases z)
    refine for_list (K := K) (a := d) (xs := fps.map V.ref) (fun i σ H' => ∃ v3 v4, σ = [some (.ref h), some (VN c), some (.ref bp), v3, v4] ∧ But bp H1 H' ∧ BestAt K cB H' bp true ((o.formulas.take i).foldl (stepS o c) none) ∧ Good ((o.formulas.take i).foldl (stepS o c) none))
      ⟨none, none, rfl, But.refl _ _, hB1, Good.none⟩ (fun i σ H' _ ⟨_, _, _, b, _, _⟩ => .of (b _ _ ndb hd)) ?_ ?_
    · rintro i y σ H' hi ⟨v3, v4, rfl, bt, hB, hg⟩
      obtain ⟨fa, hfa, rfl⟩ := RL_inv hi
      obtain ⟨fm, g1, g2, g3⟩ := hLL.get hfa
      have okf := formulas_ok g2
      have sm : Same H H' := fun z u e => bt z u (ne_of_none e nb) (s01 _ _ e)
      have hfa' : H' fa = some (.lst (VL fm)) := bt _ _ (ne_of g3 hbp1 (by intro z; cases z)) g3
      rw [foldl_more g1]
      refine ⟨_, rfl, h, cH, dh, _, _, rfl, sm _ _ hh, T.cl, T.nO, rfl, oa, dO, _, rfl, sm _ _ o1, rfl, _, rfl, oa, ms, fa, o, fm, rfl, hO.same sm, .of hfa', okf.len, ok, fun H2 s2 => ?_⟩
      refine ⟨_, rfl, _, rfl, _, _, rfl, rfl, _, rfl, ?_⟩
      have bt2 : But bp H1 H2 := bt.trans (But.of s2)
      by_cases ch : o.changed fm ≤ c
      · have est : stepS o c ((o.formulas.take i).foldl (stepS o c) none) fm = meet true ((o.formulas.take i).foldl (stepS o c) none) (o.strong fm) (o.changed fm) fm := by
          unfold stepS
          rw [if_pos ch]
        rw [decide_eq_true (show ((o.changed fm : Nat) : Int) ≤ ((c : Nat) : Int) by omega)]
        refine iteT ?_
        have sm2 := sm.trans s2
        have hB2 := hB.same s2
        obtain ⟨dx2, fs2, hbp2, nol⟩ : ∃ dx2 fs2, H2 bp = some (.ins cB dx2 fs2) ∧ fs2.lookup ("meet" : Str) = none := by
          cases hr0 : (o.formulas.take i).foldl (stepS o c) none with
          | none =>
            rw [hr0] at hB2
            obtain ⟨dx, fl, e⟩ := hB2
            exact ⟨dx, _, e, rfl⟩
          | some b0 =>
            rw [hr0] at hB2
            obtain ⟨dx, t, fl, e, _⟩ := hB2
            exact ⟨dx, _, e, rfl⟩
        refine ⟨_, rfl, bp, dx2, _, rfl, hbp2, nol, _, rfl, h, cH, dh, _, _, rfl, sm2 _ _ hh, T.cl, T.nO, rfl, oa, dO, _, rfl, sm2 _ _ o1, rfl, _, rfl, oa, ms, fa, o, fm, rfl, hO.same sm2, .of (s2 _ _ hfa'), okf, ok, fun H3 t s3 ht => ?_⟩
        refine ⟨_, rfl, _, rfl, bp, t, fa, true, _, o.strong fm, o.changed fm, fm, rfl, hB2.same s3, ht, s3 _ _ (s2 _ _ hfa'), ?_, fun b0 hb0 => ?_, fun H4 b4 hB4 => ?_⟩
        · have := strong_le okf ok
          omega
        · have := (hg b0 hb0).n
          omega
        · refine ⟨_, _, rfl, bt2.trans ((But.of s3).trans b4), ?_, good_S ok okf hg⟩
          rw [est]
          exact hB4
      · have est : stepS o c ((o.formulas.take i).foldl (stepS o c) none) fm = (o.formulas.take i).foldl (stepS o c) none := by
          unfold stepS
          rw [if_neg ch]
        rw [decide_eq_false (show ¬ ((o.changed fm : Nat) : Int) ≤ ((c : Nat) : Int) by omega)]
        refine iteF ⟨_, _, rfl, bt2, ?_, good_S ok okf hg⟩
        rw [est]
        exact hB.same s2
    · rintro σ H' ⟨v3, v4, rfl, bt, hB, hg⟩
      rw [List.length_map, List.take_of_length_le (Nat.le_of_eq hLL.1.symm)] at hB hg
      have sm : Same H H' := fun z u e => bt z u (ne_of_none e nb) (s01 _ _ e)
      have hst : Si83.step o (.strongest c) = (o, Si83.toldBest (o.formulas.foldl (stepS o c) none)) := by
        show (o, Si83.toldBest (o.strongest c)) = _
        rw [strongest_eq]
        rfl
      obtain ⟨k1, k2⟩ := fin_best hst sm hol hF
      exact ⟨_, rfl, bp, true, _, rfl, hB, fun b0 hb0 => by have := (hg b0 hb0).row; omega, k1, k2⟩
/-! ### nearest -/
def spNrs (cM cO cH cR : Addr) : Sp := fun vs H Q E => ∃ (h oa ms : Addr) (o : Si83.Order) (p q : Nat), vs = [.ref h, VN p, VN q] ∧ HolAt cM cO cH H h oa ms o ∧ OkO o ∧ Fin cM cO cH cR H h ms o (.nearest p q) Q E
theorem scNrs : FnScope ["holder", "p", "q", "best", "formula", "strength"] ["holder", "p", "q"] (defScope sNrs) := ⟨rfl, rfl, rfl, by decide +kernel, rfl, by decide +kernel, by decide +kernel⟩
theorem nrs_test {H : Hp} {σ : L2.St} {p q : Nat} (h1 : σ[1]? = some (some (VN p))) (h2 : σ[2]? = some (some (VN q))) {Q : VK} (k : ∀ b : Bool, (b = true ↔ (1 ≤ p ∧ p ≤ q ∧ q ≤ 10000)) → Q (.bl b) H) :
    tChain3 (rI0 fun i j => .bl (decide (i ≤ j))) (rI0 fun i j => .bl (decide (i ≤ j))) (rI0 fun i j => .bl (decide (i ≤ j))) (tC (.int 1)) (tVar 1) (tVar 2) (tC (.int 10000)) σ H Q := by
  refine ⟨_, h1, _, _, rfl, rfl, _, rfl, ?_⟩
  by_cases c1 : (1 : Int) ≤ (p : Int)
  · rw [decide_eq_true c1]
    refine iteT ⟨_, h2, _, _, rfl, rfl, _, rfl, ?_⟩
    by_cases c2 : (p : Int) ≤ (q : Int)
    · rw [decide_eq_true c2]
      refine iteT ⟨_, _, rfl, rfl, ?_⟩
      refine k _ ?_
      rw [decide_eq_true_eq]
      omega
    · rw [decide_eq_false c2]
      exact iteF (k false ⟨fun q => (by cases q), fun q => absurd q.2.1 (by omega)⟩)
  · rw [decide_eq_false c1]
    exact iteF (k false ⟨fun q => (by cases q), fun q => absurd q.1 (by omega)⟩)
theorem ok_nrs {f iB fA fC fS fM fT fN fL : Addr} (F : ∃ fd, Fun K "nearest" "nearest" sNrs f fd) (T : TH K cH) (TOs : TO K cO) (TBs : TB K cB) (C : Cn mg) (gB : mg "Best" = some (.ref cB)) (MB : Mk K cB iB) (GB : Ok P w K mg base CX0 1 iB ["self", "by_strength"] (spBI cB))
    (mA : Meth K cO "all_formulas" fA) (GA : Ok P w K mg base CX0 1 fA ["self"] (spAll K cM cO)) (mC : Meth K cO "changed" fC) (GC : Ok P w K mg base CX0 1 fC ["self", "formula"] (spChg K cM cO))
    (mS : Meth K cO "strength" fS) (GS : Ok P w K mg base CX0 4 fS ["self", "formula"] (spStr K cM cO)) (mM : Meth K cB "meet" fM) (GM : Ok P w K mg base CX0 3 fM ["self", "strength", "changed", "formula"] (spMeet K cB))
    (nT : Nm K mg "told" fT) (GT : Ok P w K mg base (L2.CX P w) 4 fT ["best"] (spTld K cB cR)) (nN : Nm K mg "need" fN) (GN : Ok P w K mg base (L2.CX P w) 3 fN ["fulfilled", "number"] (spNeed cR))
    (nL : Nm K mg "is_less" fL) (GL : Ok P w K mg base CX0 1 fL ["one", "other"] (spLess K)) : Ok P w K mg base (L2.CX P w) 5 f ["holder", "p", "q"] (spNrs cM cO cH cR) := by
  obtain ⟨fd, F⟩ := F
  obtain ⟨fdB, GB, bB⟩ := GB
  obtain ⟨fdA, GA, bA⟩ := GA
  obtain ⟨fdC, GC, bC⟩ := GC
  obtain ⟨fdS, GS, bS⟩ := GS
  obtain ⟨fdM, GM, bM⟩ := GM
  obtain ⟨fdT, GT, bT⟩ := GT
  obtain ⟨fdN, GN, bN⟩ := GN
  obtain ⟨fdL, GL, bL⟩ := GL
  obtain ⟨tk, gBe⟩ := C.l
  refine ⟨fd, ?_, F.binds (ps := ["holder", "p", "q"]) fun _ _ _ _ _ _ us hl => match us, hl with | [_, _, _], _ => rfl⟩
  refine F.okX scNrs (fun vs H Q E h => ?_) (fun cdv A outer s H vs Q E hr h => ?_)
  · obtain ⟨h, oa, ms, o, p, q, rfl, _⟩ := h
    rfl
  · obtain ⟨h, oa, ms, o, p, q, rfl, hol, ok, hF⟩ := h
    have hr3 : Room 3 _ := hr.mono (by decide)
    have hr2 : Room 2 _ := hr.mono (by decide)
    have hr1 : Room 1 _ := hr.mono (by decide)
    refine ⟨_, pss_cons (ps_expr (pe_call GN hr3 rfl nN.g nN.k bN .nil (passes_call (E := E) (W := fun cls d _ H => E cls d H) (takes_of rfl rfl rfl rfl) (fun _ _ _ _ h => h)) (by exact (pa_cons
        (pe_chain3 op_le op_le op_le pe_int (pv 1) (pv 2) (pe_glob (v := .int 10000) rfl gBe ⟨_, rfl⟩)) (pa_cons (pe_un un_neg pe_int) pa_nil)))))
      (pss_cons (ps_set (i := 3) scNrs.nd rfl (.inl rfl) (pe_make MB GB hr2 rfl gB bB .nil pass0 (by exact (pa_cons pe_bl pa_nil))))
      (pss_cons (ps_for (passes_of rfl) rfl (pi_list (pe_meth0 (pe_fld (pv 0) rfl) TOs.cl mA GA hr1 bA .nil pass0)) (pg_name (i := 4) scNrs.nd rfl (.inl rfl))
        (pss_cons (ps_set (i := 5) scNrs.nd rfl (.inl rfl) (pe_meth (pe_fld (pv 0) rfl) TOs.cl mS GS hr bS .nil pass0 (by exact (pa_cons (pv 4) pa_nil))))
        (pss_one (ps_if (pt_not (pt_val (pe_call GL hr1 rfl nL.g nL.k bL .nil pass0 (by exact (pa_cons (pv 5) (pa_cons (pe_tup (pa_cons (pv 1) (pa_cons (pv 2) pa_nil))) pa_nil))))))
          (pss_one (ps_expr (pe_meth (pv 3) TBs.cl mM GM hr3 bM .nil pass0 (by exact (pa_cons (pv 5) (pa_cons (pe_meth (pe_fld (pv 0) rfl) TOs.cl mC GC hr1 bC .nil pass0 (by exact (pa_cons (pv 4) pa_nil))) (pa_cons (pv 4) pa_nil)))))))
          pss_nil))))
      (pss_one (ps_ret (pe_call GT hr rfl nT.g nT.k bT .nil (passes_call (E := E) (W := fun cls d _ H => E cls d H) (takes_of rfl rfl rfl rfl) (fun _ _ _ _ h => h)) (by exact (pa_cons (pv 3) pa_nil))))))), ?_⟩
    refine nrs_test (p := p) (q := q) rfl rfl (fun b hb => ?_)
    refine ⟨_, rfl, b, -1, rfl, fun qb => ?_, fun qb => ?_⟩
    rotate_left
    · have g : ¬ (1 ≤ p ∧ p ≤ q ∧ q ≤ 10000) := fun z => by
        have := hb.mpr z
        rw [qb] at this
        cases this
      have k2 := hF.2
      rw [step_nrs_bad g] at k2
      exact k2 (show (-1 : Int) < 0 by decide)
    have hpq := hb.mp qb
    obtain ⟨⟨dh, hh⟩, hO⟩ := id hol
    obtain ⟨dO, bb, ps, o1, o2, o3, o4, o5⟩ := id hO
    intro bp db nb nd ne
    refine ⟨bp, db, false, rfl, upd_same, fun fl nf => ⟨rfl, ?_⟩⟩
    have nbf : fl ≠ bp := fun q => by
      rw [q, upd_same] at nf
      cases nf
    have ndf : fl ≠ db := fun q => by
      rw [q, upd_ne ne, upd_same] at nf
      cases nf
    have nf0 : H fl = none := by rwa [upd_ne nbf, upd_ne ndf] at nf
    have s0 : Same H (upd (upd (upd (upd H db (.own bp)) bp (.ins cB db [])) fl (.lst [])) bp (.ins cB db (fB false .non 0 0 fl))) := fun z u e => by
      rw [upd_ne (ne_of_none e nb), upd_ne (ne_of_none e nf0), upd_ne (ne_of_none e nb), upd_ne (ne_of_none e nd)]
      exact e
    have hB0 : BestAt K cB (upd (upd (upd (upd H db (.own bp)) bp (.ins cB db [])) fl (.lst [])) bp (.ins cB db (fB false .non 0 0 fl))) bp false none := ⟨db, fl, upd_same⟩
    generalize (upd (upd (upd (upd H db (.own bp)) bp (.ins cB db [])) fl (.lst [])) bp (.ins cB db (fB false .non 0 0 fl))) = G at *
    refine ⟨_, rfl, h, cH, dh, _, _, rfl, s0 _ _ hh, T.cl, T.nO, rfl, oa, dO, _, rfl, s0 _ _ o1, rfl, oa, ms, o, rfl, hO.same s0, ok, fun H1 d fps s1 hd hLL => ?_⟩
    refine ⟨d, rfl, ⟨_, .of hd⟩, ?_⟩
    have s01 := s0.trans s1
    have hB1 := hB0.same s1
    obtain ⟨dx1, fl1, hbp1⟩ := id hB1
    have ndb : d ≠ bp := ne_of hd hbp1 (by intro z; cases z)
    refine for_list (K := K) (a := d) (xs := fps.map V.ref) (fun i σ H' => ∃ v4 v5, σ = [some (.ref h), some (VN p), some (VN q), some (.ref bp), v4, v5] ∧ But bp H1 H' ∧ BestAt K cB H' bp false ((o.formulas.take i).foldl (stepN o p q) none) ∧ Good ((o.formulas.take i).foldl (stepN o p q) none))
      ⟨none, none, rfl, But.refl _ _, hB1, Good.none⟩ (fun i σ H' _ ⟨_, _, _, b, _, _⟩ => .of (b _ _ ndb hd)) ?_ ?_
    · rintro i y σ H' hi ⟨v4, v5, rfl, bt, hB, hg⟩
      obtain ⟨fa, hfa, rfl⟩ := RL_inv hi
      obtain ⟨fm, g1, g2, g3⟩ := hLL.get hfa
      have okf := formulas_ok g2
      have sm : Same H H' := fun z u e => bt z u (ne_of_none e nb) (s01 _ _ e)
      have hfa' : H' fa = some (.lst (VL fm)) := bt _ _ (ne_of g3 hbp1 (by intro z; cases z)) g3
      rw [foldl_more g1]
      have sle := strong_le okf ok
      refine ⟨_, rfl, h, cH, dh, _, _, rfl, sm _ _ hh, T.cl, T.nO, rfl, oa, dO, _, rfl, sm _ _ o1, rfl, _, rfl, oa, ms, fa, o, fm, rfl, hO.same sm, .of hfa', okf, ok, fun H2 t s2 ht => ?_⟩
      refine ⟨_, rfl, _, rfl, _, rfl, (by show 2 ≤ sizeLine; decide), fun z nz => ?_⟩
      have sz2 := same_new (o := .tup [VN p, VN q]) nz
      have ht2 := ht.same sz2
      refine ⟨t, z, o.strong fm, ⟨p, q⟩, rfl, ht2, .of upd_same, by omega, (by show p < _; omega), _, rfl, ?_⟩
      have s23 := s2.trans sz2
      have bt2 : But bp H1 (upd H2 z (.tup [VN p, VN q])) := bt.trans (But.of s23)
      have hB3 := hB.same s23
      have sm3 := sm.trans s23
      have hfa3 := s23 _ _ hfa'
      generalize upd H2 z (.tup [VN p, VN q]) = H3 at *
      cases cl : Si83.less (o.strong fm) ⟨p, q⟩ with
      | true =>
        have est : stepN o p q ((o.formulas.take i).foldl (stepN o p q) none) fm = (o.formulas.take i).foldl (stepN o p q) none := by
          unfold stepN
          rw [if_pos cl]
        refine iteF ⟨_, _, rfl, bt2, ?_, good_N ok okf hg⟩
        rw [est]
        exact hB3
      | false =>
        have est : stepN o p q ((o.formulas.take i).foldl (stepN o p q) none) fm = meet false ((o.formulas.take i).foldl (stepN o p q) none) (o.strong fm) (o.changed fm) fm := by
          unfold stepN
          rw [if_neg (by rw [cl]; decide)]
        refine iteT ?_
        obtain ⟨dx2, fs2, hbp2, nol⟩ : ∃ dx2 fs2, H3 bp = some (.ins cB dx2 fs2) ∧ fs2.lookup ("meet" : Str) = none := by
          cases hr0 : (o.formulas.take i).foldl (stepN o p q) none with
          | none =>
            rw [hr0] at hB3
            obtain ⟨dx, fl, e⟩ := hB3
            exact ⟨dx, _, e, rfl⟩
          | some b0 =>
            rw [hr0] at hB3
            obtain ⟨dx, t, fl, e, _⟩ := hB3
            exact ⟨dx, _, e, rfl⟩
        refine ⟨_, rfl, bp, dx2, _, rfl, hbp2, nol, _, rfl, _, rfl, h, cH, dh, _, _, rfl, sm3 _ _ hh, T.cl, T.nO, rfl, oa, dO, _, rfl, sm3 _ _ o1, rfl, _, rfl, oa, ms, fa, o, fm, rfl, hO.same sm3, .of hfa3, okf.len, ok, fun H4 s4 => ?_⟩
        refine ⟨_, rfl, bp, t, fa, false, _, o.strong fm, o.changed fm, fm, rfl, hB3.same s4, ht2.same s4, s4 _ _ hfa3, by omega, fun b0 hb0 => ?_, fun H5 b5 hB5 => ?_⟩
        · have := (hg b0 hb0).n
          omega
        · refine ⟨_, _, rfl, bt2.trans ((But.of s4).trans b5), ?_, good_N ok okf hg⟩
          rw [est]
          exact hB5
    · rintro σ H' ⟨v4, v5, rfl, bt, hB, hg⟩
      rw [List.length_map, List.take_of_length_le (Nat.le_of_eq hLL.1.symm)] at hB hg
      have sm : Same H H' := fun z u e => bt z u (ne_of_none e nb) (s01 _ _ e)
      have hst : Si83.step o (.nearest p q) = (o, Si83.toldBest (o.formulas.foldl (stepN o p q) none)) := by
        rw [step_nrs_ok hpq, nearest_eq o (show 0 < q by omega)]
        rfl
      obtain ⟨k1, k2⟩ := fin_best hst sm hol hF
      exact ⟨_, rfl, bp, false, _, rfl, hB, fun b0 hb0 => by have := (hg b0 hb0).row; omega, k1, k2⟩
end
end Dn
namespace Dn
/-! ### the list of calls, call by call -/
/-- how many whole numbers a call has -/
def wn (p : Int) : Nat := if p = 0 then 3 else if p = 1 then 5 else if p = 2 then 0 else if p = 3 then 1 else 2
/-- the call at a place of the list: its number, its whole numbers, its row; the place behind -/
def Rec (ns : List Int) (at_ : Nat) (p : Int) (xs ys : List Int) (nx : Nat) : Prop :=
  ((p = 0 ∨ p = 1 ∨ p = 3 ∨ p = 4) ∧ ys = [] ∧ xs.length = wn p ∧ (∃ rest, ns.drop at_ = p :: (xs ++ rest)) ∧ nx = at_ + 1 + xs.length) ∨
  (p = 2 ∧ xs = [] ∧ (∃ rest, ns.drop at_ = 2 :: (ys.length : Int) :: (ys ++ rest)) ∧ nx = at_ + 2 + ys.length)
def rawOf (p : Int) (xs ys : List Int) : List (List Int) := if p = 2 then [[2], ys] else [p :: xs]
theorem drop_more {ns l r : List Int} {i : Nat} (h : ns.drop i = l ++ r) : ns.drop (i + l.length) = r := by
  rw [← List.drop_drop, h, List.drop_left]
theorem drop_le {ns l r : List Int} {i : Nat} (h : ns.drop i = l ++ r) (hl : l ≠ []) : i + l.length ≤ ns.length := by
  have e := congrArg List.length h
  rw [List.length_drop, List.length_append] at e
  have : 0 < l.length := List.length_pos_iff.mpr hl
  omega
theorem Rec.next {ns : List Int} {at_ nx : Nat} {p : Int} {xs ys : List Int} (h : Rec ns at_ p xs ys nx) : at_ < nx ∧ nx ≤ ns.length := by
  rcases h with ⟨_, rfl, _, ⟨rest, h⟩, rfl⟩ | ⟨rfl, rfl, ⟨rest, h⟩, rfl⟩
  · have := drop_le (l := p :: xs) (r := rest) h (by simp)
    rw [List.length_cons] at this
    omega
  · have := drop_le (l := 2 :: (ys.length : Int) :: ys) (r := rest) h (by simp)
    rw [List.length_cons, List.length_cons] at this
    omega
theorem call_plain {p : Int} {n : Nat} {r c t} (hs : PySi83.shape p = some (n, 0)) (h : PyFlat.call PySi83.shape (p :: r) = some (c, t)) : n ≤ r.length ∧ c = [p :: r.take n] ∧ t = r.drop n := by
  have h' : (match PySi83.shape p with
    | none => none
    | some (n, k) => if r.length < n then none else match PyFlat.rows k (r.drop n) with
      | none => none
      | some (xs, t) => some ((p :: r.take n) :: xs, t)) = some (c, t) := h
  rw [hs] at h'
  have h2 : (if r.length < n then none else some ([p :: r.take n], r.drop n)) = some (c, t) := h'
  by_cases z : r.length < n
  · rw [if_pos z] at h2
    cases h2
  · rw [if_neg z] at h2
    have e := Option.some.inj h2
    exact ⟨by omega, (congrArg Prod.fst e).symm, (congrArg Prod.snd e).symm⟩
theorem call_row {r c t} (h : PyFlat.call PySi83.shape (2 :: r) = some (c, t)) : ∃ ys, r = (ys.length : Int) :: (ys ++ t) ∧ c = [[2], ys] := by
  have h2 : (match PyFlat.rows 1 r with
      | none => none
      | some (xs, t) => some ([2] :: xs, t)) = some (c, t) := h
  cases r with
  | nil => cases h2
  | cons n r =>
    have h3 : (match (match PyFlat.row (n :: r) with
        | none => none
        | some (x, s) => some ([x], s)) with
      | none => none
      | some (xs, t) => some ([(2 : Int)] :: xs, t)) = some (c, t) := h2
    rw [show PyFlat.row (n :: r) = (if 0 ≤ n ∧ n.toNat ≤ r.length then some (r.take n.toNat, r.drop n.toNat) else none) from rfl] at h3
    by_cases z : 0 ≤ n ∧ n.toNat ≤ r.length
    · rw [if_pos z] at h3
      have e := Option.some.inj h3
      have e1 : [[2], r.take n.toNat] = c := congrArg Prod.fst e
      have e2 : r.drop n.toNat = t := congrArg Prod.snd e
      have el : (r.take n.toNat).length = n.toNat := by rw [List.length_take]; omega
      refine ⟨r.take n.toNat, ?_, e1.symm⟩
      rw [el, ← e2, List.take_append_drop, Int.toNat_of_nonneg z.1]
    · rw [if_neg z] at h3
      cases h3
theorem shape_cases {p : Int} {n k : Nat} (h : PySi83.shape p = some (n, k)) : (p = 2 ∧ n = 0 ∧ k = 1) ∨ ((p = 0 ∨ p = 1 ∨ p = 3 ∨ p = 4) ∧ n = wn p ∧ k = 0) := by
  unfold PySi83.shape at h
  by_cases h0 : p = 0
  · rw [if_pos h0] at h
    have e := Option.some.inj h
    subst h0
    exact .inr ⟨.inl rfl, (congrArg Prod.fst e).symm, (congrArg Prod.snd e).symm⟩
  · rw [if_neg h0] at h
    by_cases h1 : p = 1
    · rw [if_pos h1] at h
      have e := Option.some.inj h
      subst h1
      exact .inr ⟨.inr (.inl rfl), (congrArg Prod.fst e).symm, (congrArg Prod.snd e).symm⟩
    · rw [if_neg h1] at h
      by_cases h2 : p = 2
      · rw [if_pos h2] at h
        have e := Option.some.inj h
        exact .inl ⟨h2, (congrArg Prod.fst e).symm, (congrArg Prod.snd e).symm⟩
      · rw [if_neg h2] at h
        by_cases h3 : p = 3
        · rw [if_pos h3] at h
          have e := Option.some.inj h
          subst h3
          exact .inr ⟨.inr (.inr (.inl rfl)), (congrArg Prod.fst e).symm, (congrArg Prod.snd e).symm⟩
        · rw [if_neg h3] at h
          by_cases h4 : p = 4
          · rw [if_pos h4] at h
            have e := Option.some.inj h
            subst h4
            exact .inr ⟨.inr (.inr (.inr rfl)), (congrArg Prod.fst e).symm, (congrArg Prod.snd e).symm⟩
          · rw [if_neg h4] at h
            cases h
theorem call_rec {ns : List Int} {at_ : Nat} {c t} (h : PyFlat.call PySi83.shape (ns.drop at_) = some (c, t)) : ∃ p xs ys nx, Rec ns at_ p xs ys nx ∧ t = ns.drop nx ∧ c = rawOf p xs ys := by
  cases hd : ns.drop at_ with
  | nil =>
    rw [hd] at h
    cases h
  | cons p r =>
    rw [hd] at h
    cases hs : PySi83.shape p with
    | none =>
      have h' : (match PySi83.shape p with
        | none => none
        | some (n, k) => if r.length < n then none else match PyFlat.rows k (r.drop n) with
          | none => none
          | some (xs, t) => some ((p :: r.take n) :: xs, t)) = some (c, t) := h
      rw [hs] at h'
      cases h'
    | some nk =>
      obtain ⟨n, k⟩ := nk
      rcases shape_cases hs with ⟨rfl, rfl, rfl⟩ | ⟨hp, rfl, rfl⟩
      · obtain ⟨ys, e1, e2⟩ := call_row h
        rw [e1] at hd
        refine ⟨2, [], ys, _, .inr ⟨rfl, rfl, ⟨t, hd⟩, rfl⟩, ?_, ?_⟩
        · have q := drop_more (l := 2 :: (ys.length : Int) :: ys) (r := t) hd
          rw [List.length_cons, List.length_cons] at q
          rw [← q]
          congr 1
          omega
        · rw [e2]
          rfl
      · obtain ⟨e1, e2, e3⟩ := call_plain hs h
        have hx : (r.take (wn p)).length = wn p := by rw [List.length_take]; omega
        have hd2 : ns.drop at_ = p :: (r.take (wn p) ++ t) := by rw [hd, e3, List.take_append_drop]
        refine ⟨p, r.take (wn p), [], _, .inl ⟨hp, rfl, hx, ⟨t, hd2⟩, rfl⟩, ?_, ?_⟩
        · have q := drop_more (l := p :: r.take (wn p)) (r := t) hd2
          rw [List.length_cons] at q
          rw [← q]
          congr 1
          omega
        · rw [e2]
          have : ¬ p = 2 := by rcases hp with rfl | rfl | rfl | rfl <;> decide
          unfold rawOf
          rw [if_neg this]
theorem calls_more {ns : List Int} {at_ f : Nat} {cs} (h : PyFlat.calls PySi83.shape f (ns.drop at_) = some cs) (hn : at_ < ns.length) :
    ∃ p xs ys nx cs' f', Rec ns at_ p xs ys nx ∧ cs = rawOf p xs ys :: cs' ∧ PyFlat.calls PySi83.shape f' (ns.drop nx) = some cs' := by
  cases hd : ns.drop at_ with
  | nil =>
    have := congrArg List.length hd
    rw [List.length_drop] at this
    simp at this
    omega
  | cons p r =>
    rw [hd] at h
    cases f with
    | zero => cases h
    | succ f =>
      have h' : (match PyFlat.call PySi83.shape (p :: r) with
        | none => none
        | some (c, t) => match PyFlat.calls PySi83.shape f t with
          | none => none
          | some cs => some (c :: cs)) = some cs := h
      cases hc : PyFlat.call PySi83.shape (p :: r) with
      | none =>
        rw [hc] at h'
        cases h'
      | some ct =>
        obtain ⟨c, t⟩ := ct
        rw [hc] at h'
        have h2 : (match PyFlat.calls PySi83.shape f t with
          | none => none
          | some cs => some (c :: cs)) = some cs := h'
        cases hr : PyFlat.calls PySi83.shape f t with
        | none =>
          rw [hr] at h2
          cases h2
        | some cs' =>
          rw [hr] at h2
          have e : c :: cs' = cs := Option.some.inj h2
          rw [← hd] at hc
          obtain ⟨p', xs, ys, nx, hrec, ht, hcc⟩ := call_rec hc
          exact ⟨p', xs, ys, nx, cs', f, hrec, by rw [← e, hcc], by rw [← ht]; exact hr⟩
theorem calls_end {ns : List Int} {at_ f : Nat} {cs} (h : PyFlat.calls PySi83.shape f (ns.drop at_) = some cs) (hn : ns.length ≤ at_) : cs = [] := by
  rw [List.drop_eq_nil_of_le hn] at h
  cases f with
  | zero => exact (Option.some.inj h).symm
  | succ f => exact (Option.some.inj h).symm
/-! ### a call by what is handed to answered -/
def Enc (call : Int) (given formula : List Nat) : Si83.Call → Prop
  | .begins b => call = 0 ∧ given = b ∧ b.length = 3
  | .material m => call = 1 ∧ given = m.parts ++ [m.wanted, m.most] ∧ m.parts.length = 3
  | .check l => call = 2 ∧ formula = l ∧ l.length ≤ 100
  | .strongest c => call = 3 ∧ given = [c]
  | .nearest p q => call = 4 ∧ given = [p, q]
def nats (xs : List Int) : List Nat := xs.map Int.toNat
theorem nats_cast {xs : List Int} (h : ∀ x ∈ xs, 0 ≤ x) : (nats xs).map (fun n : Nat => (n : Int)) = xs := by
  unfold nats
  rw [List.map_map]
  induction xs with
  | nil => rfl
  | cons a r ih =>
    rw [List.map_cons, ih fun x hx => h x (List.mem_cons_of_mem _ hx)]
    have e : (Function.comp (fun n : Nat => (n : Int)) Int.toNat) a = a := Int.toNat_of_nonneg (h a List.mem_cons_self)
    rw [e]
theorem len3 {xs : List Int} (h : xs.length = 3) : ∃ a b c, xs = [a, b, c] := match xs, h with | [a, b, c], _ => ⟨a, b, c, rfl⟩
theorem len5 {xs : List Int} (h : xs.length = 5) : ∃ a b c d e, xs = [a, b, c, d, e] := match xs, h with | [a, b, c, d, e], _ => ⟨a, b, c, d, e, rfl⟩
theorem len1 {xs : List Int} (h : xs.length = 1) : ∃ a, xs = [a] := match xs, h with | [a], _ => ⟨a, rfl⟩
theorem len2 {xs : List Int} (h : xs.length = 2) : ∃ a b, xs = [a, b] := match xs, h with | [a, b], _ => ⟨a, b, rfl⟩
theorem within_iff {lo hi z : Int} : PyInside.within lo hi z = true ↔ lo ≤ z ∧ z ≤ hi := by
  unfold PyInside.within
  rw [Bool.and_eq_true, decide_eq_true_eq, decide_eq_true_eq]
theorem enc_of {ns : List Int} {at_ nx : Nat} {p : Int} {xs ys : List Int} (h : Rec ns at_ p xs ys nx) (hb : PyInside.call PySi83.bound (rawOf p xs ys) = true) :
    (∀ x ∈ xs, 0 ≤ x) ∧ (∀ y ∈ ys, 0 ≤ y) ∧ ∃ q, Enc p (nats xs) (nats ys) q ∧ Si83Neutral.callOf ((PySi83.whole (rawOf p xs ys)).headD []) = some q := by
  rcases h with ⟨hp, rfl, hl, _, _⟩ | ⟨rfl, rfl, _, _⟩
  · rcases hp with rfl | rfl | rfl | rfl
    · obtain ⟨a, b, c, rfl⟩ := len3 hl
      have hb : (PyInside.within 0 4294967295 a && (PyInside.within 0 4294967295 b && (PyInside.within 0 4294967295 c && true)) && true) = true := hb
      simp only [Bool.and_eq_true, within_iff] at hb
      refine ⟨by simp; omega, by simp, .begins [a.toNat, b.toNat, c.toNat], ⟨rfl, rfl, rfl⟩, rfl⟩
    · obtain ⟨a, b, c, d, e, rfl⟩ := len5 hl
      have hb : (PyInside.within 0 4294967295 a && (PyInside.within 0 4294967295 b && (PyInside.within 0 4294967295 c && (PyInside.within 0 4294967295 d && (PyInside.within 0 4294967295 e && true)))) && true) = true := hb
      simp only [Bool.and_eq_true, within_iff] at hb
      refine ⟨by simp; omega, by simp, .material ⟨[a.toNat, b.toNat, c.toNat], d.toNat, e.toNat⟩, ⟨rfl, rfl, rfl⟩, rfl⟩
    · obtain ⟨a, rfl⟩ := len1 hl
      have hb : (PyInside.within 0 4294967295 a && true && true) = true := hb
      simp only [Bool.and_eq_true, within_iff] at hb
      refine ⟨by simp; omega, by simp, .strongest a.toNat, ⟨rfl, rfl⟩, rfl⟩
    · obtain ⟨a, b, rfl⟩ := len2 hl
      have hb : (PyInside.within 0 4294967295 a && (PyInside.within 0 4294967295 b && true) && true) = true := hb
      simp only [Bool.and_eq_true, within_iff] at hb
      refine ⟨by simp; omega, by simp, .nearest a.toNat b.toNat, ⟨rfl, rfl⟩, rfl⟩
  · have hb : (true && (decide (0 ≤ ys.length) && decide (ys.length ≤ 6) && ys.all (PyInside.within 0 4294967295) && true)) = true := hb
    simp only [Bool.and_eq_true, decide_eq_true_eq, List.all_eq_true, within_iff] at hb
    have h6 : ys.length ≤ 6 := hb.2.1.1.2
    refine ⟨by simp, fun y hy => (hb.2.1.2 y hy).1, .check (nats ys), ⟨rfl, rfl, ?_⟩, ?_⟩
    · unfold nats
      rw [List.length_map]
      omega
    · show (if (ys.map Int.toNat).length ≤ 6 then some (Si83.Call.check (ys.map Int.toNat)) else none) = _
      rw [if_pos (by rw [List.length_map]; exact h6)]
      rfl
/-- what is asked, in what is needed of it -/
theorem asked_of {ns : List Int} (h : PySi83.answers_asked ns = true) : ∃ cs, PyFlat.calls PySi83.shape ns.length (ns.drop 0) = some cs ∧ (∀ c ∈ cs, PyInside.call PySi83.bound c = true) ∧
    PySi83.answers ns = PyFlat.told (PyFlat.played Si83Neutral.step Si83Neutral.start (cs.map PySi83.whole)) ∧ (PySi83.answers ns).length ≤ 10000000 := by
  rw [List.drop_zero]
  unfold PySi83.answers_asked at h
  cases hc : PyFlat.calls PySi83.shape ns.length ns with
  | none =>
    rw [hc] at h
    cases h
  | some raw =>
    rw [hc] at h
    simp only [Bool.and_eq_true] at h
    obtain ⟨⟨⟨⟨h1, h2⟩, h3⟩, h4⟩, h5⟩ := h
    refine ⟨raw, rfl, fun c hcc => List.all_eq_true.mp h3 c hcc, ?_, of_decide_eq_true h5⟩
    unfold PySi83.answers PySi83.calls
    rw [hc]
theorem step_some {s : Si83.Order} {c : List (List Int)} {q : Si83.Call} (h : Si83Neutral.callOf (c.headD []) = some q) : Si83Neutral.step s c = ((Si83.step s q).1, (Si83.step s q).2.v :: (Si83.step s q).2.l) := by
  unfold Si83Neutral.step
  rw [h]
theorem played_cons {s : Si83.Order} {c : List (List Int)} {r : List (List (List Int))} {q : Si83.Call} (h : Si83Neutral.callOf (c.headD []) = some q) :
    PyFlat.told (PyFlat.played Si83Neutral.step s (c :: r)) = (((Si83.step s q).2.v :: (Si83.step s q).2.l).length : Int) :: ((Si83.step s q).2.v :: (Si83.step s q).2.l) ++ PyFlat.told (PyFlat.played Si83Neutral.step (Si83.step s q).1 r) := by
  show PyFlat.told ((Si83Neutral.step s c).2 :: PyFlat.played Si83Neutral.step (Si83Neutral.step s c).1 r) = _
  rw [step_some h]
  rfl
/-- a refusal leaves all as it was, and is a number alone -/
theorem step_neg {o : Si83.Order} (q : Si83.Call) (h : (Si83.step o q).2.v < 0) : (Si83.step o q).1 = o ∧ (Si83.step o q).2.l = [] := by
  have tb : ∀ r : Option Si83.Best, (Si83.toldBest r).v < 0 → (Si83.toldBest r).l = [] := fun r hr => by
    cases r with
    | none => rfl
    | some b => exact absurd hr (show ¬ (0 : Int) < 0 by decide)
  cases q with
  | begins b =>
    have h : (if b.length ≠ Si83.SUBSTANCES ∨ (b.all fun n => decide (n ≤ 10000)) = false then (o, Si83.ok (-1)) else ((⟨b, []⟩ : Si83.Order), Si83.ok 0)).2.v < 0 := h
    show (if b.length ≠ Si83.SUBSTANCES ∨ (b.all fun n => decide (n ≤ 10000)) = false then (o, Si83.ok (-1)) else ((⟨b, []⟩ : Si83.Order), Si83.ok 0)).1 = o ∧ (if b.length ≠ Si83.SUBSTANCES ∨ (b.all fun n => decide (n ≤ 10000)) = false then (o, Si83.ok (-1)) else ((⟨b, []⟩ : Si83.Order), Si83.ok 0)).2.l = []
    split at h
    · rename_i c
      rw [if_pos c]
      exact ⟨rfl, rfl⟩
    · exact absurd h (show ¬ (0 : Int) < 0 by decide)
  | material m =>
    unfold Si83.step at h ⊢
    simp only at h ⊢
    split at h
    · rename_i c
      rw [if_pos c]
      exact ⟨rfl, rfl⟩
    · rename_i c
      split at h
      · rename_i c2
        rw [if_neg c, if_pos c2]
        exact ⟨rfl, rfl⟩
      · exact absurd h (show ¬ ((o.count : Nat) : Int) < 0 by omega)
  | check l =>
    unfold Si83.step at h ⊢
    simp only at h ⊢
    split at h
    · rename_i c
      rw [if_pos c]
      exact ⟨rfl, rfl⟩
    · rename_i c
      split at h
      · rename_i c2
        rw [if_neg c, if_pos c2]
        exact ⟨rfl, rfl⟩
      · exact absurd h (show ¬ (0 : Int) < 0 by decide)
  | strongest c => exact ⟨rfl, tb _ h⟩
  | nearest p r =>
    unfold Si83.step at h ⊢
    simp only at h ⊢
    split at h
    · rename_i c
      rw [if_pos c]
      exact ⟨rfl, rfl⟩
    · rename_i c
      rw [if_neg c]
      exact ⟨rfl, tb _ h⟩
end Dn
namespace Dn
open PySem PySem.Spec PyProof.Rows L2
theorem ifT {c : Bool} {A B : Prop} (hc : c = true) (h : A) : if c = true then A else B := by
  rw [if_pos hc]
  exact h
theorem ifF {c : Bool} {A B : Prop} (hc : c = false) (h : B) : if c = true then A else B := by
  rw [hc]
  exact iteF h
/-- the numbers of orders.py -/
structure Co (K : PySem.W.Frag) (mg : Str → Option Value) : Prop where
  wn : ∃ t, mg "WHOLE_NUMBERS" = some (.ref t) ∧ ∀ H, SqT K H t [.int 3, .int 5, .int 0, .int 1, .int 2]
  ck : ∃ tk, mg "CHECK" = some (.int 2 tk)
section
variable {P : Program} {w : World} {K : PySem.W.Frag} {mg : Str → Option Value} {base : Heap} {cM cO cB cR cH : Addr}
/-! ### answered -/
def spAnd (cM cO cH cR : Addr) : Sp := fun vs H Q E => ∃ (h oa ms gl fl : Addr) (o : Si83.Order) (call : Int) (given formula : List Nat) (q : Si83.Call), vs = [.ref h, .int call, .ref gl, .ref fl] ∧ HolAt cM cO cH H h oa ms o ∧ OkO o ∧ Enc call given formula q ∧
  H gl = some (.lst (VL given)) ∧ H fl = some (.lst (VL formula)) ∧ Fin cM cO cH cR H h ms o q Q E
theorem scAnd : FnScope ["holder", "call", "given", "formula"] ["holder", "call", "given", "formula"] (defScope sAnd) := ⟨rfl, rfl, rfl, by decide +kernel, rfl, by decide +kernel, by decide +kernel⟩
theorem ok_and {f f0 f1 f2 f3 f4 : Addr} (F : ∃ fd, Fun K "answered" "answered" sAnd f fd) (C : Co K mg) (n0 : Nm K mg "begins" f0) (G0 : Ok P w K mg base (L2.CX P w) 4 f0 ["holder", "bounds"] (spBeg cM cO cH cR))
    (n1 : Nm K mg "material" f1) (G1 : Ok P w K mg base (L2.CX P w) 4 f1 ["holder", "given"] (spMat cM cO cH cR)) (n2 : Nm K mg "check" f2) (G2 : Ok P w K mg base (L2.CX P w) 6 f2 ["holder", "formula"] (spChk cM cO cH cR))
    (n3 : Nm K mg "strongest" f3) (G3 : Ok P w K mg base (L2.CX P w) 5 f3 ["holder", "drops"] (spStg cM cO cH cR)) (n4 : Nm K mg "nearest" f4) (G4 : Ok P w K mg base (L2.CX P w) 5 f4 ["holder", "p", "q"] (spNrs cM cO cH cR)) :
    Ok P w K mg base (L2.CX P w) 7 f ["holder", "call", "given", "formula"] (spAnd cM cO cH cR) := by
  obtain ⟨fd, F⟩ := F
  obtain ⟨d0, G0, b0⟩ := G0
  obtain ⟨d1, G1, b1⟩ := G1
  obtain ⟨d2, G2, b2⟩ := G2
  obtain ⟨d3, G3, b3⟩ := G3
  obtain ⟨d4, G4, b4⟩ := G4
  obtain ⟨_, tk, gC⟩ := C
  refine ⟨fd, ?_, F.binds (ps := ["holder", "call", "given", "formula"]) fun _ _ _ _ _ _ us hl => match us, hl with | [_, _, _, _], _ => rfl⟩
  refine F.okX scAnd (fun vs H Q E h => ?_) (fun cdv A outer s H vs Q E hr h => ?_)
  · obtain ⟨h, oa, ms, gl, fl, o, call, given, formula, q, rfl, _⟩ := h
    rfl
  · obtain ⟨h, oa, ms, gl, fl, o, call, given, formula, q, rfl, hol, ok, en, hg, hf, hF⟩ := h
    have hr4 : Room 4 _ := hr.mono (by decide)
    have hr5 : Room 5 _ := hr.mono (by decide)
    refine ⟨_, pss_cons (ps_if (pt_cmpR op_eq (pv 1) pe_int (nomark _)) (pss_one (ps_ret (pe_call G0 hr4 rfl n0.g n0.k b0 .nil (passes_call (E := E) (W := fun cls d _ H => E cls d H) (takes_of rfl rfl rfl rfl) (fun _ _ _ _ h => h)) (by exact (pa_cons (pv 0) (pa_cons (pv 2) pa_nil)))))) pss_nil)
      (pss_cons (ps_if (pt_cmpR op_eq (pv 1) pe_int (nomark _)) (pss_one (ps_ret (pe_call G1 hr4 rfl n1.g n1.k b1 .nil (passes_call (E := E) (W := fun cls d _ H => E cls d H) (takes_of rfl rfl rfl rfl) (fun _ _ _ _ h => h)) (by exact (pa_cons (pv 0) (pa_cons (pv 2) pa_nil)))))) pss_nil)
      (pss_cons (ps_if (pt_cmpR op_eq (pv 1) (pe_glob (v := .int 2) rfl gC ⟨_, rfl⟩) (nomark _)) (pss_one (ps_ret (pe_call G2 hr rfl n2.g n2.k b2 .nil (passes_call (E := E) (W := fun cls d _ H => E cls d H) (takes_of rfl rfl rfl rfl) (fun _ _ _ _ h => h)) (by exact (pa_cons (pv 0) (pa_cons (pv 3) pa_nil)))))) pss_nil)
      (pss_cons (ps_if (pt_cmpR op_eq (pv 1) pe_int (nomark _)) (pss_one (ps_ret (pe_call G3 hr5 rfl n3.g n3.k b3 .nil (passes_call (E := E) (W := fun cls d _ H => E cls d H) (takes_of rfl rfl rfl rfl) (fun _ _ _ _ h => h)) (by exact (pa_cons (pv 0) (pa_cons (pe_ix ix_list (pv 2) pe_int fun _ _ => rfl) pa_nil)))))) pss_nil)
      (pss_one (ps_ret (pe_call G4 hr5 rfl n4.g n4.k b4 .nil (passes_call (E := E) (W := fun cls d _ H => E cls d H) (takes_of rfl rfl rfl rfl) (fun _ _ _ _ h => h)) (by exact (pa_cons (pv 0) (pa_cons (pe_ix ix_list (pv 2) pe_int fun _ _ => rfl) (pa_cons (pe_ix ix_list (pv 2) pe_int fun _ _ => rfl) pa_nil)))))))))), ?_⟩
    refine ⟨_, rfl, rfl, _, rfl, ?_⟩
    cases q with
    | begins b =>
      obtain ⟨rfl, rfl, h3⟩ := en
      exact ifT rfl ⟨_, rfl, _, rfl, h, oa, ms, gl, o, _, rfl, hol, hg, h3, hF⟩
    | material m =>
      obtain ⟨rfl, rfl, h3⟩ := en
      refine ifF rfl ⟨_, rfl, rfl, _, rfl, ?_⟩
      exact ifT rfl ⟨_, rfl, _, rfl, h, oa, ms, gl, o, m, rfl, hol, ok, hg, h3, hF⟩
    | check l =>
      obtain ⟨rfl, rfl, hl⟩ := en
      refine ifF rfl ⟨_, rfl, rfl, _, rfl, ?_⟩
      refine ifF rfl ⟨_, rfl, rfl, _, rfl, ?_⟩
      exact ifT rfl ⟨_, rfl, _, rfl, h, oa, ms, fl, o, _, rfl, hol, ok, hf, hl, hF⟩
    | strongest c =>
      obtain ⟨rfl, rfl⟩ := en
      refine ifF rfl ⟨_, rfl, rfl, _, rfl, ?_⟩
      refine ifF rfl ⟨_, rfl, rfl, _, rfl, ?_⟩
      refine ifF rfl ⟨_, rfl, rfl, _, rfl, ?_⟩
      exact ifT rfl ⟨_, rfl, _, rfl, gl, _, _, _, rfl, rfl, .of hg, rfl, h, oa, ms, o, c, rfl, hol, ok, hF⟩
    | nearest p q =>
      obtain ⟨rfl, rfl⟩ := en
      refine ifF rfl ⟨_, rfl, rfl, _, rfl, ?_⟩
      refine ifF rfl ⟨_, rfl, rfl, _, rfl, ?_⟩
      refine ifF rfl ⟨_, rfl, rfl, _, rfl, ?_⟩
      exact ifF rfl ⟨_, rfl, _, rfl, gl, _, _, _, rfl, rfl, .of hg, rfl, _, rfl, gl, _, _, _, rfl, rfl, .of hg, rfl, h, oa, ms, o, p, q, rfl, hol, ok, hF⟩
/-! ### answer -/
def spAns (cM cO cH : Addr) : Sp := fun vs H Q _ => ∃ (h oa ms gl fl : Addr) (o : Si83.Order) (call : Int) (given formula : List Nat) (q : Si83.Call), vs = [.ref h, .int call, .ref gl, .ref fl] ∧ HolAt cM cO cH H h oa ms o ∧ OkO o ∧ Enc call given formula q ∧
  H gl = some (.lst (VL given)) ∧ H fl = some (.lst (VL formula)) ∧
  ∀ H' oa' ms' p, But2 h ms H H' → (ms' = ms ∨ H ms' = none) → HolAt cM cO cH H' h oa' ms' (Si83.step o q).1 → H' p = some (.lst (VI ((Si83.step o q).2.v :: (Si83.step o q).2.l))) → Q (.ref p) H'
theorem scAns : FnScope ["holder", "call", "given", "formula", "refused"] ["holder", "call", "given", "formula"] (defScope sAns) := ⟨rfl, rfl, rfl, by decide +kernel, rfl, by decide +kernel, by decide +kernel⟩
theorem ok_ans {f fA iR : Addr} (F : ∃ fd, Fun K "answer" "answer" sAns f fd) (T : TR K mg cR iR) (nA : Nm K mg "answered" fA) (GA : Ok P w K mg base (L2.CX P w) 7 fA ["holder", "call", "given", "formula"] (spAnd cM cO cH cR)) :
    Ok P w K mg base CX0 8 f ["holder", "call", "given", "formula"] (spAns cM cO cH) := by
  obtain ⟨fd, F⟩ := F
  obtain ⟨dA, GA, bA⟩ := GA
  refine ⟨fd, ?_, F.binds (ps := ["holder", "call", "given", "formula"]) fun _ _ _ _ _ _ us hl => match us, hl with | [_, _, _, _], _ => rfl⟩
  refine F.ok scAns (fun vs H Q E h => ?_) (fun cdv A outer s H vs Q E hr h => ?_)
  · obtain ⟨h, oa, ms, gl, fl, o, call, given, formula, q, rfl, _⟩ := h
    rfl
  · obtain ⟨h, oa, ms, gl, fl, o, call, given, formula, q, rfl, hol, ok, en, hg, hf, k⟩ := h
    refine ⟨_, pss_one (ps_try_as (i := 4) (tb := fun W => tRet (tCallS (spAnd cM cO cH cR) (WE W) (tCons (tVar 0) (tCons (tVar 1) (tCons (tVar 2) (tCons (tVar 3) tNil)))))) (ts := fun a cls d => tRet (tLst (tCons (tXf a cls d cR "number" (tVar 4)) tNil))) (Wout := fun _ _ _ _ => False)
        rfl rfl scAns.nd rfl rfl ⟨rfl, by decide, Or.inl T.g⟩ takes0
        (fun W pn xe tk _ => pss_one (ps_ret (by exact (pe_callS GA hr rfl nA.g nA.k bA (fun σ => passAt tk σ) (by exact (pa_cons (pv 0) (pa_cons (pv 1) (pa_cons (pv 2) (pa_cons (pv 3) pa_nil)))))))))
        (fun a oe cls d pn hz hf => pss_one (ps_ret (by exact (pe_lst (by exact (pa_cons (by exact (pe_xf T.xf T.no hz hf (pv 4))) pa_nil))))))), ?_⟩
    refine ⟨_, rfl, _, rfl, _, rfl, _, rfl, h, oa, ms, gl, fl, o, call, given, formula, q, rfl, hol, ok, en, hg, hf, fun _ => k, fun hneg => ?_⟩
    obtain ⟨e1, e2⟩ := step_neg q hneg
    intro d H' sm hd
    refine ⟨true, T.te, fun _ a0 _ => ?_, fun q => Bool.noConfusion q⟩
    refine ⟨_, rfl, rfl, rfl, d, _, _, rfl, hd, rfl, (by show 1 ≤ sizeLine; decide), fun p hp => ?_⟩
    have sp := sm.trans (same_new (o := .lst [V.int (Si83.step o q).2.v]) hp)
    refine k _ oa ms p (But2.of sp) (.inl rfl) ?_ ?_
    · rw [e1]
      exact hol.same sp
    · rw [e2]
      exact upd_same
/-! ### call_at -/
theorem cut_nat {ns xs rest : List Int} {i j : Nat} (h : ns.drop i = xs ++ rest) (hj : j = i + xs.length) (hl : j ≤ ns.length) : cutV (ns.map V.int) (some (i : Int)) (some (j : Int)) = xs.map V.int := by
  unfold cutV
  rw [HT.sIx_nat, HT.sIx_nat, List.length_map]
  have e1 : min i ns.length = i := by omega
  have e2 : min j ns.length = j := by omega
  rw [e1, e2, ← List.map_drop, h, ← List.map_take]
  have e3 : j - i = xs.length := by omega
  rw [e3, List.take_left]
def spCat (K : PySem.W.Frag) : Sp := fun vs H Q _ => ∃ (a : Addr) (at_ nx : Nat) (ns : List Int) (p : Int) (xs ys : List Int), vs = [.ref a, VN at_] ∧ SqL K H a (ns.map V.int) ∧ ns.length ≤ 1000000 ∧ Rec ns at_ p xs ys nx ∧
  ∀ H' t g f, Same H H' → H' t = some (.tup [.int p, .ref g, .ref f, VN nx]) → H' g = some (.lst (xs.map V.int)) → H' f = some (.lst (ys.map V.int)) → Q (.ref t) H'
theorem scCat : FnScope ["calls", "at", "call", "end", "given", "behind"] ["calls", "at"] (defScope sCat) := ⟨rfl, rfl, rfl, by decide +kernel, rfl, by decide +kernel, by decide +kernel⟩
theorem ok_cat {f : Addr} (F : ∃ fd, Fun K "call_at" "call_at" sCat f fd) (C : Co K mg) : Ok P w K mg base CX0 1 f ["calls", "at"] (spCat K) := by
  obtain ⟨fd, F⟩ := F
  obtain ⟨⟨tW, gW, hW⟩, tk, gC⟩ := C
  refine ⟨fd, ?_, F.binds (ps := ["calls", "at"]) fun _ _ _ _ _ _ us hl => match us, hl with | [_, _], _ => rfl⟩
  refine F.ok scCat (fun vs H Q E h => ?_) (fun cdv A outer s H vs Q E hr h => ?_)
  · obtain ⟨a, at_, nx, ns, p, xs, ys, rfl, _⟩ := h
    rfl
  · obtain ⟨a, at_, nx, ns, p, xs, ys, rfl, hS, hlen, hrec, k⟩ := h
    refine ⟨_, pss_cons (ps_set (i := 2) scCat.nd rfl (.inl rfl) (pe_ix ix_list (pv 0) (pv 1) fun _ _ => rfl))
      (pss_cons (ps_set (i := 3) scCat.nd rfl (.inl rfl) (pe_op op_add (pe_op op_add (pv 1) pe_int) (pe_ix ix_tup (pe_glob (v := .ref tW) rfl gW rfl) (pv 2) fun _ _ => rfl)))
      (pss_cons (ps_set (i := 4) scCat.nd rfl (.inl rfl) (pe_slice sl_list (pv 0) (po_some (pe_op op_add (pv 1) pe_int)) (po_some (pv 3))))
      (pss_cons (ps_if (pt_cmpR op_ne (pv 2) (pe_glob (v := .int 2) rfl gC ⟨_, rfl⟩) (nomark _)) (pss_one (ps_ret (pe_tup (pa_cons (pv 2) (pa_cons (pv 4) (pa_cons (pe_lst pa_nil) (pa_cons (pv 3) pa_nil))))))) pss_nil)
      (pss_cons (ps_set (i := 5) scCat.nd rfl (.inl rfl) (pe_op op_add (pe_op op_add (pv 3) pe_int) (pe_ix ix_list (pv 0) (pv 3) fun _ _ => rfl)))
      (pss_one (ps_ret (pe_tup (pa_cons (pv 2) (pa_cons (pv 4) (pa_cons (pe_slice sl_list (pv 0) (po_some (pe_op op_add (pv 3) pe_int)) (po_some (pv 5))) (pa_cons (pv 5) pa_nil))))))))))), ?_⟩
    have hnx := hrec.next
    have get : ∀ {i : Nat} {z : Int} {l : List Int}, ns.drop i = z :: l → (ns.map V.int)[i]? = some (V.int z) := fun {i z l} e => by
      rw [List.getElem?_map]
      have q : (ns.drop i)[0]? = some z := by rw [e]; rfl
      rw [List.getElem?_drop, Nat.add_zero] at q
      rw [q]
      rfl
    rcases hrec with ⟨hp, rfl, hl, ⟨rest, hd⟩, rfl⟩ | ⟨rfl, rfl, ⟨rest, hd⟩, rfl⟩
    · have hw : atI ([.int 3, .int 5, .int 0, .int 1, .int 2] : List V) p = some (VN xs.length) := by
        rw [hl]
        rcases hp with rfl | rfl | rfl | rfl <;> rfl
      refine ⟨_, rfl, _, rfl, a, _, _, _, rfl, rfl, hS, atI_nat (get hd), ?_⟩
      refine ⟨_, rfl, _, _, rfl, rfl, _, rfl, tW, _, _, _, rfl, rfl, hW H, hw, _, _, rfl, rfl, ?_⟩
      have e1 : (at_ : Int) + 1 = ((at_ + 1 : Nat) : Int) := by omega
      have e2 : (at_ : Int) + 1 + (xs.length : Int) = ((at_ + 1 + xs.length : Nat) : Int) := by omega
      refine ⟨_, rfl, _, rfl, _, _, rfl, rfl, _, rfl, _, rfl, _, rfl, a, _, rfl, hS, fun g ng => ?_⟩
      have hd1 : ns.drop (at_ + 1) = xs ++ rest := drop_more (l := [p]) (r := xs ++ rest) hd
      have ec : cutV (ns.map V.int) (some ((at_ : Int) + 1)) (some ((at_ : Int) + 1 + (xs.length : Int))) = xs.map V.int := by
        rw [e2, e1]
        exact cut_nat hd1 rfl hnx.2
      rw [ec]
      have sg : Same H (upd H g (.lst (xs.map V.int))) := same_new ng
      have np : decide (V.int p = V.int 2) = false := decide_eq_false (fun q => by
        injection q with q
        rcases hp with rfl | rfl | rfl | rfl <;> cases q)
      refine ⟨_, rfl, rfl, _, rfl, ?_⟩
      rw [np]
      refine iteT ⟨_, rfl, _, rfl, Nat.zero_le _, fun f nf => ?_⟩
      have sf := same_new (o := .lst []) nf
      refine ⟨_, rfl, (by show 4 ≤ sizeLine; decide), fun t nt => ?_⟩
      have st := same_new (o := .tup [.int p, .ref g, .ref f, VN (at_ + 1 + xs.length)]) nt
      have q := k _ t g f ((sg.trans sf).trans st) upd_same (st _ _ (sf _ _ upd_same)) (st _ _ upd_same)
      show Q (.ref t) (upd _ t (.tup [.int p, .ref g, .ref f, .int ((at_ : Int) + 1 + (xs.length : Int))]))
      rw [e2]
      exact q
    · refine ⟨_, rfl, _, rfl, a, _, _, _, rfl, rfl, hS, atI_nat (get hd), ?_⟩
      refine ⟨_, rfl, _, _, rfl, rfl, _, rfl, tW, _, _, (.int 0), rfl, rfl, hW H, rfl, _, _, rfl, rfl, ?_⟩
      have e1 : (at_ : Int) + 1 = ((at_ + 1 : Nat) : Int) := by omega
      have e2 : (at_ : Int) + 1 + 0 = ((at_ + 1 : Nat) : Int) := by omega
      have hd1 : ns.drop (at_ + 1) = (ys.length : Int) :: (ys ++ rest) := drop_more (l := [(2 : Int)]) (r := (ys.length : Int) :: (ys ++ rest)) hd
      have hd2 : ns.drop (at_ + 2) = ys ++ rest := drop_more (l := [(2 : Int), (ys.length : Int)]) (r := ys ++ rest) hd
      refine ⟨_, rfl, _, rfl, _, _, rfl, rfl, _, rfl, _, rfl, _, rfl, a, _, rfl, hS, fun g ng => ?_⟩
      have ec : cutV (ns.map V.int) (some ((at_ : Int) + 1)) (some ((at_ : Int) + 1 + 0)) = ([] : List Int).map V.int := by
        rw [e2, e1]
        exact cut_nat (xs := []) (rest := (ys.length : Int) :: (ys ++ rest)) hd1 rfl (by omega)
      rw [ec]
      have sg : Same H (upd H g (.lst (([] : List Int).map V.int))) := same_new ng
      refine ⟨_, rfl, rfl, _, rfl, ?_⟩
      refine ifF rfl ?_
      refine ⟨_, rfl, _, _, rfl, rfl, _, rfl, _, rfl, a, _, _, _, rfl, rfl, sg.seq hS, (by rw [e2]; exact atI_nat (get hd1)), _, _, rfl, rfl, ?_⟩
      have e3 : (at_ : Int) + 1 + 0 + 1 = ((at_ + 2 : Nat) : Int) := by omega
      have e4 : (at_ : Int) + 1 + 0 + 1 + (ys.length : Int) = ((at_ + 2 + ys.length : Nat) : Int) := by omega
      refine ⟨_, rfl, _, rfl, _, rfl, _, rfl, _, _, rfl, rfl, _, rfl, _, rfl, _, rfl, a, _, rfl, sg.seq hS, fun f nf => ?_⟩
      have ec2 : cutV (ns.map V.int) (some ((at_ : Int) + 1 + 0 + 1)) (some ((at_ : Int) + 1 + 0 + 1 + (ys.length : Int))) = ys.map V.int := by
        rw [e4, e3]
        exact cut_nat hd2 rfl hnx.2
      rw [ec2]
      have sf := same_new (o := .lst (ys.map V.int)) nf
      refine ⟨_, rfl, (by show 4 ≤ sizeLine; decide), fun t nt => ?_⟩
      have st := same_new (o := .tup [.int 2, .ref g, .ref f, VN (at_ + 2 + ys.length)]) nt
      have q := k _ t g f ((sg.trans sf).trans st) upd_same (st _ _ (sf _ _ upd_same)) (st _ _ upd_same)
      show Q (.ref t) (upd _ t (.tup [.int 2, .ref g, .ref f, .int ((at_ : Int) + 1 + 0 + 1 + (ys.length : Int))]))
      rw [e4]
      exact q
end
end Dn
namespace Dn
open PySem PySem.Spec PyProof.Rows L2
/-! ### a list is put aside while a call runs -/
def hide (H : Hp) (f : Addr) : Hp := fun b => if b = f then none else H b
theorem hide_ne {H : Hp} {f b : Addr} (h : b ≠ f) : hide H f b = H b := if_neg h
theorem hide_same {H : Hp} {f : Addr} : hide H f f = none := if_pos rfl
theorem hide_some {H : Hp} {f b : Addr} {o : HO} (h : hide H f b = some o) : b ≠ f ∧ H b = some o := by
  have n : b ≠ f := fun q => by
    rw [q, hide_same] at h
    cases h
  exact ⟨n, by rwa [hide_ne n] at h⟩
theorem hide_le {H : Hp} {f : Addr} : Same (hide H f) H := fun _ _ h => (hide_some h).2
theorem hide_mono {H H' : Hp} {f : Addr} (s : Same H H') : Same (hide H f) (hide H' f) := fun b o h => by
  obtain ⟨n, e⟩ := hide_some h
  rw [hide_ne n]
  exact s _ _ e
theorem hide_upd {H : Hp} {f : Addr} {o : HO} (h : H f = none) : hide (upd H f o) f = H := by
  funext b
  by_cases n : b = f
  · subst n
    rw [hide_same, h]
  · rw [hide_ne n, upd_ne n]
theorem hide_upd2 {H : Hp} {f : Addr} {o : HO} : hide (upd H f o) f = hide H f := by
  funext b
  by_cases n : b = f
  · subst n
    rw [hide_same, hide_same]
  · rw [hide_ne n, hide_ne n, upd_ne n]
def Framed (sp : Sp) : Sp := fun vs H Q E => ∃ (fa : Addr) (xs : List V), H fa = some (.lst xs) ∧ sp vs (hide H fa) (fun v H' => H' fa = none → Q v (upd H' fa (.lst xs))) E
theorem framed {P : Program} {w : World} {K : PySem.W.Frag} {mg : Str → Option Value} {base : Heap} {k : Nat} {f : Addr} {fd : FuncData} {ps : List Str} {sp : Sp} (F : FnOk P w K mg base CX0 k f fd ps sp) : FnOk P w K mg base CX0 k f fd ps (Framed sp) := by
  refine ⟨fun vs H Q E ⟨fa, xs, _, h⟩ => F.len _ _ _ _ h, fun A outer s H args us vs Q E hr e0 hb hv ⟨fa, xs, hfa, hsp⟩ => ?_⟩
  have nfr : fa ∉ frs outer := fun z => by
    have := e0.frf fa z
    rw [hfa] at this
    cases this
  have hok1 : HOk P w (hide H fa) s.heap := fun a o e => by
    obtain ⟨n, e1⟩ := hide_some e
    refine (e0.hok a o e1).stay (fun b u _ q => q) (fun b q => ?_) (fun b ys q => ?_)
    · rw [hide_ne (fun z => by rw [z, hfa] at q; cases q)]
      exact q
    · rw [hide_ne (fun z => by rw [z, hfa] at q; cases q)]
      exact q
  have none_of : ∀ b, H b = none → hide H fa b = none := fun b e => by
    by_cases n : b = fa
    · rw [n]
      exact hide_same
    · rw [hide_ne n]
      exact e
  have e1 : Env0 P w K mg base A outer s (hide H fa) := ⟨e0.frames, e0.mod, fun b o q => ⟨(e0.bs b o q).1, none_of b (e0.bs b o q).2⟩, e0.bsz, e0.funs, fun b q => none_of b (e0.frf b q), hok1, e0.bare⟩
  refine codeAny_mono (F.run A outer s (hide H fa) args us vs _ E hr e1 hb hv hsp) fun r s' hq => ?_
  cases r with
  | error e => exact hq
  | ok fl =>
    cases fl with
    | ret u =>
      obtain ⟨v, H', os, bare, un, hok, rv, q⟩ := hq
      obtain ⟨hz, its, n, rx, eo⟩ : ObjOk P w H s.heap fa (.lst xs) := e0.hok fa _ hfa
      have hf' : H' fa = none := un.free fa _ eo hide_same (by simp)
      have ko : s'.heap.get? fa = some { cls := .type "list", data := .seq its.toArray n } := un.keep fa _ eo hide_same nfr (by simp)
      have ne_of_H : ∀ b, H b = none → b ≠ fa := fun b e z => by
        rw [z, hfa] at e
        cases e
      refine ⟨v, upd H' fa (.lst xs), os, bare, ⟨fun b o e nb hb hx => un.keep b o e (none_of b nb) hb hx, fun b o e nb hb hx => un.slot b o e (none_of b nb) hb hx, fun b o e nb hx => ?_, fun b o e hx => un.there b o e hx, fun b ys e => ?_, fun b o ys e => ?_, fun b qs e => ?_⟩, fun a o e => ?_, rv, q hf'⟩
      · rw [upd_ne (ne_of_H b nb)]
        exact un.free b o e (none_of b nb) hx
      · have nb : b ≠ fa := fun z => by rw [z, hfa] at e; cases e
        rw [upd_ne nb]
        exact un.tups b ys (by rw [hide_ne nb]; exact e)
      · have nb : b ≠ fa := fun z => by rw [z, hfa] at e; cases e
        rw [upd_ne nb]
        exact un.frzs b o ys (by rw [hide_ne nb]; exact e)
      · have nb : b ≠ fa := fun z => by rw [z, hfa] at e; cases e
        rw [upd_ne nb]
        exact un.tbls b qs (by rw [hide_ne nb]; exact e)
      · by_cases n : a = fa
        · subst n
          rw [upd_same] at e
          cases e
          exact ⟨hz, its, _, rx, ko⟩
        · rw [upd_ne n] at e
          refine (hok a o e).stay (fun b u _ q => q) (fun b q => ?_) (fun b ys q => ?_)
          · rw [upd_ne (fun z => by rw [z, hf'] at q; cases q)]
            exact q
          · rw [upd_ne (fun z => by rw [z, hf'] at q; cases q)]
            exact q
    | next => exact hq
    | brk => exact hq
    | cont => exact hq
/-- the list that is handed in stays where it is -/
def CalAt (K : PySem.W.Frag) (H : Hp) (a h ms : Addr) (xs : List V) : Prop := SqL K H a xs ∧ ((a ≠ h ∧ a ≠ ms) ∨ ∀ H', SqL K H' a xs)
theorem sql_or {K : PySem.W.Frag} {H : Hp} {a : Addr} {xs : List V} (h : SqL K H a xs) : (∃ o, H a = some o ∧ ∀ H', H' a = some o → SqL K H' a xs) ∨ ∀ H', SqL K H' a xs := by
  rcases h with (h | ⟨o, h⟩) | h
  · exact .inl ⟨_, h, fun H' e => .inl (.inl e)⟩
  · exact .inl ⟨_, h, fun H' e => .inl (.inr ⟨o, e⟩)⟩
  · exact .inr fun _ => .inr h
section
variable {P : Program} {w : World} {K : PySem.W.Frag} {mg : Str → Option Value} {base : Heap} {cM cO cB cR cH : Addr}
/-! ### answers -/
def spMain (K : PySem.W.Frag) : Sp := fun vs H Q _ => ∃ (a : Addr) (ns : List Int), vs = [.ref a] ∧ SqL K H a (ns.map V.int) ∧ PySi83.answers_asked ns = true ∧ ns.length ≤ 30000 ∧
  ∀ (H' : Hp) (p : Addr), H' p = some (.lst ((PySi83.answers ns).map V.int)) → Q (.ref p) H'
theorem scMain : FnScope ["calls", "holder", "found", "at", "call", "given", "formula", "answered_now"] ["calls"] (defScope sAll2) := ⟨rfl, rfl, rfl, by decide +kernel, rfl, by decide +kernel, by decide +kernel⟩
theorem told_len {ns : List Int} {s : Si83.Order} {cs : List (List (List Int))} {acc out : List Int} {n : Nat} (h : acc ++ ((out.length : Int) :: out ++ PyFlat.told (PyFlat.played Si83Neutral.step s cs)) = PySi83.answers ns) (hn : (PySi83.answers ns).length ≤ n) : acc.length + 1 + out.length ≤ n := by
  rw [← h] at hn
  simp only [List.length_append, List.length_cons] at hn
  omega
theorem ok_main {f iH fC fA : Addr} {fd : FuncData} (F : Fun K "answers" "answers" sAll2 f fd) (B : Bt mg) (gH : mg "Holder" = some (.ref cH)) (MH : Mk K cH iH) (GH : Ok P w K mg base CX0 3 iH ["self"] (spHI cM cO cH))
    (nC : Nm K mg "call_at" fC) (GC : Ok P w K mg base CX0 1 fC ["calls", "at"] (spCat K)) (nA : Nm K mg "answer" fA) (GA : Ok P w K mg base CX0 8 fA ["holder", "call", "given", "formula"] (spAns cM cO cH)) :
    FnOk P w K mg base CX0 9 f fd ["calls"] (spMain K) := by
  obtain ⟨dH, GH, bH⟩ := GH
  obtain ⟨dC, GC, bC⟩ := GC
  obtain ⟨dA, GA, bA⟩ := GA
  have GF := framed GA
  have GCF := framed GC
  refine F.ok scMain (fun vs H Q E h => ?_) (fun cdv A outer s H vs Q E hr h => ?_)
  · obtain ⟨a, ns, rfl, _⟩ := h
    rfl
  · obtain ⟨a, ns, rfl, hS, hask, hns, k⟩ := h
    have hr4 : Room 4 _ := hr.mono (by decide)
    have hr1 : Room 1 _ := hr.mono (by decide)
    refine ⟨_, pss_cons (ps_set (i := 1) scMain.nd rfl (.inl rfl) (pe_make0 MH GH hr4 rfl gH bH .nil pass0))
      (pss_cons (ps_set (i := 2) scMain.nd rfl (.inl rfl) (pe_lst pa_nil))
      (pss_cons (ps_set (i := 3) scMain.nd rfl (.inl rfl) pe_int)
      (pss_cons (ps_while PassesOwn.never (pt_cmpR op_lt (pv 3) (pe_callB call_len_seq (by rfl) B.len PySem.boot_len (by exact (pa_cons (pv 0) pa_nil))) (nomark _))
        (pss_cons (ps_asg (pe_call GCF hr1 rfl nC.g nC.k bC .nil pass0 (by exact (pa_cons (pv 0) (pa_cons (pv 3) pa_nil))))
            (pg_tup rfl (pgs_cons (pg_name (i := 4) scMain.nd rfl (.inl rfl)) (pgs_cons (pg_name (i := 5) scMain.nd rfl (.inl rfl)) (pgs_cons (pg_name (i := 6) scMain.nd rfl (.inl rfl)) (pgs_cons (pg_name (i := 3) scMain.nd rfl (.inl rfl)) pgs_nil))))))
        (pss_cons (ps_set (i := 7) scMain.nd rfl (.inl rfl) (pe_call GF hr rfl nA.g nA.k bA .nil pass0 (by exact (pa_cons (pv 1) (pa_cons (pv 4) (pa_cons (pv 5) (pa_cons (pv 6) pa_nil)))))))
        (pss_cons (ps_expr (pe_bm PySem.F.plainAttrs_list PySem.F.slot_list_append PySem.F.type_list_append mt_append (pv 2) (by exact (pa_cons (pe_callB call_len_seq (by rfl) B.len PySem.boot_len (by exact (pa_cons (pv 7) pa_nil))) pa_nil))))
        (pss_one (ps_expr (pe_bm PySem.F.plainAttrs_list PySem.F.slot_list_extend PySem.F.type_list_extend mt_extend (pv 2) (pa_cons (pv 7) pa_nil))))))))
      (pss_one (ps_ret (pv 2)))))), ?_⟩
    obtain ⟨cs0, hcs0, hins, hans, hlong⟩ := asked_of hask
    -- Holder()
    intro h dh nh ndh neh
    refine ⟨h, dh, rfl, upd_same, fun H1 oa ms bt hol nms => ⟨rfl, ?_⟩⟩
    have hm : h ≠ ms := fun z => by
      rw [← z, upd_same] at nms
      cases nms
    have nms0 : H ms = none := by
      rw [upd_ne hm.symm] at nms
      by_cases z : ms = dh
      · rw [z]
        exact ndh
      · rwa [upd_ne z] at nms
    have s1 : Same H H1 := fun b u e => bt b u (ne_of_none e nh) (by rw [upd_ne (ne_of_none e nh), upd_ne (ne_of_none e ndh)]; exact e)
    have cal1 : CalAt K H1 a h ms (ns.map V.int) := by
      rcases sql_or hS with ⟨u, e, g⟩ | g
      · exact ⟨g _ (s1 _ _ e), .inl ⟨ne_of_none e nh, ne_of_none e nms0⟩⟩
      · exact ⟨g _, .inr g⟩
    refine ⟨Nat.zero_le _, fun f nf => ?_⟩
    have sf : Same H1 (upd H1 f (.lst [])) := same_new nf
    refine ⟨fun m σ H' => ∃ (at_ : Nat) (oa ms : Addr) (o : Si83.Order) (acc : List Int) (cs : List (List (List Int))) (fu : Nat) (v4 v5 v6 v7 : Option V), σ = [some (.ref a), some (.ref h), some (.ref f), some (VN at_), v4, v5, v6, v7] ∧ m = ns.length - at_ ∧
        CalAt K (hide H' f) a h ms (ns.map V.int) ∧ HolAt cM cO cH (hide H' f) h oa ms o ∧ OkO o ∧ H' f = some (.lst (VI acc)) ∧ PyFlat.calls PySi83.shape fu (ns.drop at_) = some cs ∧ (∀ c ∈ cs, PyInside.call PySi83.bound c = true) ∧
        acc ++ PyFlat.told (PyFlat.played Si83Neutral.step o (cs.map PySi83.whole)) = PySi83.answers ns,
      ⟨_, 0, oa, ms, Si83.init, [], cs0, _, none, none, none, none, rfl, rfl, ?_, ?_, ok_init, upd_same, hcs0, hins, hans.symm⟩, ?_⟩
    · rw [hide_upd nf]
      exact cal1
    · rw [hide_upd nf]
      exact hol
    · rintro m σ H' ⟨at_, oa, ms, o, acc, cs, fu, v4, v5, v6, v7, rfl, rfl, hcal, hol, ok, hf, hcs, hin, hout⟩
      refine ⟨_, rfl, _, rfl, a, _, rfl, .inl (Same.seq hide_le hcal.1), _, _, rfl, rfl, _, rfl, ?_⟩
      by_cases c : at_ < ns.length
      · refine ifT (decide_eq_true (by rw [List.length_map]; omega)) ?_
        obtain ⟨p, xs, ys, nx, cs', f', hrec, rfl, hcs'⟩ := calls_more hcs c
        have hnx := hrec.next
        obtain ⟨px, py, q, en, hq⟩ := enc_of hrec (hin _ List.mem_cons_self)
        have vx : VL (nats xs) = xs.map V.int := by
          unfold VL
          rw [nats_cast px]
        have vy : VL (nats ys) = ys.map V.int := by
          unfold VL
          rw [nats_cast py]
        refine ⟨fun σ' H'' => ∃ m', m' < ns.length - at_ ∧ ∃ (at_ : Nat) (oa ms : Addr) (o : Si83.Order) (acc : List Int) (cs : List (List (List Int))) (fu : Nat) (v4 v5 v6 v7 : Option V), σ' = [some (.ref a), some (.ref h), some (.ref f), some (VN at_), v4, v5, v6, v7] ∧ m' = ns.length - at_ ∧
            CalAt K (hide H'' f) a h ms (ns.map V.int) ∧ HolAt cM cO cH (hide H'' f) h oa ms o ∧ OkO o ∧ H'' f = some (.lst (VI acc)) ∧ PyFlat.calls PySi83.shape fu (ns.drop at_) = some cs ∧ (∀ c ∈ cs, PyInside.call PySi83.bound c = true) ∧
            acc ++ PyFlat.told (PyFlat.played Si83Neutral.step o (cs.map PySi83.whole)) = PySi83.answers ns, fun σ' H'' g => g, ?_⟩
        -- call_at
        refine ⟨_, rfl, _, rfl, f, VI acc, hf, a, at_, nx, ns, p, xs, ys, rfl, hcal.1, by omega, hrec, fun H2 t g f2 s2 ht hg hf2 hn2 => ?_⟩
        have hol2 := hol.same s2
        have ht2 : (upd H2 f (.lst (VI acc))) t = some (.tup [.int p, .ref g, .ref f2, VN nx]) := by
          rw [upd_ne (ne_of_none ht hn2)]
          exact ht
        refine ⟨t, _, rfl, .of ht2, rfl, _, _, rfl, _, _, rfl, _, _, rfl, _, _, rfl, rfl, ?_⟩
        -- answer
        refine ⟨_, rfl, _, rfl, _, rfl, _, rfl, f, VI acc, upd_same, ?_⟩
        rw [hide_upd hn2]
        refine ⟨h, oa, ms, g, f2, o, p, nats xs, nats ys, q, rfl, hol2, ok, en, by rw [vx]; exact hg, by rw [vy]; exact hf2, fun H3 oa' ms' pp b2 mso hol' hp hn3 => ?_⟩
        have ppf : pp ≠ f := ne_of_none hp hn3
        have hp3 : (upd H3 f (.lst (VI acc))) pp = some (.lst (VI ((Si83.step o q).2.v :: (Si83.step o q).2.l))) := by
          rw [upd_ne ppf]
          exact hp
        have hcq : Si83Neutral.callOf ((PySi83.whole (rawOf p xs ys)).headD []) = some q := hq
        rw [List.map_cons, played_cons hcq] at hout
        have lens := told_len hout hlong
        have la : (VI acc).length = acc.length := by
          unfold VI
          rw [List.length_map]
        have lo : (VI ((Si83.step o q).2.v :: (Si83.step o q).2.l)).length = ((Si83.step o q).2.v :: (Si83.step o q).2.l).length := by
          unfold VI
          rw [List.length_map]
        generalize ho : (Si83.step o q).2.v :: (Si83.step o q).2.l = out at *
        refine ⟨_, rfl, .inl ⟨rfl, _, .of upd_same⟩, _, rfl, pp, _, rfl, .inl (.of hp3), f, _, _, rfl, rfl, upd_same, szl (by omega), ?_⟩
        rw [upd_upd]
        refine ⟨_, rfl, .inl ⟨rfl, _, .of upd_same⟩, _, rfl, f, pp, _, _, rfl, rfl, upd_same, (by rw [upd_ne ppf]; exact hp), sz (by rw [List.length_append, la, lo]; show acc.length + 1 + out.length ≤ _; omega), ?_⟩
        rw [upd_upd]
        refine ⟨_, (by omega : ns.length - nx < ns.length - at_), nx, oa', ms', (Si83.step o q).1, acc ++ ((out.length : Int) :: out), cs', f', _, _, _, _, rfl, rfl, ?_, ?_, step_ok ok q, ?_, hcs', fun c hc => hin c (List.mem_cons_of_mem _ hc), ?_⟩
        · rw [hide_upd hn3]
          have cal2 : CalAt K H2 a h ms (ns.map V.int) := ⟨s2.seq hcal.1, hcal.2⟩
          rcases cal2.2 with ⟨n1, n2⟩ | g
          · rcases sql_or cal2.1 with ⟨u, e, g⟩ | g
            · refine ⟨g _ (b2 _ _ n1 n2 e), .inl ⟨n1, ?_⟩⟩
              rcases mso with z | z
              · rw [z]
                exact n2
              · exact ne_of_none e z
            · exact ⟨g _, .inr g⟩
          · exact ⟨g _, .inr g⟩
        · rw [hide_upd hn3]
          exact hol'
        · rw [upd_same, lo, VI_app]
          show some (HO.lst (VI acc ++ [V.int (out.length : Int)] ++ VI out)) = some (HO.lst (VI acc ++ (V.int (out.length : Int) :: VI out)))
          rw [List.append_assoc]
          rfl
        · rw [← hout, List.append_assoc]
      · refine ifF (decide_eq_false (by rw [List.length_map]; omega)) ?_
        have e := calls_end hcs (by omega)
        subst e
        have e2 : acc = PySi83.answers ns := by
          rw [← hout]
          exact (List.append_nil acc).symm
        rw [e2] at hf
        exact ⟨_, rfl, k H' f hf⟩
end
end Dn
namespace Dn
open PySem PySem.Spec PyProof.Rows L2
/-! ### what the top has left -/
section
variable {K : PySem.W.Frag} {h : Heap} {mg : Str → Option Value}
theorem def_mk {x : Str} {st : Stmt} {f : Addr} {oc : Value} {od an : Option Addr} {sl : Array (Option Value)} {kV dc pm cd ct : Value} (X : K.In h) (G : h.Ns mainGlobals mg) (a : PySem.W.nsIn K mainGlobals x = some (some (.ref f)))
    (l : K.lookup f = some ⟨oc, od, .func (PySem.W.fnOf x x (defArgs st) (defBody st) (defScope st) .none kV dc pm an cd ct), sl⟩) (c : PySem.W.codeIn K cd x = true) (k : PySem.W.keepIn K (.ref f) = true) :
    Nm K mg x f ∧ ∃ fd, Fun K x x st f fd := ⟨⟨PySem.W.mg_of X G a, k⟩, _, fun_mk l c k⟩
theorem meth_mk {x q : Str} {st : Stmt} {C f : Addr} {oc : Value} {od an : Option Addr} {sl : Array (Option Value)} {kV dc pm cd ct : Value} (a : PySem.W.findIn K (.ref C) x = some (some (.ref f))) (i : PySem.W.isFn K (.ref f) = true)
    (l : K.lookup f = some ⟨oc, od, .func (PySem.W.fnOf x q (defArgs st) (defBody st) (defScope st) .none kV dc pm an cd ct), sl⟩) (c : PySem.W.codeIn K cd q = true) (k : PySem.W.keepIn K (.ref f) = true) :
    Meth K C x f ∧ ∃ fd, Fun K x q st f fd := ⟨⟨a, i, k⟩, _, fun_mk l c k⟩
theorem cls_mk {x : Str} {C : Addr} (X : K.In h) (G : h.Ns mainGlobals mg) (a : PySem.W.nsIn K mainGlobals x = some (some (.ref C))) (pg : PySem.W.plainGet K C Str.empty = true) (hd : PySem.W.hasDictIn K C = true) (po : PySem.W.plainOver K C = true)
    (sa : PySem.W.findIn K (.ref C) "__setattr__" = some (some (.builtin "object.__setattr__"))) : mg x = some (.ref C) ∧ Cls K C := ⟨PySem.W.mg_of X G a, pg, hd, po, sa⟩
theorem ini_mk {q : Str} {st : Stmt} {C f : Addr} {oc : Value} {od an : Option Addr} {sl : Array (Option Value)} {kV dc pm cd ct : Value} (mk : PySem.W.makesIn K C = true) (a : PySem.W.findIn K (.ref C) "__init__" = some (some (.ref f))) (i : PySem.W.isFn K (.ref f) = true) (kc : PySem.W.keepIn K (.ref C) = true)
    (l : K.lookup f = some ⟨oc, od, .func (PySem.W.fnOf "__init__" q (defArgs st) (defBody st) (defScope st) .none kV dc pm an cd ct), sl⟩) (c : PySem.W.codeIn K cd q = true) (k : PySem.W.keepIn K (.ref f) = true) :
    Mk K C f ∧ ∃ fd, Fun K "__init__" q st f fd := ⟨⟨mk, a, i, kc⟩, _, fun_mk l c k⟩
theorem na_mk {C : Addr} {x : Str} (a : PySem.W.findIn K (.ref C) x = some none) : NoAttr K C x := a
theorem int_mk {x : Str} {n : Int} {tk : Tok} (X : K.In h) (G : h.Ns mainGlobals mg) (a : PySem.W.nsIn K mainGlobals x = some (some (.int n tk))) : ∃ tk, mg x = some (.int n tk) := ⟨tk, PySem.W.mg_of X G a⟩
theorem pure_mk {x : Str} {t : Addr} {od : Option Addr} {sl : Array (Option Value)} {n : Nat} {u1 u2 : Tok} (X : K.In h) (G : h.Ns mainGlobals mg) (a : PySem.W.nsIn K mainGlobals x = some (some (.ref t)))
    (l : K.lookup t = some ⟨.type "tuple", od, .seq #[.int 1 u1, .int 1 u2] n, sl⟩) : ∃ t, mg x = some (.ref t) ∧ ∀ H, SqT K H t [.int 1, .int 1] :=
  ⟨t, PySem.W.mg_of X G a, fun H => .inr ⟨_, _, _, l, rfl, rfl, (by show 2 ≤ sizeLine; decide), .cons ⟨_, rfl⟩ (.cons ⟨_, rfl⟩ .nil)⟩⟩
theorem whole_mk {x : Str} {t : Addr} {od : Option Addr} {sl : Array (Option Value)} {n : Nat} {u1 u2 u3 u4 u5 : Tok} (X : K.In h) (G : h.Ns mainGlobals mg) (a : PySem.W.nsIn K mainGlobals x = some (some (.ref t)))
    (l : K.lookup t = some ⟨.type "tuple", od, .seq #[.int 3 u1, .int 5 u2, .int 0 u3, .int 1 u4, .int 2 u5] n, sl⟩) : ∃ t, mg x = some (.ref t) ∧ ∀ H, SqT K H t [.int 3, .int 5, .int 0, .int 1, .int 2] :=
  ⟨t, PySem.W.mg_of X G a, fun H => .inr ⟨_, _, _, l, rfl, rfl, (by show 5 ≤ sizeLine; decide), .cons ⟨_, rfl⟩ (.cons ⟨_, rfl⟩ (.cons ⟨_, rfl⟩ (.cons ⟨_, rfl⟩ (.cons ⟨_, rfl⟩ .nil))))⟩⟩
/-- an error of the class at S is what «except S» names -/
theorem exm_same {S : Addr} (h1 : PySem.W.subIn K (.ref S) (.type "BaseException") = some true) (h2 : PySem.W.isClsIn K S = true) (h3 : PySem.W.typeIn K (.ref S) = some (.type "type")) (h4 : PySem.W.subIn K (.ref S) (.ref S) = some true) : PySem.W.exmOne K (.ref S) (.ref S) = some true := by
  have e1 : (PySem.W.subIn K (.ref S) (.type "BaseException") == some true) = true := by rw [h1] <;> rfl
  have e2 : ((PySem.W.clsIn K S).isSome && PySem.W.typeIn K (.ref S) == some (.type "type")) = true := by
    have h2' : (PySem.W.clsIn K S).isSome = true := h2
    rw [h2', h3] <;> rfl
  show (if (PySem.W.subIn K (.ref S) (.type "BaseException") == some true) = true then (if ((PySem.W.clsIn K S).isSome && PySem.W.typeIn K (.ref S) == some (.type "type")) = true then PySem.W.subIn K (.ref S) (.ref S) else none) else none) = some true
  rw [if_pos e1, if_pos e2]
  exact h4
theorem ref_mk {C f : Addr} {nm q : Str} {N : Addr} {bs : List Value} {sn : List Str} {sub : List Value} {ab : Bool} {col : Option Bool} {dd : Option Addr} {m0 m1 m2 m3 m5 : Option Value} {oc : Value} {od an : Option Addr} {sl : Array (Option Value)} {kV dc pm cd ct : Value}
    (X : K.In h) (G : h.Ns mainGlobals mg) (a : PySem.W.nsIn K mainGlobals "Refused" = some (some (.ref C)))
    (xL : K.lookup C = some (excClassObj nm q C N bs [.type "ValueError", .type "Exception", .type "BaseException", .type "object"] true sn sub ab col dd m0 m1 m2 m3 m5 "ValueError.__new__"))
    (sa : PySem.W.findIn K (.ref C) "__setattr__" = some (some (.builtin "object.__setattr__"))) (ga : PySem.W.findIn K (.ref C) "__getattribute__" = some (some (.builtin "BaseException.__getattribute__"))) (gg : PySem.W.findIn K (.ref C) "__getattr__" = some none) (nb : PySem.W.findIn K (.ref C) "number" = some none)
    (ia : PySem.W.findIn K (.ref C) "__init__" = some (some (.ref f))) (t1 : PySem.W.typeIn K (.ref f) = some (.type "function"))
    (l : K.lookup f = some ⟨oc, od, .func (PySem.W.fnOf "__init__" "Refused.__init__" (defArgs sRI) (defBody sRI) (defScope sRI) .none kV dc pm an cd ct), sl⟩) (c : PySem.W.codeIn K cd "Refused.__init__" = true) (k : PySem.W.keepIn K (.ref f) = true)
    (kC : PySem.W.keepIn K (.ref C) = true) (eC : PySem.W.subIn K (.ref C) (.type "BaseException") = some true) (tC : PySem.W.typeIn K (.ref C) = some (.type "type")) (hC : PySem.W.hasDictIn K C = true) (iC : PySem.W.isClsIn K C = true) (sC : PySem.W.subIn K (.ref C) (.ref C) = some true) :
    TR K mg C f ∧ ∃ fd, Fun K "__init__" "Refused.__init__" sRI f fd :=
  ⟨⟨⟨⟨nm, q, N, bs, _, sn, sub, ab, col, dd, m0, m1, m2, m3, m5, xL, by decide +kernel⟩, sa, eC, tC, kC⟩, ⟨ga, gg, eC, hC⟩, nb, ia, t1, PySem.W.mg_of X G a, exm_same eC iC tC sC⟩, _, fun_mk l c k⟩
end
theorem most_of {l : List Int} (h : PySem.W.Codec.inList 0 30000 (PySem.W.Codec.within (.int 0 4294967295)) l = true) : l.length ≤ 30000 := by
  unfold PySem.W.Codec.inList PySem.W.Codec.inLen PySem.W.Codec.inNat at h
  simp only [Bool.and_eq_true, decide_eq_true_eq] at h
  exact h.1.2
/-! ### all that the top has left, in one -/
theorem all_mk {P : Program} {w : World} {K : PySem.W.Frag} {mg : Str → Option Value} {fa cM iM cO iO cB iB cH iH cR iR fAmt fBnd fStr fHld fChg fMay fAll fIsB fMeet fDiv fLow fLess fNeed fBeg fMat fChk fTld fStg fNrs fAnd fAns fCat fMain : Addr}
    (Mc : mg "Material" = some (.ref cM) ∧ TM K cM) (Mi : Mk K cM iM ∧ ∃ fd, Fun K "__init__" "Material.__init__" sMI iM fd) (Oc : mg "Order" = some (.ref cO) ∧ TO K cO) (Oi : Mk K cO iO ∧ ∃ fd, Fun K "__init__" "Order.__init__" sOI iO fd) (hAmt : Meth K cO "amount" fAmt ∧ ∃ fd, Fun K "amount" "Order.amount" sAmt fAmt fd) (hBnd : Meth K cO "bound_of" fBnd ∧ ∃ fd, Fun K "bound_of" "Order.bound_of" sBnd fBnd fd) (hStr : Meth K cO "strength" fStr ∧ ∃ fd, Fun K "strength" "Order.strength" sStr fStr fd) (hHld : Meth K cO "holding" fHld ∧ ∃ fd, Fun K "holding" "Order.holding" sHld fHld fd) (hChg : Meth K cO "changed" fChg ∧ ∃ fd, Fun K "changed" "Order.changed" sChg fChg fd) (hMay : Meth K cO "may_be" fMay ∧ ∃ fd, Fun K "may_be" "Order.may_be" sMay fMay fd) (hAll : Meth K cO "all_formulas" fAll ∧ ∃ fd, Fun K "all_formulas" "Order.all_formulas" sAll fAll fd) (Bc : mg "Best" = some (.ref cB) ∧ TB K cB) (Bi : Mk K cB iB ∧ ∃ fd, Fun K "__init__" "Best.__init__" sBI iB fd) (hIsB : Meth K cB "is_better" fIsB ∧ ∃ fd, Fun K "is_better" "Best.is_better" sIsB fIsB fd) (hMeet : Meth K cB "meet" fMeet ∧ ∃ fd, Fun K "meet" "Best.meet" sMeet fMeet fd) (Hc : mg "Holder" = some (.ref cH) ∧ TH K cH) (Hi : Mk K cH iH ∧ ∃ fd, Fun K "__init__" "Holder.__init__" sHI iH fd) (Rc : TR K mg cR iR ∧ ∃ fd, Fun K "__init__" "Refused.__init__" sRI iR fd) (hDiv : Nm K mg "divisor" fDiv ∧ ∃ fd, Fun K "divisor" "divisor" sDiv fDiv fd) (hLow : Nm K mg "lowest" fLow ∧ ∃ fd, Fun K "lowest" "lowest" sLow fLow fd) (hLess : Nm K mg "is_less" fLess ∧ ∃ fd, Fun K "is_less" "is_less" sLess fLess fd) (hNeed : Nm K mg "need" fNeed ∧ ∃ fd, Fun K "need" "need" sNeed fNeed fd) (hBeg : Nm K mg "begins" fBeg ∧ ∃ fd, Fun K "begins" "begins" sBeg fBeg fd) (hMat : Nm K mg "material" fMat ∧ ∃ fd, Fun K "material" "material" sMat fMat fd) (hChk : Nm K mg "check" fChk ∧ ∃ fd, Fun K "check" "check" sChk fChk fd) (hTld : Nm K mg "told" fTld ∧ ∃ fd, Fun K "told" "told" sTld fTld fd) (hStg : Nm K mg "strongest" fStg ∧ ∃ fd, Fun K "strongest" "strongest" sStg fStg fd) (hNrs : Nm K mg "nearest" fNrs ∧ ∃ fd, Fun K "nearest" "nearest" sNrs fNrs fd) (hAnd : Nm K mg "answered" fAnd ∧ ∃ fd, Fun K "answered" "answered" sAnd fAnd fd) (hAns : Nm K mg "answer" fAns ∧ ∃ fd, Fun K "answer" "answer" sAns fAns fd) (hCat : Nm K mg "call_at" fCat ∧ ∃ fd, Fun K "call_at" "call_at" sCat fCat fd) (hMain : Nm K mg "answers" fMain ∧ ∃ fd, Fun K "answers" "answers" sAll2 fMain fd) (B : Bt mg) (C : Cons K mg) (Cm : Cn mg) (Cq : Co K mg) (hmg : mg "answers" = some (.ref fa)) :
    ∃ fd : FuncData, (∀ (s : Shared) (us : List Value), us.length = (["calls"] : List Str).length → BindsTo s fd ⟨us, []⟩ ((["calls"] : List Str).zip us)) ∧ ∀ base : Heap, K.In base → base.Ns mainGlobals mg → FnOk P w K mg base CX0 9 fa fd ["calls"] (spMain K) := by
  obtain ⟨fdMain, FMain⟩ := hMain.2
  have ef : some (Value.ref fa) = some (Value.ref fMain) := hmg.symm.trans hMain.1.g
  cases ef
  refine ⟨fdMain, ?_, fun base _ _ => ?_⟩
  · obtain ⟨oc, od, kV, doc, pm, an, cdv, ct, osl, rfl, lk, hcd⟩ := FMain.ex
    exact fun s us hu => match us, hu with | [_], _ => .of_eq rfl
  · have GDiv : Ok P w K mg base CX0 1 fDiv ["one", "other"] spDiv := ok_div hDiv.2
    have GLow : Ok P w K mg base CX0 2 fLow ["top", "bottom"] spLow := ok_low hLow.2 hDiv.1 GDiv
    have GLess : Ok P w K mg base CX0 1 fLess ["one", "other"] (spLess K) := ok_less hLess.2
    have GMI : Ok P w K mg base CX0 1 iM ["self", "parts", "wanted", "most"] (spMI cM) := ok_MI Mi.2 Mc.2
    have GOI : Ok P w K mg base CX0 1 iO ["self", "bounds"] (spOI cO) := ok_OI Oi.2 Oc.2
    have GBI : Ok P w K mg base CX0 1 iB ["self", "by_strength"] (spBI cB) := ok_BI Bi.2 Bc.2
    have GAmt : Ok P w K mg base CX0 1 fAmt ["self", "formula", "substance"] (spAmt K cM cO) := ok_amt hAmt.2 Mc.2 Oc.2 B
    have GBnd : Ok P w K mg base CX0 3 fBnd ["self", "formula", "substance"] (spBnd K cM cO) := ok_bnd hBnd.2 Oc.2 B hLow.1 GLow hAmt.1 GAmt
    have GStr : Ok P w K mg base CX0 4 fStr ["self", "formula"] (spStr K cM cO) := ok_str hStr.2 Oc.2 B C hLess.1 GLess hAmt.1 GAmt hBnd.1 GBnd
    have GHld : Ok P w K mg base CX0 5 fHld ["self", "formula"] (spHld K cM cO) := ok_hld hHld.2 Oc.2 B C hAmt.1 GAmt hBnd.1 GBnd hStr.1 GStr
    have GChg : Ok P w K mg base CX0 1 fChg ["self", "formula"] (spChg K cM cO) := ok_chg hChg.2 Mc.2 Oc.2 B
    have GMay : Ok P w K mg base CX0 1 fMay ["self", "formula"] (spMay K cM cO) := ok_may hMay.2 Mc.2 Oc.2 B
    have GAll : Ok P w K mg base CX0 1 fAll ["self"] (spAll K cM cO) := ok_all hAll.2 Mc.2 Oc.2 B
    have GIsB : Ok P w K mg base CX0 2 fIsB ["self", "strength", "changed"] (spIsB K cB) := ok_isb hIsB.2 Bc.2 hLess.1 GLess
    have GMeet : Ok P w K mg base CX0 3 fMeet ["self", "strength", "changed", "formula"] (spMeet K cB) := ok_meet hMeet.2 Bc.2 B hIsB.1 GIsB
    have GRI : Ok P w K mg base CX0 1 iR ["self", "number"] (spRI K cR) := ok_RI Rc.2 Rc.1
    have GNeed : Ok P w K mg base (L2.CX P w) 3 fNeed ["fulfilled", "number"] (spNeed cR) := ok_need hNeed.2 Rc.1 GRI
    have GTld : Ok P w K mg base (L2.CX P w) 4 fTld ["best"] (spTld K cB cR) := ok_tld hTld.2 Bc.2 B hNeed.1 GNeed
    have GHI : Ok P w K mg base CX0 3 iH ["self"] (spHI cM cO cH) := ok_HI Hi.2 Hc.2 Cm Oc.1 Oi.1 GOI
    have GBeg : Ok P w K mg base (L2.CX P w) 4 fBeg ["holder", "bounds"] (spBeg cM cO cH cR) := ok_beg hBeg.2 Hc.2 Cm B Oc.1 Oi.1 GOI hNeed.1 GNeed
    have GMat : Ok P w K mg base (L2.CX P w) 4 fMat ["holder", "given"] (spMat cM cO cH cR) := ok_mat hMat.2 Hc.2 Oc.2 Cm B Mc.1 Mi.1 GMI hNeed.1 GNeed
    have GChk : Ok P w K mg base (L2.CX P w) 6 fChk ["holder", "formula"] (spChk cM cO cH cR) := ok_chk hChk.2 Hc.2 Oc.2 B hNeed.1 GNeed hMay.1 GMay hStr.1 GStr hChg.1 GChg hHld.1 GHld
    have GStg : Ok P w K mg base (L2.CX P w) 5 fStg ["holder", "drops"] (spStg cM cO cH cR) := ok_stg hStg.2 Hc.2 Oc.2 Bc.2 Bc.1 Bi.1 GBI hAll.1 GAll hChg.1 GChg hStr.1 GStr hMeet.1 GMeet hTld.1 GTld
    have GNrs : Ok P w K mg base (L2.CX P w) 5 fNrs ["holder", "p", "q"] (spNrs cM cO cH cR) := ok_nrs hNrs.2 Hc.2 Oc.2 Bc.2 Cm Bc.1 Bi.1 GBI hAll.1 GAll hChg.1 GChg hStr.1 GStr hMeet.1 GMeet hTld.1 GTld hNeed.1 GNeed hLess.1 GLess
    have GAnd : Ok P w K mg base (L2.CX P w) 7 fAnd ["holder", "call", "given", "formula"] (spAnd cM cO cH cR) := ok_and hAnd.2 Cq hBeg.1 GBeg hMat.1 GMat hChk.1 GChk hStg.1 GStg hNrs.1 GNrs
    have GAns : Ok P w K mg base CX0 8 fAns ["holder", "call", "given", "formula"] (spAns cM cO cH) := ok_ans hAns.2 Rc.1 hAnd.1 GAnd
    have GCat : Ok P w K mg base CX0 1 fCat ["calls", "at"] (spCat K) := ok_cat hCat.2 Cq
    exact ok_main FMain B Hc.1 Hi.1 GHI hCat.1 GCat hAns.1 GAns
end Dn

open PySem PySem.W PyProof.Rows
set_option maxRecDepth 100000 in
set_option maxHeartbeats 0 in
theorem PySem.Challenge.cw_drawnoils_s01_answers_holds : PySem.Challenge.rw_drawnoils_s01_answers.Holds := by
  w_on; k_headS; (case hw => exact ⟨[.list [.int 3, .int 0]], by decide +kernel, by decide +kernel⟩)
  k_fillS
  refine L2.walk_specK (r := PySem.Challenge.rw_drawnoils_s01_answers) (k := 9) (CX := L2.CX0) (ps := ["calls"]) (sp := Dn.spMain) (by decide +kernel) rfl rfl ⟨rfl, by decide, by decide⟩ (fun w h Y => PySem.W.kIn_of Y) ?F ?S (fun _ _ _ _ z => z)
  case F =>
    intro w mg fa h Y KX G hmg
    refine' Dn.all_mk
      ((let z := Dn.cls_mk (x := "Material") KX G ?k1 ?k2 ?k3 ?k4 ?k5; ⟨z.1, z.2, Dn.na_mk ?k6, Dn.na_mk ?k7, Dn.na_mk ?k8⟩))
      (Dn.ini_mk (q := "Material.__init__") (st := Dn.sMI) ?k9 ?k10 ?k11 ?k12 ?k13 ?k14 ?k15)
      ((let z := Dn.cls_mk (x := "Order") KX G ?k16 ?k17 ?k18 ?k19 ?k20; ⟨z.1, z.2, Dn.na_mk ?k21, Dn.na_mk ?k22⟩))
      (Dn.ini_mk (q := "Order.__init__") (st := Dn.sOI) ?k23 ?k24 ?k25 ?k26 ?k27 ?k28 ?k29)
      (Dn.meth_mk (x := "amount") (q := "Order.amount") (st := Dn.sAmt) ?k30 ?k31 ?k32 ?k33 ?k34)
      (Dn.meth_mk (x := "bound_of") (q := "Order.bound_of") (st := Dn.sBnd) ?k35 ?k36 ?k37 ?k38 ?k39)
      (Dn.meth_mk (x := "strength") (q := "Order.strength") (st := Dn.sStr) ?k40 ?k41 ?k42 ?k43 ?k44)
      (Dn.meth_mk (x := "holding") (q := "Order.holding") (st := Dn.sHld) ?k45 ?k46 ?k47 ?k48 ?k49)
      (Dn.meth_mk (x := "changed") (q := "Order.changed") (st := Dn.sChg) ?k50 ?k51 ?k52 ?k53 ?k54)
      (Dn.meth_mk (x := "may_be") (q := "Order.may_be") (st := Dn.sMay) ?k55 ?k56 ?k57 ?k58 ?k59)
      (Dn.meth_mk (x := "all_formulas") (q := "Order.all_formulas") (st := Dn.sAll) ?k60 ?k61 ?k62 ?k63 ?k64)
      ((let z := Dn.cls_mk (x := "Best") KX G ?k65 ?k66 ?k67 ?k68 ?k69; ⟨z.1, z.2, Dn.na_mk ?k70, Dn.na_mk ?k71, Dn.na_mk ?k72, Dn.na_mk ?k73, Dn.na_mk ?k74⟩))
      (Dn.ini_mk (q := "Best.__init__") (st := Dn.sBI) ?k75 ?k76 ?k77 ?k78 ?k79 ?k80 ?k81)
      (Dn.meth_mk (x := "is_better") (q := "Best.is_better") (st := Dn.sIsB) ?k82 ?k83 ?k84 ?k85 ?k86)
      (Dn.meth_mk (x := "meet") (q := "Best.meet") (st := Dn.sMeet) ?k87 ?k88 ?k89 ?k90 ?k91)
      ((let z := Dn.cls_mk (x := "Holder") KX G ?k92 ?k93 ?k94 ?k95 ?k96; ⟨z.1, z.2, Dn.na_mk ?k97⟩))
      (Dn.ini_mk (q := "Holder.__init__") (st := Dn.sHI) ?k98 ?k99 ?k100 ?k101 ?k102 ?k103 ?k104)
      (Dn.ref_mk KX G ?k105 ?k106 ?k107 ?k108 ?k109 ?k110 ?k111 ?k112 ?k113 ?k114 ?k115 ?k116 ?k117 ?k118 ?k119 ?k120 ?k121)
      (Dn.def_mk (x := "divisor") (st := Dn.sDiv) KX G ?k122 ?k123 ?k124 ?k125)
      (Dn.def_mk (x := "lowest") (st := Dn.sLow) KX G ?k126 ?k127 ?k128 ?k129)
      (Dn.def_mk (x := "is_less") (st := Dn.sLess) KX G ?k130 ?k131 ?k132 ?k133)
      (Dn.def_mk (x := "need") (st := Dn.sNeed) KX G ?k134 ?k135 ?k136 ?k137)
      (Dn.def_mk (x := "begins") (st := Dn.sBeg) KX G ?k138 ?k139 ?k140 ?k141)
      (Dn.def_mk (x := "material") (st := Dn.sMat) KX G ?k142 ?k143 ?k144 ?k145)
      (Dn.def_mk (x := "check") (st := Dn.sChk) KX G ?k146 ?k147 ?k148 ?k149)
      (Dn.def_mk (x := "told") (st := Dn.sTld) KX G ?k150 ?k151 ?k152 ?k153)
      (Dn.def_mk (x := "strongest") (st := Dn.sStg) KX G ?k154 ?k155 ?k156 ?k157)
      (Dn.def_mk (x := "nearest") (st := Dn.sNrs) KX G ?k158 ?k159 ?k160 ?k161)
      (Dn.def_mk (x := "answered") (st := Dn.sAnd) KX G ?k162 ?k163 ?k164 ?k165)
      (Dn.def_mk (x := "answer") (st := Dn.sAns) KX G ?k166 ?k167 ?k168 ?k169)
      (Dn.def_mk (x := "call_at") (st := Dn.sCat) KX G ?k170 ?k171 ?k172 ?k173)
      (Dn.def_mk (x := "answers") (st := Dn.sAll2) KX G ?k174 ?k175 ?k176 ?k177)
      (⟨PySem.W.mg_none_of KX G ?k178, PySem.W.mg_none_of KX G ?k179, PySem.W.mg_none_of KX G ?k180, PySem.W.mg_none_of KX G ?k181, PySem.W.mg_none_of KX G ?k182, PySem.W.mg_none_of KX G ?k183, PySem.W.mg_none_of KX G ?k184, PySem.W.mg_none_of KX G ?k185⟩)
      (⟨Dn.pure_mk KX G ?k186 ?k187, Dn.int_mk KX G ?k188⟩)
      (⟨Dn.int_mk KX G ?k189, Dn.int_mk KX G ?k190, Dn.int_mk KX G ?k191, Dn.int_mk KX G ?k192, Dn.int_mk KX G ?k193⟩)
      (⟨Dn.whole_mk KX G ?k194 ?k195, Dn.int_mk KX G ?k196⟩)
      hmg
    (case k1 => k_is)
    (case k2 => k_is)
    (case k3 => k_is)
    (case k4 => k_is)
    (case k5 => k_is)
    (case k6 => k_is)
    (case k7 => k_is)
    (case k8 => k_is)
    (case k9 => k_is)
    (case k10 => k_is)
    (case k11 => k_is)
    (case k12 => k_is)
    (case k13 => k_is)
    (case k14 => k_is)
    (case k15 => k_is)
    (case k16 => k_is)
    (case k17 => k_is)
    (case k18 => k_is)
    (case k19 => k_is)
    (case k20 => k_is)
    (case k21 => k_is)
    (case k22 => k_is)
    (case k23 => k_is)
    (case k24 => k_is)
    (case k25 => k_is)
    (case k26 => k_is)
    (case k27 => k_is)
    (case k28 => k_is)
    (case k29 => k_is)
    (case k30 => k_is)
    (case k31 => k_is)
    (case k32 => k_is)
    (case k33 => k_is)
    (case k34 => k_is)
    (case k35 => k_is)
    (case k36 => k_is)
    (case k37 => k_is)
    (case k38 => k_is)
    (case k39 => k_is)
    (case k40 => k_is)
    (case k41 => k_is)
    (case k42 => k_is)
    (case k43 => k_is)
    (case k44 => k_is)
    (case k45 => k_is)
    (case k46 => k_is)
    (case k47 => k_is)
    (case k48 => k_is)
    (case k49 => k_is)
    (case k50 => k_is)
    (case k51 => k_is)
    (case k52 => k_is)
    (case k53 => k_is)
    (case k54 => k_is)
    (case k55 => k_is)
    (case k56 => k_is)
    (case k57 => k_is)
    (case k58 => k_is)
    (case k59 => k_is)
    (case k60 => k_is)
    (case k61 => k_is)
    (case k62 => k_is)
    (case k63 => k_is)
    (case k64 => k_is)
    (case k65 => k_is)
    (case k66 => k_is)
    (case k67 => k_is)
    (case k68 => k_is)
    (case k69 => k_is)
    (case k70 => k_is)
    (case k71 => k_is)
    (case k72 => k_is)
    (case k73 => k_is)
    (case k74 => k_is)
    (case k75 => k_is)
    (case k76 => k_is)
    (case k77 => k_is)
    (case k78 => k_is)
    (case k79 => k_is)
    (case k80 => k_is)
    (case k81 => k_is)
    (case k82 => k_is)
    (case k83 => k_is)
    (case k84 => k_is)
    (case k85 => k_is)
    (case k86 => k_is)
    (case k87 => k_is)
    (case k88 => k_is)
    (case k89 => k_is)
    (case k90 => k_is)
    (case k91 => k_is)
    (case k92 => k_is)
    (case k93 => k_is)
    (case k94 => k_is)
    (case k95 => k_is)
    (case k96 => k_is)
    (case k97 => k_is)
    (case k98 => k_is)
    (case k99 => k_is)
    (case k100 => k_is)
    (case k101 => k_is)
    (case k102 => k_is)
    (case k103 => k_is)
    (case k104 => k_is)
    (case k105 => k_is)
    (case k106 => k_is)
    (case k107 => k_is)
    (case k108 => k_is)
    (case k109 => k_is)
    (case k110 => k_is)
    (case k111 => k_is)
    (case k112 => k_is)
    (case k113 => k_is)
    (case k114 => k_is)
    (case k115 => k_is)
    (case k116 => k_is)
    (case k117 => k_is)
    (case k118 => k_is)
    (case k119 => k_is)
    (case k120 => k_is)
    (case k121 => first | rfl | k_is)
    (case k122 => k_is)
    (case k123 => k_is)
    (case k124 => k_is)
    (case k125 => k_is)
    (case k126 => k_is)
    (case k127 => k_is)
    (case k128 => k_is)
    (case k129 => k_is)
    (case k130 => k_is)
    (case k131 => k_is)
    (case k132 => k_is)
    (case k133 => k_is)
    (case k134 => k_is)
    (case k135 => k_is)
    (case k136 => k_is)
    (case k137 => k_is)
    (case k138 => k_is)
    (case k139 => k_is)
    (case k140 => k_is)
    (case k141 => k_is)
    (case k142 => k_is)
    (case k143 => k_is)
    (case k144 => k_is)
    (case k145 => k_is)
    (case k146 => k_is)
    (case k147 => k_is)
    (case k148 => k_is)
    (case k149 => k_is)
    (case k150 => k_is)
    (case k151 => k_is)
    (case k152 => k_is)
    (case k153 => k_is)
    (case k154 => k_is)
    (case k155 => k_is)
    (case k156 => k_is)
    (case k157 => k_is)
    (case k158 => k_is)
    (case k159 => k_is)
    (case k160 => k_is)
    (case k161 => k_is)
    (case k162 => k_is)
    (case k163 => k_is)
    (case k164 => k_is)
    (case k165 => k_is)
    (case k166 => k_is)
    (case k167 => k_is)
    (case k168 => k_is)
    (case k169 => k_is)
    (case k170 => k_is)
    (case k171 => k_is)
    (case k172 => k_is)
    (case k173 => k_is)
    (case k174 => k_is)
    (case k175 => k_is)
    (case k176 => k_is)
    (case k177 => k_is)
    (case k178 => k_is)
    (case k179 => k_is)
    (case k180 => k_is)
    (case k181 => k_is)
    (case k182 => k_is)
    (case k183 => k_is)
    (case k184 => k_is)
    (case k185 => k_is)
    (case k186 => k_is)
    (case k187 => k_is)
    (case k188 => k_is)
    (case k189 => k_is)
    (case k190 => k_is)
    (case k191 => k_is)
    (case k192 => k_is)
    (case k193 => k_is)
    (case k194 => k_is)
    (case k195 => k_is)
    (case k196 => k_is)
  case S =>
    intro K H xs a hO hwi hask hx
    cases hx with
    | cons h1 h2 =>
      cases h2
      cases h1 with
      | lst hs ha =>
        have e := L2.ints_dw a.1 _ ha
        subst e
        refine ⟨_, a.1, rfl, hs, hask, Dn.most_of (Bool.and_eq_true_iff.mp (show (PySem.W.Codec.inList 0 30000 (PySem.W.Codec.within (.int 0 4294967295)) a.1 && true) = true from hwi)).1, fun H' p hp => .lst (L2.SqL.of hp) (L2.dw_ints _)⟩
#print axioms PySem.Challenge.cw_drawnoils_s01_answers_holds
