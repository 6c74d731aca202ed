import PyProof.Rows.All
import Wide.All
import OpenK.AllK
import Wide.FinOn
import PyProof.EqAt
import PyProof.EqKinds
import PyProof.TupleCall
import Open.SpecLaws
import KE.OsGo
import HandS.ForSpec
import HandS.Comp
import HandS.Dict
import HandS.Iter
import HandS.Zip
import HandS.Rev
import HandS.NoneIn
import HandS.More
import HandS.SortInts
import HandS.SetFor
import HandS.WordsDict
import HandS.Walk
import PySem.Challenge.RW_textbranches_s01_answers
set_option Elab.async false
set_option linter.all false
set_option maxRecDepth 100000
set_option maxHeartbeats 4000000
namespace Wb
open Hist (Doc Step)

def lcs : Doc → Doc → Nat
  | [], _ => 0
  | _ :: _, [] => 0
  | x :: a, y :: b => if x = y then lcs a b + 1 else max (lcs a (y :: b)) (lcs (x :: a) b)
termination_by a b => a.length + b.length
decreasing_by all_goals (simp only [List.length_cons]; omega)

theorem lcs_nil (b : Doc) : lcs [] b = 0 := by rw [lcs]
theorem lcs_nil2 (a : Doc) : lcs a [] = 0 := by cases a <;> rw [lcs]
theorem lcs_cons (x y : List Nat) (a b : Doc) : lcs (x :: a) (y :: b) = if x = y then lcs a b + 1 else max (lcs a (y :: b)) (lcs (x :: a) b) := by rw [lcs]

def rowL (a b : Doc) : List Nat := match b with
  | [] => [lcs a []]
  | y :: b => lcs a (y :: b) :: rowL a b
theorem rowL_nil (a : Doc) : rowL a [] = [0] := by unfold rowL; rw [lcs_nil2]
theorem rowL_cons (a : Doc) (y : List Nat) (b : Doc) : rowL a (y :: b) = lcs a (y :: b) :: rowL a b := by rw [rowL]
theorem rowL_head (a b : Doc) : (rowL a b).headD 0 = lcs a b := by
  cases b with
  | nil => rfl
  | cons y b => rfl
theorem rowL_empty : ∀ b : Doc, rowL [] b = List.replicate (b.length + 1) 0
  | [] => rowL_nil []
  | y :: b => by
    rw [rowL_cons, rowL_empty b, lcs_nil]
    rfl
theorem rowFor_eq (x : List Nat) (a : Doc) : ∀ b : Doc, Hist.rowFor x b (rowL a b) = rowL (x :: a) b
  | [] => by rw [rowL_nil, rowL_nil]; rfl
  | y :: b => by
    have ih := rowFor_eq x a b
    rw [rowL_cons, rowL_cons]
    unfold Hist.rowFor
    dsimp only
    rw [List.tail_cons, ih, rowL_head, List.headD_cons, rowL_head, lcs_cons]

def tabL : Doc → Doc → List (List Nat)
  | [], b => [rowL [] b]
  | x :: a, b => rowL (x :: a) b :: tabL a b
theorem tabL_head (a b : Doc) : (tabL a b).headD [] = rowL a b := by cases a <;> rfl
theorem table_eq : ∀ a b : Doc, Hist.table a b = tabL a b
  | [], b => by
    unfold Hist.table tabL
    rw [rowL_empty]
  | x :: a, b => by
    unfold Hist.table tabL
    dsimp only
    rw [table_eq a b, tabL_head, rowFor_eq]
theorem tabL_tail (a : Doc) (y : List Nat) : ∀ b : Doc, (tabL a (y :: b)).map List.tail = tabL a b := by
  intro b
  induction a with
  | nil => rfl
  | cons x a ih =>
    unfold tabL
    rw [List.map_cons, ih]
    rfl

def wayF : Nat → Doc → Doc → List Step
  | 0, _, _ => []
  | f + 1, a, b => match a, b with
    | [], [] => []
    | [], y :: r => .add y :: wayF f [] r
    | _ :: r, [] => .drop :: wayF f r []
    | x :: r, y :: s => if x = y then .keep :: wayF f r s else if lcs (x :: r) s ≤ lcs r (y :: s) then .drop :: wayF f r (y :: s) else .add y :: wayF f (x :: r) s
theorem wayBy_eq : ∀ (f : Nat) (a b : Doc), Hist.wayBy f a b (tabL a b) = wayF f a b
  | 0, _, _ => rfl
  | f + 1, [], [] => rfl
  | f + 1, [], y :: r => by
    show Step.add y :: Hist.wayBy f [] r ((tabL [] (y :: r)).map List.tail) = _
    rw [tabL_tail, wayBy_eq f]
    rfl
  | f + 1, x :: r, [] => by
    show Step.drop :: Hist.wayBy f r [] (tabL r []) = _
    rw [wayBy_eq f]
    rfl
  | f + 1, x :: r, y :: s => by
    show (if x = y then Step.keep :: Hist.wayBy f r s ((tabL r (y :: s)).map List.tail) else if (rowL (x :: r) s).headD 0 ≤ ((tabL r (y :: s)).headD []).headD 0 then .drop :: Hist.wayBy f r (y :: s) (tabL r (y :: s)) else .add y :: Hist.wayBy f (x :: r) s ((tabL (x :: r) (y :: s)).map List.tail)) = _
    rw [tabL_tail, tabL_tail, rowL_head, tabL_head, rowL_head, wayBy_eq f, wayBy_eq f, wayBy_eq f]
    rfl
theorem wayF_fuel : ∀ (f g : Nat) (a b : Doc), a.length + b.length < f → a.length + b.length < g → wayF f a b = wayF g a b
  | 0, _, _, _, h, _ => absurd h (Nat.not_lt_zero _)
  | _ + 1, 0, _, _, _, h => absurd h (Nat.not_lt_zero _)
  | f + 1, g + 1, [], [], _, _ => rfl
  | f + 1, g + 1, [], y :: r, h1, h2 => by
    simp only [List.length_cons] at h1 h2
    show Step.add y :: wayF f [] r = .add y :: wayF g [] r
    rw [wayF_fuel f g [] r (by omega) (by omega)]
  | f + 1, g + 1, x :: r, [], h1, h2 => by
    simp only [List.length_cons] at h1 h2
    show Step.drop :: wayF f r [] = .drop :: wayF g r []
    rw [wayF_fuel f g r [] (by omega) (by omega)]
  | f + 1, g + 1, x :: r, y :: s, h1, h2 => by
    simp only [List.length_cons] at h1 h2
    show (if x = y then Step.keep :: wayF f r s else if lcs (x :: r) s ≤ lcs r (y :: s) then .drop :: wayF f r (y :: s) else .add y :: wayF f (x :: r) s) = (if x = y then Step.keep :: wayF g r s else if lcs (x :: r) s ≤ lcs r (y :: s) then .drop :: wayF g r (y :: s) else .add y :: wayF g (x :: r) s)
    rw [wayF_fuel f g r s (by omega) (by omega), wayF_fuel f g r (y :: s) (by simp only [List.length_cons]; omega) (by simp only [List.length_cons]; omega), wayF_fuel f g (x :: r) s (by simp only [List.length_cons]; omega) (by simp only [List.length_cons]; omega)]
theorem way_F (a b : Doc) (f : Nat) (h : a.length + b.length < f) : Hist.way a b = wayF f a b := by
  unfold Hist.way
  rw [table_eq, wayBy_eq]
  exact wayF_fuel _ _ a b (Nat.lt_succ_self _) h
theorem way_nil : Hist.way [] [] = [] := rfl
theorem way_add (y : List Nat) (r : Doc) : Hist.way [] (y :: r) = .add y :: Hist.way [] r := by
  rw [way_F [] (y :: r) (r.length + 2) (by simp only [List.length_cons, List.length_nil]; omega), way_F [] r (r.length + 1) (by simp only [List.length_nil]; omega)]
  rfl
theorem way_drop (x : List Nat) (r : Doc) : Hist.way (x :: r) [] = .drop :: Hist.way r [] := by
  rw [way_F (x :: r) [] (r.length + 2) (by simp only [List.length_cons, List.length_nil]; omega), way_F r [] (r.length + 1) (by simp only [List.length_nil]; omega)]
  rfl
theorem way_cons (x y : List Nat) (r s : Doc) : Hist.way (x :: r) (y :: s) = if x = y then .keep :: Hist.way r s else if lcs (x :: r) s ≤ lcs r (y :: s) then .drop :: Hist.way r (y :: s) else .add y :: Hist.way (x :: r) s := by
  rw [way_F (x :: r) (y :: s) (r.length + s.length + 4) (by simp only [List.length_cons]; omega), way_F r s (r.length + s.length + 3) (by omega), way_F r (y :: s) (r.length + s.length + 3) (by simp only [List.length_cons]; omega), way_F (x :: r) s (r.length + s.length + 3) (by simp only [List.length_cons]; omega)]
  rfl
theorem way_ind {P : Doc → Doc → List Step → Prop} (h0 : P [] [] []) (ha : ∀ y r w, P [] r w → P [] (y :: r) (.add y :: w)) (hd : ∀ x r w, P r [] w → P (x :: r) [] (.drop :: w))
    (hk : ∀ x r s w, P r s w → P (x :: r) (x :: s) (.keep :: w)) (hd2 : ∀ x y r s w, x ≠ y → P r (y :: s) w → P (x :: r) (y :: s) (.drop :: w)) (ha2 : ∀ x y r s w, x ≠ y → P (x :: r) s w → P (x :: r) (y :: s) (.add y :: w)) :
    ∀ (n : Nat) (a b : Doc), a.length + b.length ≤ n → P a b (Hist.way a b)
  | _, [], [], _ => h0
  | 0, _ :: _, _, h => absurd h (by simp only [List.length_cons]; omega)
  | 0, [], _ :: _, h => absurd h (by simp only [List.length_cons]; omega)
  | n + 1, [], y :: r, h => by
    rw [way_add]
    exact ha y r _ (way_ind h0 ha hd hk hd2 ha2 n [] r (by simp only [List.length_cons, List.length_nil] at h ⊢; omega))
  | n + 1, x :: r, [], h => by
    rw [way_drop]
    exact hd x r _ (way_ind h0 ha hd hk hd2 ha2 n r [] (by simp only [List.length_cons, List.length_nil] at h ⊢; omega))
  | n + 1, x :: r, y :: s, h => by
    simp only [List.length_cons] at h
    rw [way_cons]
    by_cases e : x = y
    · rw [if_pos e, ← e]
      exact hk x r s _ (way_ind h0 ha hd hk hd2 ha2 n r s (by omega))
    · rw [if_neg e]
      by_cases c : lcs (x :: r) s ≤ lcs r (y :: s)
      · rw [if_pos c]
        exact hd2 x y r s _ e (way_ind h0 ha hd hk hd2 ha2 n r (y :: s) (by simp only [List.length_cons]; omega))
      · rw [if_neg c]
        exact ha2 x y r s _ e (way_ind h0 ha hd hk hd2 ha2 n (x :: r) s (by simp only [List.length_cons]; omega))

def cntA (w : List Step) : Nat := (w.filter fun s => match s with | .add _ => false | _ => true).length
def cntB (w : List Step) : Nat := (w.filter fun s => match s with | .drop => false | _ => true).length
theorem cntA_nil : cntA [] = 0 := rfl
theorem cntB_nil : cntB [] = 0 := rfl
theorem cntA_keep (w : List Step) : cntA (.keep :: w) = cntA w + 1 := rfl
theorem cntA_drop (w : List Step) : cntA (.drop :: w) = cntA w + 1 := rfl
theorem cntA_add (l : List Nat) (w : List Step) : cntA (.add l :: w) = cntA w := rfl
theorem cntB_keep (w : List Step) : cntB (.keep :: w) = cntB w + 1 := rfl
theorem cntB_drop (w : List Step) : cntB (.drop :: w) = cntB w := rfl
theorem cntB_add (l : List Nat) (w : List Step) : cntB (.add l :: w) = cntB w + 1 := rfl
theorem cntA_app (u w : List Step) : cntA (u ++ w) = cntA u + cntA w := by unfold cntA; rw [List.filter_append, List.length_append]
theorem cntB_app (u w : List Step) : cntB (u ++ w) = cntB u + cntB w := by unfold cntB; rw [List.filter_append, List.length_append]
theorem way_cnt (a b : Doc) : cntA (Hist.way a b) = a.length ∧ cntB (Hist.way a b) = b.length :=
  way_ind (P := fun a b w => cntA w = a.length ∧ cntB w = b.length) ⟨rfl, rfl⟩
    (fun y r w h => ⟨h.1, by rw [cntB_add, h.2, List.length_cons]⟩) (fun x r w h => ⟨by rw [cntA_drop, h.1, List.length_cons], h.2⟩)
    (fun x r s w h => ⟨by rw [cntA_keep, h.1, List.length_cons], by rw [cntB_keep, h.2, List.length_cons]⟩)
    (fun x y r s w _ h => ⟨by rw [cntA_drop, h.1, List.length_cons], h.2⟩) (fun x y r s w _ h => ⟨h.1, by rw [cntB_add, h.2, List.length_cons]⟩) _ a b (Nat.le_refl _)
theorem way_len_le (a b : Doc) : (Hist.way a b).length ≤ a.length + b.length :=
  way_ind (P := fun a b w => w.length ≤ a.length + b.length) (Nat.le_refl _)
    (fun y r w h => by simp only [List.length_cons, List.length_nil] at h ⊢; omega) (fun x r w h => by simp only [List.length_cons, List.length_nil] at h ⊢; omega)
    (fun x r s w h => by simp only [List.length_cons] at h ⊢; omega) (fun x y r s w _ h => by simp only [List.length_cons] at h ⊢; omega) (fun x y r s w _ h => by simp only [List.length_cons] at h ⊢; omega) _ a b (Nat.le_refl _)
def addedAt : List Step → Doc → Doc
  | [], _ => []
  | .keep :: w, b => addedAt w b.tail
  | .drop :: w, b => addedAt w b
  | .add _ :: w, b => b.headD [] :: addedAt w b.tail
theorem way_added (a b : Doc) : addedAt (Hist.way a b) b = (Hist.way a b).filterMap fun (x : Step) => match x with
      | .add l => some l
      | _ => none :=
  way_ind (P := fun a b w => addedAt w b = w.filterMap fun (x : Step) => match x with
      | .add l => some l
      | _ => none) rfl
    (fun y r w h => by rw [List.filterMap_cons]; show y :: addedAt w r = y :: _; rw [h]) (fun x r w h => by rw [List.filterMap_cons]; exact h)
    (fun x r s w h => by rw [List.filterMap_cons]; exact h) (fun x y r s w _ h => by rw [List.filterMap_cons]; exact h) (fun x y r s w _ h => by rw [List.filterMap_cons]; show y :: addedAt w s = y :: _; rw [h]) _ a b (Nat.le_refl _)

theorem way_at_end (a b : Doc) {i j : Nat} (hi : a.length ≤ i) (hj : b.length ≤ j) : Hist.way (a.drop i) (b.drop j) = [] := by
  rw [List.drop_eq_nil_of_le hi, List.drop_eq_nil_of_le hj]; rfl
theorem way_at_keep (a b : Doc) {i j : Nat} (hi : i < a.length) (hj : j < b.length) (e : a[i] = b[j]) : Hist.way (a.drop i) (b.drop j) = .keep :: Hist.way (a.drop (i + 1)) (b.drop (j + 1)) := by
  rw [List.drop_eq_getElem_cons hi, List.drop_eq_getElem_cons hj, way_cons, if_pos e]
theorem way_at_drop (a b : Doc) {i j : Nat} (hi : i < a.length) (h : ¬ (j < b.length ∧ a[i]? = b[j]?)) (hd : b.length ≤ j ∨ lcs (a.drop i) (b.drop (j + 1)) ≤ lcs (a.drop (i + 1)) (b.drop j)) :
    Hist.way (a.drop i) (b.drop j) = .drop :: Hist.way (a.drop (i + 1)) (b.drop j) := by
  by_cases hj : j < b.length
  · have hd' : lcs (a.drop i) (b.drop (j + 1)) ≤ lcs (a.drop (i + 1)) (b.drop j) := hd.resolve_left (by omega)
    have ne : ¬ a[i] = b[j] := fun e => h ⟨hj, by rw [List.getElem?_eq_getElem hi, List.getElem?_eq_getElem hj, e]⟩
    rw [List.drop_eq_getElem_cons hi, List.drop_eq_getElem_cons hj] at hd' ⊢
    rw [way_cons, if_neg ne, if_pos hd']
  · rw [List.drop_eq_nil_of_le (as := b) (i := j) (by omega), List.drop_eq_getElem_cons hi, way_drop]
theorem way_at_add (a b : Doc) {i j : Nat} (hj : j < b.length) (h : ¬ (i < a.length ∧ a[i]? = b[j]?)) (hd : a.length ≤ i ∨ ¬ lcs (a.drop i) (b.drop (j + 1)) ≤ lcs (a.drop (i + 1)) (b.drop j)) :
    Hist.way (a.drop i) (b.drop j) = .add b[j] :: Hist.way (a.drop i) (b.drop (j + 1)) := by
  by_cases hi : i < a.length
  · have hd' : ¬ lcs (a.drop i) (b.drop (j + 1)) ≤ lcs (a.drop (i + 1)) (b.drop j) := hd.resolve_left (by omega)
    have ne : ¬ a[i] = b[j] := fun e => h ⟨hi, by rw [List.getElem?_eq_getElem hi, List.getElem?_eq_getElem hj, e]⟩
    rw [List.drop_eq_getElem_cons hi, List.drop_eq_getElem_cons hj] at hd' ⊢
    rw [way_cons, if_neg ne, if_neg hd']
  · rw [List.drop_eq_nil_of_le (as := a) (i := i) (by omega), List.drop_eq_getElem_cons hj, way_add]
theorem lcs_at (a b : Doc) {i j : Nat} (hi : i < a.length) (hj : j < b.length) :
    lcs (a.drop i) (b.drop j) = if a[i] = b[j] then lcs (a.drop (i + 1)) (b.drop (j + 1)) + 1 else max (lcs (a.drop (i + 1)) (b.drop j)) (lcs (a.drop i) (b.drop (j + 1))) := by
  rw [List.drop_eq_getElem_cons hi, List.drop_eq_getElem_cons hj, lcs_cons]
theorem lcs_end (a b : Doc) {i j : Nat} (h : a.length ≤ i ∨ b.length ≤ j) : lcs (a.drop i) (b.drop j) = 0 := by
  rcases h with h | h
  · rw [List.drop_eq_nil_of_le h, lcs_nil]
  · rw [List.drop_eq_nil_of_le h, lcs_nil2]

theorem placesFrom_len : ∀ (w : List Step) (j : Nat), (Hist.placesFrom w j).length = cntA w
  | [], _ => rfl
  | .keep :: w, j => by rw [cntA_keep]; show (Hist.placesFrom w (j + 1)).length + 1 = _; rw [placesFrom_len]
  | .drop :: w, j => by rw [cntA_drop]; show (Hist.placesFrom w j).length + 1 = _; rw [placesFrom_len]
  | .add l :: w, j => by rw [cntA_add]; exact placesFrom_len w (j + 1)
theorem placesFrom_app : ∀ (u w : List Step) (j : Nat), Hist.placesFrom (u ++ w) j = Hist.placesFrom u j ++ Hist.placesFrom w (j + cntB u)
  | [], w, j => rfl
  | .keep :: u, w, j => by
    show some j :: Hist.placesFrom (u ++ w) (j + 1) = some j :: (Hist.placesFrom u (j + 1) ++ _)
    rw [placesFrom_app u w (j + 1), cntB_keep, show j + 1 + cntB u = j + (cntB u + 1) by omega]
  | .drop :: u, w, j => by
    show none :: Hist.placesFrom (u ++ w) j = none :: (Hist.placesFrom u j ++ _)
    rw [placesFrom_app u w j, cntB_drop]
  | .add l :: u, w, j => by
    show Hist.placesFrom (u ++ w) (j + 1) = Hist.placesFrom u (j + 1) ++ _
    rw [placesFrom_app u w (j + 1), cntB_add, show j + 1 + cntB u = j + (cntB u + 1) by omega]
theorem placesFrom_bnd : ∀ (w : List Step) (j i k : Nat), (Hist.placesFrom w j)[i]? = some (some k) → j ≤ k ∧ k < j + cntB w
  | [], _, _, _, h => by simp [Hist.placesFrom] at h
  | .keep :: w, j, 0, k, h => by
    have e : some (some j) = some (some k) := h
    cases e
    rw [cntB_keep]
    omega
  | .keep :: w, j, i + 1, k, h => by
    have q := placesFrom_bnd w (j + 1) i k h
    rw [cntB_keep]
    omega
  | .drop :: w, j, 0, k, h => by
    have e : some (none : Option Nat) = some (some k) := h
    cases e
  | .drop :: w, j, i + 1, k, h => by
    have q := placesFrom_bnd w j i k h
    rw [cntB_drop]
    exact q
  | .add l :: w, j, i, k, h => by
    have q := placesFrom_bnd w (j + 1) i k h
    rw [cntB_add]
    omega
theorem placesFrom_up : ∀ (w : List Step) (j i i' k k' : Nat), (Hist.placesFrom w j)[i]? = some (some k) → (Hist.placesFrom w j)[i']? = some (some k') → i < i' → k < k'
  | [], _, _, _, _, _, h, _, _ => by simp [Hist.placesFrom] at h
  | .keep :: w, j, 0, 0, k, k', h, h', q => absurd q (Nat.lt_irrefl _)
  | .keep :: w, j, 0, i' + 1, k, k', h, h', q => by
    have e : some (some j) = some (some k) := h
    cases e
    have z := placesFrom_bnd w (j + 1) i' k' h'
    omega
  | .keep :: w, j, i + 1, 0, k, k', h, h', q => absurd q (by omega)
  | .keep :: w, j, i + 1, i' + 1, k, k', h, h', q => placesFrom_up w (j + 1) i i' k k' h h' (by omega)
  | .drop :: w, j, 0, _, k, k', h, h', q => by
    have e : some (none : Option Nat) = some (some k) := h
    cases e
  | .drop :: w, j, i + 1, 0, k, k', h, h', q => absurd q (by omega)
  | .drop :: w, j, i + 1, i' + 1, k, k', h, h', q => placesFrom_up w j i i' k k' h h' (by omega)
  | .add l :: w, j, i, i', k, k', h, h', q => placesFrom_up w (j + 1) i i' k k' h h' q
theorem places_len (a b : Doc) : (Hist.places a b).length = a.length := by
  unfold Hist.places
  rw [placesFrom_len, (way_cnt a b).1]
theorem places_lt (a b : Doc) {i k : Nat} (h : (Hist.places a b)[i]? = some (some k)) : k < b.length := by
  have q := placesFrom_bnd (Hist.way a b) 0 i k h
  rw [(way_cnt a b).2] at q
  omega
theorem places_up (a b : Doc) {i i' k k' : Nat} (h : (Hist.places a b)[i]? = some (some k)) (h' : (Hist.places a b)[i']? = some (some k')) (q : i < i') : k < k' := placesFrom_up _ _ _ _ _ _ h h' q
def encP : Option Nat → Int
  | some j => (j : Int)
  | none => -1
def nStep (s : Step) : Int := (s.nums : Nat)
end Wb
namespace Wb
open Hist (Doc Step)

abbrev T3 := Nat × Nat × Nat
def partStep (i : Nat) (x : Option Nat × Option Nat) (s : List (T3 × T3) × T3) : List (T3 × T3) × T3 := match x with
  | (some j, some k) => (s.1 ++ [(s.2, (i, j, k))], (i + 1, j + 1, k + 1))
  | _ => s
def partLoop : Nat → List (Option Nat × Option Nat) → List (T3 × T3) × T3 → List (T3 × T3) × T3
  | _, [], s => s
  | i, x :: r, s => partLoop (i + 1) r (partStep i x s)
theorem partLoop_app : ∀ (l : List (Option Nat × Option Nat)) (x : Option Nat × Option Nat) (i : Nat) (s : List (T3 × T3) × T3), partLoop i (l ++ [x]) s = partStep (i + l.length) x (partLoop i l s)
  | [], x, i, s => rfl
  | y :: l, x, i, s => by
    show partLoop (i + 1) (l ++ [x]) (partStep i y s) = _
    rw [partLoop_app l x (i + 1), List.length_cons, show i + 1 + l.length = i + (l.length + 1) by omega]
    rfl
def fastOf : Nat → List (Option Nat × Option Nat) → List T3
  | _, [] => []
  | i, (some j, some k) :: r => (i, j, k) :: fastOf (i + 1) r
  | i, (none, _) :: r => fastOf (i + 1) r
  | i, (some _, none) :: r => fastOf (i + 1) r
theorem fastOf_eq : ∀ (l : List (Option Nat × Option Nat)) (i : Nat), ((l.zipIdx i).filterMap fun (x : (Option Nat × Option Nat) × Nat) => match x.1 with
  | (some a, some b) => some (x.2, a, b)
  | _ => none) = fastOf i l
  | [], _ => rfl
  | (some j, some k) :: r, i => by
    rw [List.zipIdx_cons, List.filterMap_cons]
    dsimp only
    rw [fastOf_eq r (i + 1)]
    rfl
  | (none, z) :: r, i => by
    rw [List.zipIdx_cons, List.filterMap_cons]
    dsimp only
    exact fastOf_eq r (i + 1)
  | (some j, none) :: r, i => by
    rw [List.zipIdx_cons, List.filterMap_cons]
    dsimp only
    exact fastOf_eq r (i + 1)
theorem fast_eq (o a b : Doc) : Hist.fast o a b = fastOf 0 ((Hist.places o a).zip (Hist.places o b)) := fastOf_eq _ 0
def partsE : T3 → List T3 → T3 → List (T3 × T3)
  | s, [], l => [(s, l)]
  | s, x :: r, l => (s, x) :: partsE (x.1 + 1, x.2.1 + 1, x.2.2 + 1) r l
def toPart (p : T3 × T3) : Hist.Part := ⟨p.1.1, p.2.1 - p.1.1, p.1.2.1, p.2.2.1 - p.1.2.1, p.1.2.2, p.2.2.2 - p.1.2.2⟩
theorem partsE_eq : ∀ (r : List T3) (s l : T3), (partsE s r l).map toPart = Hist.partsFrom s.1 s.2.1 s.2.2 r l.1 l.2.1 l.2.2
  | [], s, l => rfl
  | x :: r, s, l => by
    show toPart (s, x) :: (partsE (x.1 + 1, x.2.1 + 1, x.2.2 + 1) r l).map toPart = _
    rw [partsE_eq r]
    rfl
theorem partLoop_eq : ∀ (r : List (Option Nat × Option Nat)) (i : Nat) (acc : List (T3 × T3)) (s l : T3), (partLoop i r (acc, s)).1 ++ [((partLoop i r (acc, s)).2, l)] = acc ++ partsE s (fastOf i r) l
  | [], _, _, _, _ => rfl
  | (some j, some k) :: r, i, acc, s, l => by
    show (partLoop (i + 1) r (acc ++ [(s, (i, j, k))], (i + 1, j + 1, k + 1))).1 ++ [((partLoop (i + 1) r (acc ++ [(s, (i, j, k))], (i + 1, j + 1, k + 1))).2, l)] = acc ++ ((s, (i, j, k)) :: partsE (i + 1, j + 1, k + 1) (fastOf (i + 1) r) l)
    rw [partLoop_eq r (i + 1), List.append_assoc]
    rfl
  | (none, z) :: r, i, acc, s, l => partLoop_eq r (i + 1) acc s l
  | (some j, none) :: r, i, acc, s, l => partLoop_eq r (i + 1) acc s l
def partsP (o a b : Doc) : List (T3 × T3) := partsE (0, 0, 0) (Hist.fast o a b) (o.length, a.length, b.length)
theorem partsP_loop (o a b : Doc) : (partLoop 0 ((Hist.places o a).zip (Hist.places o b)) ([], (0, 0, 0))).1 ++ [((partLoop 0 ((Hist.places o a).zip (Hist.places o b)) ([], (0, 0, 0))).2, (o.length, a.length, b.length))] = partsP o a b := by
  rw [partLoop_eq]
  unfold partsP
  rw [fast_eq]
  rfl
theorem partsP_map (o a b : Doc) : (partsP o a b).map toPart = Hist.parts o a b := partsE_eq _ _ _
def Le3 (s t : T3) : Prop := s.1 ≤ t.1 ∧ s.2.1 ≤ t.2.1 ∧ s.2.2 ≤ t.2.2
def Chain : T3 → List T3 → T3 → Prop
  | s, [], l => Le3 s l
  | s, x :: r, l => Le3 s x ∧ x.1 < l.1 ∧ Chain (x.1 + 1, x.2.1 + 1, x.2.2 + 1) r l
theorem partsE_ok : ∀ (r : List T3) (s l : T3), Chain s r l → ∀ p ∈ partsE s r l, Le3 p.1 p.2
  | [], s, l, h, p, hp => by
    rw [List.mem_singleton.mp hp]
    exact h
  | x :: r, s, l, h, p, hp => by
    rcases List.mem_cons.mp hp with e | hp
    · rw [e]
      exact h.1
    · exact partsE_ok r _ l h.2.2 p hp
def EndsOk (n : Nat) : List (T3 × T3) → Prop
  | [] => False
  | [p] => p.2.1 = n
  | p :: q :: r => p.2.1 < n ∧ EndsOk n (q :: r)
theorem partsE_cons (s : T3) (r : List T3) (l : T3) : ∃ p t, partsE s r l = p :: t := by
  cases r with
  | nil => exact ⟨_, _, rfl⟩
  | cons x r => exact ⟨_, _, rfl⟩
theorem partsE_ends : ∀ (r : List T3) (s l : T3), Chain s r l → EndsOk l.1 (partsE s r l)
  | [], s, l, h => rfl
  | x :: r, s, l, h => by
    have ih := partsE_ends r _ l h.2.2
    obtain ⟨p, t, e⟩ := partsE_cons (x.1 + 1, x.2.1 + 1, x.2.2 + 1) r l
    show EndsOk l.1 ((s, x) :: partsE (x.1 + 1, x.2.1 + 1, x.2.2 + 1) r l)
    rw [e] at ih ⊢
    exact ⟨h.2.1, ih⟩
def Rise : Nat → List (Option Nat) → Nat → Prop
  | k, [], n => k ≤ n
  | k, none :: r, n => Rise k r n
  | k, some j :: r, n => k ≤ j ∧ Rise (j + 1) r n
theorem rise_down : ∀ (l : List (Option Nat)) (k k' n : Nat), k' ≤ k → Rise k l n → Rise k' l n
  | [], k, k', n, h, r => Nat.le_trans h r
  | none :: l, k, k', n, h, r => rise_down l k k' n h r
  | some j :: l, k, k', n, h, r => ⟨Nat.le_trans h r.1, r.2⟩
theorem rise_from : ∀ (w : List Step) (j : Nat), Rise j (Hist.placesFrom w j) (j + cntB w)
  | [], j => Nat.le_refl _
  | .keep :: w, j => ⟨Nat.le_refl _, by rw [cntB_keep, show j + (cntB w + 1) = j + 1 + cntB w by omega]; exact rise_from w (j + 1)⟩
  | .drop :: w, j => rise_from w j
  | .add l :: w, j => by
    rw [cntB_add, show j + (cntB w + 1) = j + 1 + cntB w by omega]
    exact rise_down _ _ _ _ (Nat.le_succ j) (rise_from w (j + 1))
theorem rise_places (a b : Doc) : Rise 0 (Hist.places a b) b.length := by
  have q := rise_from (Hist.way a b) 0
  rw [(way_cnt a b).2, Nat.zero_add] at q
  exact q
theorem fast_chain : ∀ (l m : List (Option Nat)) (i lo la lb : Nat) (s : T3), l.length = m.length → i + l.length = lo → Rise s.2.1 l la → Rise s.2.2 m lb → s.1 ≤ i → Chain s (fastOf i (l.zip m)) (lo, la, lb)
  | [], [], i, lo, la, lb, s, _, h2, h3, h4, h5 => ⟨by have e : i = lo := h2; show s.1 ≤ lo; omega, h3, h4⟩
  | [], _ :: _, _, _, _, _, _, h, _, _, _, _ => absurd h (by simp)
  | _ :: _, [], _, _, _, _, _, h, _, _, _, _ => absurd h (by simp)
  | some j :: l, some k :: m, i, lo, la, lb, s, h1, h2, h3, h4, h5 => by
    simp only [List.length_cons] at h1 h2
    exact ⟨⟨h5, h3.1, h4.1⟩, by show i < lo; omega, fast_chain l m (i + 1) lo la lb (i + 1, j + 1, k + 1) (by omega) (by omega) h3.2 h4.2 (Nat.le_refl _)⟩
  | some j :: l, none :: m, i, lo, la, lb, s, h1, h2, h3, h4, h5 => by
    simp only [List.length_cons] at h1 h2
    exact fast_chain l m (i + 1) lo la lb s (by omega) (by omega) (rise_down l (j + 1) s.2.1 la (by have := h3.1; omega) h3.2) h4 (by omega)
  | none :: l, some k :: m, i, lo, la, lb, s, h1, h2, h3, h4, h5 => by
    simp only [List.length_cons] at h1 h2
    exact fast_chain l m (i + 1) lo la lb s (by omega) (by omega) h3 (rise_down m (k + 1) s.2.2 lb (by have := h4.1; omega) h4.2) (by omega)
  | none :: l, none :: m, i, lo, la, lb, s, h1, h2, h3, h4, h5 => by
    simp only [List.length_cons] at h1 h2
    exact fast_chain l m (i + 1) lo la lb s (by omega) (by omega) h3 h4 (by omega)
theorem parts_chain (o a b : Doc) : Chain (0, 0, 0) (Hist.fast o a b) (o.length, a.length, b.length) := by
  rw [fast_eq]
  exact fast_chain _ _ 0 _ _ _ (0, 0, 0) (by rw [places_len, places_len]) (by rw [places_len, Nat.zero_add]) (rise_places o a) (rise_places o b) (Nat.le_refl _)
theorem partsP_ok (o a b : Doc) : ∀ p ∈ partsP o a b, Le3 p.1 p.2 := partsE_ok _ _ _ (parts_chain o a b)
theorem partsP_ends (o a b : Doc) : EndsOk o.length (partsP o a b) := partsE_ends _ _ _ (parts_chain o a b)

def sl (d : Doc) (i j : Nat) : Doc := (d.drop i).take (j - i)
def settleP (o a b : Doc) (p : T3 × T3) : Option Doc :=
  if sl a p.1.2.1 p.2.2.1 = sl o p.1.1 p.2.1 then some (sl b p.1.2.2 p.2.2.2)
  else if sl b p.1.2.2 p.2.2.2 = sl o p.1.1 p.2.1 ∨ sl a p.1.2.1 p.2.2.1 = sl b p.1.2.2 p.2.2.2 then some (sl a p.1.2.1 p.2.2.1) else none
theorem settleP_eq (o a b : Doc) (p : T3 × T3) : settleP o a b p = Hist.settle o a b (toPart p) := by
  unfold settleP Hist.settle Hist.cut toPart sl
  dsimp only
  split
  · rfl
  · by_cases c : (b.drop p.1.2.2).take (p.2.2.2 - p.1.2.2) = (o.drop p.1.1).take (p.2.1 - p.1.1)
    · rw [if_pos (.inl c), if_pos c]
    · rw [if_neg c]
      by_cases d : (a.drop p.1.2.1).take (p.2.2.1 - p.1.2.1) = (b.drop p.1.2.2).take (p.2.2.2 - p.1.2.2)
      · rw [if_pos (.inr d), if_pos d]
      · rw [if_neg d, if_neg (fun z => z.elim c d)]
def toldP (p : T3 × T3) : List Int := [(p.1.1 : Int), (p.2.1 : Int) - p.1.1, p.1.2.1, (p.2.2.1 : Int) - p.1.2.1, p.1.2.2, (p.2.2.2 : Int) - p.1.2.2]
theorem toldP_eq (p : T3 × T3) (h : Le3 p.1 p.2) : toldP p = ((toPart p).nums).map fun (n : Nat) => (n : Int) := by
  obtain ⟨h1, h2, h3⟩ := h
  unfold toldP toPart Hist.Part.nums
  simp only [List.map_cons, List.map_nil]
  rw [Int.ofNat_sub h1, Int.ofNat_sub h2, Int.ofNat_sub h3]
def mStep (o a b : Doc) (s : Doc × List Int) (p : T3 × T3) : Doc × List Int :=
  let d := match settleP o a b p with
    | none => s.1
    | some l => s.1 ++ l
  let c := match settleP o a b p with
    | none => s.2 ++ toldP p
    | some _ => s.2
  (if p.2.1 < o.length then d ++ [o.getD p.2.1 []] else d, c)
def mLoop (o a b : Doc) (l : List (T3 × T3)) (s : Doc × List Int) : Doc × List Int := l.foldl (mStep o a b) s
def mergedP (o a b : Doc) : Doc × List Int := mLoop o a b (partsP o a b) ([], [])
theorem mLoop_clash (o a b : Doc) : ∀ (l : List (T3 × T3)) (s : Doc × List Int), (mLoop o a b l s).2 = s.2 ++ (l.filter fun p => (settleP o a b p).isNone).flatMap toldP
  | [], s => by simp [mLoop]
  | p :: l, s => by
    show (mLoop o a b l (mStep o a b s p)).2 = _
    rw [mLoop_clash o a b l, List.filter_cons]
    cases e : settleP o a b p with
    | none =>
      have q : (mStep o a b s p).2 = s.2 ++ toldP p := by unfold mStep; rw [e]
      rw [q]
      simp
    | some d =>
      have q : (mStep o a b s p).2 = s.2 := by unfold mStep; rw [e]
      rw [q]
      simp
theorem mLoop_doc (o a b : Doc) : ∀ (l : List (T3 × T3)) (s : Doc × List Int), EndsOk o.length l → (∀ p ∈ l, Le3 p.1 p.2) → (∀ p ∈ l, (settleP o a b p).isNone = false) →
    Hist.settled o a b (l.map toPart) = some ((mLoop o a b l s).1.drop s.1.length) ∧ (mLoop o a b l s).1.take s.1.length = s.1
  | [], s, h, _, _ => h.elim
  | [p], s, h, hl, hn => by
    have e0 : p.2.1 = o.length := h
    have n0 := hn p List.mem_cons_self
    cases e : settleP o a b p with
    | none => rw [e] at n0; cases n0
    | some d =>
      have q : (mLoop o a b [p] s).1 = s.1 ++ d := by
        show (mStep o a b s p).1 = _
        unfold mStep
        rw [e]
        dsimp only
        rw [if_neg (by omega)]
      rw [q, List.drop_left, List.take_left]
      refine ⟨?_, rfl⟩
      show Hist.settle o a b (toPart p) = some d
      rw [← settleP_eq, e]
  | p :: p' :: l, s, h, hl, hn => by
    have n0 := hn p List.mem_cons_self
    cases e : settleP o a b p with
    | none => rw [e] at n0; cases n0
    | some d =>
      have hlt : p.2.1 < o.length := h.1
      have q : (mStep o a b s p).1 = s.1 ++ (d ++ [o.getD p.2.1 []]) := by
        unfold mStep
        rw [e]
        dsimp only
        rw [if_pos hlt, List.append_assoc]
      obtain ⟨i1, i2⟩ := mLoop_doc o a b (p' :: l) (mStep o a b s p) h.2 (fun x hx => hl x (List.mem_cons_of_mem _ hx)) (fun x hx => hn x (List.mem_cons_of_mem _ hx))
      have e1 : mLoop o a b (p :: p' :: l) s = mLoop o a b (p' :: l) (mStep o a b s p) := rfl
      rw [e1]
      generalize mLoop o a b (p' :: l) (mStep o a b s p) = R at i1 i2 ⊢
      rw [q] at i1 i2
      have hle := (hl p List.mem_cons_self).1
      have ec : Hist.cut o ((toPart p).o + (toPart p).on) 1 = [o.getD p.2.1 []] := by
        unfold Hist.cut toPart
        dsimp only
        rw [show p.1.1 + (p.2.1 - p.1.1) = p.2.1 by omega, List.drop_eq_getElem_cons hlt, List.getD_eq_getElem?_getD, List.getElem?_eq_getElem hlt]
        rfl
      have eR : R.1 = s.1 ++ (d ++ [o.getD p.2.1 []]) ++ R.1.drop (s.1 ++ (d ++ [o.getD p.2.1 []])).length := by
        conv => lhs; rw [← List.take_append_drop (s.1 ++ (d ++ [o.getD p.2.1 []])).length R.1, i2]
      constructor
      · show (Hist.settle o a b (toPart p)).bind (fun (x : Doc) => (Hist.settled o a b ((p' :: l).map toPart)).map fun (y : Doc) => x ++ (Hist.cut o ((toPart p).o + (toPart p).on) 1 ++ y)) = _
        rw [← settleP_eq, e, i1, ec]
        show some (d ++ ([o.getD p.2.1 []] ++ R.1.drop (s.1 ++ (d ++ [o.getD p.2.1 []])).length)) = _
        conv => rhs; rw [eR]
        rw [List.append_assoc, List.drop_left, List.append_assoc]
      · conv => lhs; rw [eR]
        rw [List.append_assoc, List.take_left]
theorem settled_none (o a b : Doc) : ∀ (l : List (T3 × T3)), (∃ p ∈ l, (settleP o a b p).isNone = true) → Hist.settled o a b (l.map toPart) = none
  | [], h => by
    obtain ⟨p, hp, _⟩ := h
    cases hp
  | [p], h => by
    obtain ⟨p', hp, hq⟩ := h
    rw [List.mem_singleton.mp hp] at hq
    show Hist.settle o a b (toPart p) = none
    rw [← settleP_eq]
    exact Option.isNone_iff_eq_none.mp hq
  | p :: p' :: l, h => by
    show (Hist.settle o a b (toPart p)).bind (fun (x : Doc) => (Hist.settled o a b ((p' :: l).map toPart)).map fun (y : Doc) => x ++ (Hist.cut o ((toPart p).o + (toPart p).on) 1 ++ y)) = none
    rw [← settleP_eq]
    cases e : settleP o a b p with
    | none => rfl
    | some d =>
      obtain ⟨x, hx, hq⟩ := h
      rcases List.mem_cons.mp hx with e' | hx
      · rw [e', e] at hq
        cases hq
      · rw [settled_none o a b (p' :: l) ⟨x, hx, hq⟩]
        rfl
def clashNums (l : List Hist.Part) : List Int := (l.flatMap Hist.Part.nums).map fun (n : Nat) => (n : Int)
theorem merge_ok (o a b : Doc) (h : (mergedP o a b).2 = []) : Hist.merge o a b = .ok (mergedP o a b).1 := by
  have hc : (mergedP o a b).2 = ((partsP o a b).filter fun p => (settleP o a b p).isNone).flatMap toldP := by
    unfold mergedP
    rw [mLoop_clash]
    rfl
  rw [hc] at h
  have hn : ∀ p ∈ partsP o a b, (settleP o a b p).isNone = false := by
    intro p hp
    cases e : (settleP o a b p).isNone with
    | false => rfl
    | true =>
      have m : p ∈ (partsP o a b).filter fun p => (settleP o a b p).isNone := List.mem_filter.mpr ⟨hp, e⟩
      have z : (p.1.1 : Int) ∈ ((partsP o a b).filter fun p => (settleP o a b p).isNone).flatMap toldP := List.mem_flatMap.mpr ⟨p, m, List.mem_cons_self⟩
      rw [h] at z
      cases z
  have q := (mLoop_doc o a b (partsP o a b) ([], []) (partsP_ends o a b) (partsP_ok o a b) hn).1
  rw [partsP_map] at q
  unfold Hist.merge
  rw [q]
  rfl
theorem merge_clash (o a b : Doc) (h : (mergedP o a b).2 ≠ []) : ∃ l, Hist.merge o a b = .error l ∧ clashNums l = (mergedP o a b).2 := by
  have hc : (mergedP o a b).2 = ((partsP o a b).filter fun p => (settleP o a b p).isNone).flatMap toldP := by
    unfold mergedP
    rw [mLoop_clash]
    rfl
  have hx : ∃ p ∈ partsP o a b, (settleP o a b p).isNone = true := by
    refine Classical.byContradiction fun n => h ?_
    rw [hc]
    have e : ((partsP o a b).filter fun p => (settleP o a b p).isNone) = [] := by
      rw [List.filter_eq_nil_iff]
      intro p hp z
      exact n ⟨p, hp, z⟩
    rw [e]
    rfl
  have q := settled_none o a b _ hx
  rw [partsP_map] at q
  refine ⟨_, by unfold Hist.merge; rw [q], ?_⟩
  unfold clashNums
  rw [hc, ← partsP_map, List.filter_map, List.flatMap_map, List.map_flatMap]
  have e1 : (fun p : T3 × T3 => (settleP o a b p).isNone) = ((fun (p : Hist.Part) => (Hist.settle o a b p).isNone) ∘ toPart) := by
    funext p
    show _ = (Hist.settle o a b (toPart p)).isNone
    rw [settleP_eq]
  rw [e1]
  have gen : ∀ l : List (T3 × T3), (∀ p ∈ l, Le3 p.1 p.2) → l.flatMap (fun p => ((toPart p).nums).map fun (n : Nat) => (n : Int)) = l.flatMap toldP := by
    intro l
    induction l with
    | nil => intro _; rfl
    | cons p l ih =>
      intro hl
      rw [List.flatMap_cons, List.flatMap_cons, ih (fun x hx => hl x (List.mem_cons_of_mem _ hx)), toldP_eq p (hl p List.mem_cons_self)]
  exact gen _ fun p hp => partsP_ok o a b p (List.mem_filter.mp hp).1
end Wb
namespace Wb
open Hist (Doc Step Book)

inductive Anc (h : Book) : Nat → Nat → Prop
  | self (v : Nat) : Anc h v v
  | up {v p k : Nat} : p ∈ Hist.parentsOf h v → Anc h p k → Anc h v k
def Low (h : Book) : Prop := ∀ v p, p ∈ Hist.parentsOf h v → p < v
theorem Anc.trans {h : Book} {a b c : Nat} (x : Anc h a b) (y : Anc h b c) : Anc h a c := by
  induction x with
  | self v => exact y
  | up hp _ ih => exact .up hp (ih y)
theorem Anc.le {h : Book} (L : Low h) {a b : Nat} (x : Anc h a b) : b ≤ a := by
  induction x with
  | self v => exact Nat.le_refl _
  | up hp _ ih => exact Nat.le_trans ih (Nat.le_of_lt (L _ _ hp))
theorem reach_iff {h : Book} (L : Low h) : ∀ (n : Nat) (want : List Nat) (k : Nat), k ∈ Hist.reachFrom h n want ↔ ∃ w ∈ want, w < n ∧ Anc h w k
  | 0, want, k => ⟨fun z => (by cases z), fun ⟨_, _, z, _⟩ => absurd z (Nat.not_lt_zero _)⟩
  | n + 1, want, k => by
    unfold Hist.reachFrom
    by_cases c : want.contains n = true
    · rw [if_pos c, List.mem_cons, reach_iff L n]
      have cm : n ∈ want := List.contains_iff_mem.mp c
      constructor
      · rintro (e | ⟨w, hw, hl, ha⟩)
        · exact ⟨n, cm, Nat.lt_succ_self _, e ▸ .self _⟩
        · rcases List.mem_append.mp hw with hw | hw
          · exact ⟨n, cm, Nat.lt_succ_self _, .up hw ha⟩
          · exact ⟨w, hw, Nat.lt_succ_of_lt hl, ha⟩
      · rintro ⟨w, hw, hl, ha⟩
        by_cases e : w = n
        · subst e
          cases ha with
          | self => exact .inl rfl
          | up hp ha => exact .inr ⟨_, List.mem_append_left _ hp, L _ _ hp, ha⟩
        · exact .inr ⟨w, List.mem_append_right _ hw, by omega, ha⟩
    · rw [if_neg c, reach_iff L n]
      constructor
      · rintro ⟨w, hw, hl, ha⟩
        exact ⟨w, hw, Nat.lt_succ_of_lt hl, ha⟩
      · rintro ⟨w, hw, hl, ha⟩
        have ne : w ≠ n := fun e => c (List.contains_iff_mem.mpr (e ▸ hw))
        exact ⟨w, hw, by omega, ha⟩
theorem reach_down (h : Book) : ∀ (n : Nat) (want : List Nat), (Hist.reachFrom h n want).Pairwise (· > ·) ∧ ∀ k ∈ Hist.reachFrom h n want, k < n
  | 0, want => ⟨.nil, fun k z => by cases z⟩
  | n + 1, want => by
    unfold Hist.reachFrom
    by_cases c : want.contains n = true
    · rw [if_pos c]
      obtain ⟨h1, h2⟩ := reach_down h n (Hist.parentsOf h n ++ want)
      refine ⟨List.pairwise_cons.mpr ⟨fun k hk => h2 k hk, h1⟩, fun k hk => ?_⟩
      rcases List.mem_cons.mp hk with e | hk
      · omega
      · exact Nat.lt_succ_of_lt (h2 k hk)
    · rw [if_neg c]
      obtain ⟨h1, h2⟩ := reach_down h n want
      exact ⟨h1, fun k hk => Nat.lt_succ_of_lt (h2 k hk)⟩
theorem fb_iff {h : Book} (L : Low h) {v k : Nat} (hv : v < h.length) : k ∈ Hist.forebears h v ↔ Anc h v k := by
  unfold Hist.forebears
  rw [reach_iff L]
  constructor
  · rintro ⟨w, hw, _, ha⟩
    rw [List.mem_singleton.mp hw] at ha
    exact ha
  · intro ha
    exact ⟨v, List.mem_singleton.mpr rfl, hv, ha⟩
theorem isF_iff {h : Book} (L : Low h) {u v : Nat} (hv : v < h.length) : Hist.isForebear h u v = true ↔ Anc h v u := by
  unfold Hist.isForebear
  rw [List.contains_iff_mem]
  exact fb_iff L hv
theorem fb_down (h : Book) (v : Nat) : (Hist.forebears h v).Pairwise (· > ·) := (reach_down h _ _).1
theorem fb_lt (h : Book) (v : Nat) : ∀ k ∈ Hist.forebears h v, k < h.length := (reach_down h _ _).2
theorem up_ext : ∀ {l m : List Nat}, l.Pairwise (· < ·) → m.Pairwise (· < ·) → (∀ k, k ∈ l ↔ k ∈ m) → l = m
  | [], [], _, _, _ => rfl
  | [], y :: m, _, _, h => absurd ((h y).mpr List.mem_cons_self) (by simp)
  | x :: l, [], _, _, h => absurd ((h x).mp List.mem_cons_self) (by simp)
  | x :: l, y :: m, hl, hm, h => by
    obtain ⟨a1, a2⟩ := List.pairwise_cons.mp hl
    obtain ⟨b1, b2⟩ := List.pairwise_cons.mp hm
    have e : x = y := by
      rcases List.mem_cons.mp ((h x).mp List.mem_cons_self) with e | hx
      · exact e
      · rcases List.mem_cons.mp ((h y).mpr List.mem_cons_self) with e | hy
        · exact e.symm
        · have := a1 y hy
          have := b1 x hx
          omega
    subst e
    rw [up_ext a2 b2 fun k => ?_]
    constructor
    · intro hk
      rcases List.mem_cons.mp ((h k).mp (List.mem_cons_of_mem _ hk)) with e | hk'
      · have := a1 k hk
        omega
      · exact hk'
    · intro hk
      rcases List.mem_cons.mp ((h k).mpr (List.mem_cons_of_mem _ hk)) with e | hk'
      · have := b1 k hk
        omega
      · exact hk'
theorem up_len : ∀ (l : List Nat) (n : Nat), l.Pairwise (· < ·) → (∀ k ∈ l, k < n) → ∀ b, (∀ k ∈ l, b ≤ k) → l.length ≤ n - b
  | [], n, _, _, b, _ => Nat.zero_le _
  | x :: l, n, h, hn, b, hb => by
    obtain ⟨a1, a2⟩ := List.pairwise_cons.mp h
    have q := up_len l n a2 (fun k hk => hn k (List.mem_cons_of_mem _ hk)) (x + 1) fun k hk => a1 k hk
    have h1 := hn x List.mem_cons_self
    have h2 := hb x List.mem_cons_self
    rw [List.length_cons]
    omega
theorem fb_len (h : Book) (v : Nat) : (Hist.forebears h v).length ≤ h.length := by
  have q := up_len (Hist.forebears h v).reverse h.length (List.pairwise_reverse.mpr (fb_down h v)) (fun k hk => fb_lt h v k (List.mem_reverse.mp hk)) 0 fun k _ => Nat.zero_le _
  rw [List.length_reverse] at q
  exact q

theorem doc_old {h : Book} {x : Hist.Version} {v : Nat} (hv : v < h.length) : Hist.docOf (h ++ [x]) v = Hist.docOf h v := by
  unfold Hist.docOf
  rw [List.getElem?_append_left hv]
theorem par_old {h : Book} {x : Hist.Version} {v : Nat} (hv : v < h.length) : Hist.parentsOf (h ++ [x]) v = Hist.parentsOf h v := by
  unfold Hist.parentsOf
  rw [List.getElem?_append_left hv]
theorem doc_new (h : Book) (x : Hist.Version) : Hist.docOf (h ++ [x]) h.length = x.doc := by
  unfold Hist.docOf
  rw [List.getElem?_append_right (Nat.le_refl _), Nat.sub_self]
  rfl
theorem par_new (h : Book) (x : Hist.Version) : Hist.parentsOf (h ++ [x]) h.length = x.parents := by
  unfold Hist.parentsOf
  rw [List.getElem?_append_right (Nat.le_refl _), Nat.sub_self]
  rfl
theorem par_out {h : Book} {v : Nat} (hv : h.length ≤ v) : Hist.parentsOf h v = [] := by
  unfold Hist.parentsOf
  rw [List.getElem?_eq_none hv]
  rfl
theorem low_more {h : Book} {x : Hist.Version} (L : Low h) (hp : ∀ p ∈ x.parents, p < h.length) : Low (h ++ [x]) := by
  intro v p m
  by_cases hv : v < h.length
  · rw [par_old hv] at m
    exact L v p m
  · by_cases e : v = h.length
    · subst e
      rw [par_new] at m
      exact hp p m
    · rw [par_out (by rw [List.length_append, List.length_singleton]; omega)] at m
      cases m
theorem reach_old (h : Book) (x : Hist.Version) : ∀ (n : Nat) (want : List Nat), n ≤ h.length → Hist.reachFrom (h ++ [x]) n want = Hist.reachFrom h n want
  | 0, _, _ => rfl
  | n + 1, want, hn => by
    unfold Hist.reachFrom
    rw [par_old (by omega), reach_old h x n _ (by omega), reach_old h x n _ (by omega)]
theorem fb_old {h : Book} {x : Hist.Version} {v : Nat} (hv : v < h.length) : Hist.forebears (h ++ [x]) v = Hist.forebears h v := by
  unfold Hist.forebears
  rw [List.length_append, List.length_singleton]
  show (if [v].contains h.length = true then h.length :: Hist.reachFrom (h ++ [x]) h.length (Hist.parentsOf (h ++ [x]) h.length ++ [v]) else Hist.reachFrom (h ++ [x]) h.length [v]) = _
  rw [if_neg (fun z => by
    have m := List.contains_iff_mem.mp z
    have e := List.mem_singleton.mp m
    omega), reach_old h x _ _ (Nat.le_refl _)]
theorem isF_old {h : Book} {x : Hist.Version} {u v : Nat} (hv : v < h.length) : Hist.isForebear (h ++ [x]) u v = Hist.isForebear h u v := by
  unfold Hist.isForebear
  rw [fb_old hv]
theorem fb_new {h : Book} {x : Hist.Version} (L : Low h) (hp : ∀ p ∈ x.parents, p < h.length) {ns : List Nat} (hs : ns.Pairwise (· < ·)) (hm : ∀ k, k ∈ ns ↔ ∃ p ∈ x.parents, k ∈ Hist.forebears h p) :
    (Hist.forebears (h ++ [x]) h.length).reverse = ns ++ [h.length] := by
  have L' := low_more L hp
  have hlt : ∀ k ∈ ns, k < h.length := fun k hk => by
    obtain ⟨p, _, m⟩ := (hm k).mp hk
    exact fb_lt h p k m
  refine up_ext (List.pairwise_reverse.mpr (fb_down _ _)) ?_ fun k => ?_
  · refine List.pairwise_append.mpr ⟨hs, List.pairwise_singleton _ _, fun a ha b hb => ?_⟩
    rw [List.mem_singleton.mp hb]
    exact hlt a ha
  · rw [List.mem_reverse, List.mem_append, List.mem_singleton, hm]
    unfold Hist.forebears
    rw [List.length_append, List.length_singleton]
    show k ∈ (if [h.length].contains h.length = true then h.length :: Hist.reachFrom (h ++ [x]) h.length (Hist.parentsOf (h ++ [x]) h.length ++ [h.length]) else Hist.reachFrom (h ++ [x]) h.length [h.length]) ↔ _
    rw [if_pos (List.contains_iff_mem.mpr (List.mem_singleton.mpr rfl)), List.mem_cons, reach_old h x _ _ (Nat.le_refl _), reach_iff L, par_new]
    constructor
    · rintro (e | ⟨w, hw, hl, ha⟩)
      · exact .inr e
      · rcases List.mem_append.mp hw with hw | hw
        · exact .inl ⟨w, hw, (fb_iff L (hp w hw)).mpr ha⟩
        · rw [List.mem_singleton.mp hw] at hl
          exact absurd hl (Nat.lt_irrefl _)
    · rintro (⟨p, m, hk⟩ | e)
      · exact .inr ⟨p, List.mem_append_left _ m, hp p m, (fb_iff L (hp p m)).mp hk⟩
      · exact .inl e

def nearStep (h : Book) (acc : List Nat) (x : Nat) : List Nat := if acc.filter (fun y => Hist.isForebear h x y) = [] then acc ++ [x] else acc
def nearLoop (h : Book) (l : List Nat) (acc : List Nat) : List Nat := l.foldl (nearStep h) acc
def inBoth (h : Book) (u v : Nat) : List Nat := (Hist.forebears h u).filter fun (x : Nat) => Hist.isForebear h x v
theorem both_down (h : Book) (u v : Nat) : (inBoth h u v).Pairwise (· > ·) := (fb_down h u).filter _
def good (h : Book) (c : List Nat) (x : Nat) : Bool := !c.any fun (y : Nat) => y != x && Hist.isForebear h x y
theorem good_false {h : Book} {c : List Nat} {x : Nat} (e : good h c x = false) : ∃ y ∈ c, y ≠ x ∧ Hist.isForebear h x y = true := by
  unfold good at e
  rw [Bool.not_eq_false', List.any_eq_true] at e
  obtain ⟨y, hy, q⟩ := e
  rw [Bool.and_eq_true] at q
  exact ⟨y, hy, by simpa using q.1, q.2⟩
theorem good_of {h : Book} {c : List Nat} {x y : Nat} (hy : y ∈ c) (ne : y ≠ x) (f : Hist.isForebear h x y = true) : good h c x = false := by
  unfold good
  rw [Bool.not_eq_false', List.any_eq_true]
  exact ⟨y, hy, by rw [Bool.and_eq_true]; exact ⟨by simpa using ne, f⟩⟩
theorem good_over {h : Book} (L : Low h) {c : List Nat} (hc : ∀ k ∈ c, k < h.length) : ∀ (n : Nat) (x : Nat), x ∈ c → h.length ≤ x + n → ∃ z ∈ c, good h c z = true ∧ Anc h z x
  | 0, x, hx, hn => absurd (hc x hx) (by omega)
  | n + 1, x, hx, hn => by
    cases e : good h c x with
    | true => exact ⟨x, hx, e, .self _⟩
    | false =>
      obtain ⟨y, hy, ne, f⟩ := good_false e
      have a := (isF_iff L (hc y hy)).mp f
      have l := a.le L
      obtain ⟨z, hz, g, az⟩ := good_over L hc n y hy (by omega)
      exact ⟨z, hz, g, az.trans a⟩
theorem near_at {h : Book} (L : Low h) {c : List Nat} (hc : ∀ k ∈ c, k < h.length) (hd : c.Pairwise (· > ·)) : ∀ (l pre : List Nat), c = pre ++ l → nearLoop h l (pre.filter (good h c)) = c.filter (good h c)
  | [], pre, e => by
    rw [List.append_nil] at e
    rw [← e]
    rfl
  | x :: l, pre, e => by
    have hx : x ∈ c := by rw [e]; exact List.mem_append_right _ List.mem_cons_self
    have step : nearStep h (pre.filter (good h c)) x = (pre ++ [x]).filter (good h c) := by
      unfold nearStep
      rw [List.filter_append]
      cases g : good h c x with
      | true =>
        have e1 : [x].filter (good h c) = [x] := by rw [List.filter_cons, g]; rfl
        rw [e1, if_pos]
        rw [List.filter_eq_nil_iff]
        intro y hy f
        obtain ⟨hy1, _⟩ := List.mem_filter.mp hy
        have hyc : y ∈ c := by rw [e]; exact List.mem_append_left _ hy1
        have ne : y ≠ x := by
          have d := (List.pairwise_append.mp (e ▸ hd)).2.2 y hy1 x List.mem_cons_self
          omega
        rw [good_of hyc ne f] at g
        cases g
      | false =>
        have e1 : [x].filter (good h c) = [] := by rw [List.filter_cons, g]; rfl
        rw [e1, List.append_nil, if_neg]
        intro z
        obtain ⟨y, hy, ne, f⟩ := good_false g
        obtain ⟨w, hw, gw, aw⟩ := good_over L hc h.length y hy (by omega)
        have ay := (isF_iff L (hc y hy)).mp f
        have aw' := aw.trans ay
        have l1 := aw.le L
        have l2 := ay.le L
        have hwp : w ∈ pre := by
          rw [e] at hw
          rcases List.mem_append.mp hw with m | m
          · exact m
          · rcases List.mem_cons.mp m with m | m
            · exact absurd l1 (by omega)
            · have d := (List.pairwise_cons.mp (List.pairwise_append.mp (e ▸ hd)).2.1).1 w m
              omega
        rw [List.filter_eq_nil_iff] at z
        exact z w (List.mem_filter.mpr ⟨hwp, gw⟩) ((isF_iff L (hc w hw)).mpr aw')
    show nearLoop h l (nearStep h (pre.filter (good h c)) x) = _
    rw [step]
    exact near_at L hc hd l (pre ++ [x]) (by rw [e, List.append_assoc]; rfl)
theorem nearest_eq {h : Book} (L : Low h) (u v : Nat) : nearLoop h (inBoth h u v) [] = Hist.nearest h u v := by
  have q := near_at L (c := inBoth h u v) (fun k hk => fb_lt h u k (List.mem_filter.mp hk).1) (both_down h u v) (inBoth h u v) [] rfl
  rw [List.filter_nil] at q
  rw [q]
  rfl
theorem nearest_lt {h : Book} {u v k : Nat} (hk : k ∈ Hist.nearest h u v) : k < h.length := by
  unfold Hist.nearest at hk
  exact fb_lt h u k (List.mem_filter.mp (List.mem_filter.mp hk).1).1
theorem nearLoop_len (h : Book) : ∀ (l acc : List Nat), (nearLoop h l acc).length ≤ acc.length + l.length
  | [], acc => Nat.le_refl _
  | x :: l, acc => by
    have q := nearLoop_len h l (nearStep h acc x)
    show (nearLoop h l (nearStep h acc x)).length ≤ _
    have : (nearStep h acc x).length ≤ acc.length + 1 := by
      unfold nearStep
      split
      · rw [List.length_append]; exact Nat.le_refl _
      · exact Nat.le_succ _
    rw [List.length_cons]
    omega

def putO : List (Option Nat) → List Nat → Nat → List Nat → List Nat
  | [], _, _, f => f
  | some k :: r, src, i, f => putO r src (i + 1) (f.set k (src.getD i 0))
  | none :: r, src, i, f => putO r src (i + 1) f
theorem putO_len : ∀ (pl : List (Option Nat)) (src : List Nat) (i : Nat) (f : List Nat), (putO pl src i f).length = f.length
  | [], _, _, _ => rfl
  | some k :: r, src, i, f => by
    show (putO r src (i + 1) (f.set k (src.getD i 0))).length = _
    rw [putO_len, List.length_set]
  | none :: r, src, i, f => putO_len r src (i + 1) f
theorem putO_app : ∀ (pl : List (Option Nat)) (x : Option Nat) (src : List Nat) (i : Nat) (f : List Nat), putO (pl ++ [x]) src i f = putO [x] src (i + pl.length) (putO pl src i f)
  | [], x, src, i, f => rfl
  | some k :: r, x, src, i, f => by
    show putO (r ++ [x]) src (i + 1) (f.set k (src.getD i 0)) = _
    rw [putO_app r x, List.length_cons, show i + 1 + r.length = i + (r.length + 1) by omega]
    rfl
  | none :: r, x, src, i, f => by
    show putO (r ++ [x]) src (i + 1) f = _
    rw [putO_app r x, List.length_cons, show i + 1 + r.length = i + (r.length + 1) by omega]
    rfl
theorem rise_no : ∀ (r : List (Option Nat)) (k n x : Nat), Rise k r n → x < k → r.findIdx? (fun o => o == some x) = none
  | [], _, _, _, _, _ => rfl
  | none :: r, k, n, x, h, hx => by
    rw [List.findIdx?_cons, rise_no r k n x h hx]
    rfl
  | some j :: r, k, n, x, h, hx => by
    have hj := h.1
    rw [List.findIdx?_cons, rise_no r (j + 1) n x h.2 (by omega)]
    have e : ((some j : Option Nat) == some x) = false := by
      simp only [beq_eq_false_iff_ne, ne_eq, Option.some.injEq]
      omega
    rw [e]
    rfl
theorem putO_get : ∀ (pl : List (Option Nat)) (src : List Nat) (i k n : Nat) (f : List Nat), Rise k pl n → f.length = n → ∀ x, (putO pl src i f)[x]? = match pl.findIdx? (fun o => o == some x) with
    | some j => some (src.getD (i + j) 0)
    | none => f[x]?
  | [], _, _, _, _, _, _, _, _ => rfl
  | none :: r, src, i, k, n, f, h, hf, x => by
    show (putO r src (i + 1) f)[x]? = _
    rw [putO_get r src (i + 1) k n f h hf x, List.findIdx?_cons]
    have e : ((none : Option Nat) == some x) = false := rfl
    rw [e]
    cases q : r.findIdx? (fun o => o == some x) with
    | none => rfl
    | some j =>
      show some (src.getD (i + 1 + j) 0) = some (src.getD (i + (j + 1)) 0)
      rw [show i + 1 + j = i + (j + 1) by omega]
  | some j :: r, src, i, k, n, f, h, hf, x => by
    show (putO r src (i + 1) (f.set j (src.getD i 0)))[x]? = _
    rw [putO_get r src (i + 1) (j + 1) n _ h.2 (by rw [List.length_set, hf]) x, List.findIdx?_cons]
    by_cases e : j = x
    · subst e
      rw [rise_no r (j + 1) n j h.2 (Nat.lt_succ_self _)]
      have e1 : ((some j : Option Nat) == some j) = true := by simp
      rw [e1]
      have hn : j < f.length := by
        rw [hf]
        have gen : ∀ (r : List (Option Nat)) (k : Nat), Rise k r n → k ≤ n := by
          intro r
          induction r with
          | nil => intro k h; exact h
          | cons a r ih =>
            intro k h
            cases a with
            | none => exact ih k h
            | some j =>
              have := ih (j + 1) h.2
              have := h.1
              omega
        exact gen r (j + 1) h.2
      show (f.set j (src.getD i 0))[j]? = some (src.getD (i + 0) 0)
      rw [List.getElem?_set_self hn]
      rfl
    · have e1 : ((some j : Option Nat) == some x) = false := by simpa using e
      rw [e1]
      cases q : r.findIdx? (fun o => o == some x) with
      | none =>
        show (f.set j (src.getD i 0))[x]? = f[x]?
        rw [List.getElem?_set_ne e]
      | some j' =>
        show some (src.getD (i + 1 + j') 0) = some (src.getD (i + (j' + 1)) 0)
        rw [show i + 1 + j' = i + (j' + 1) by omega]
def origStep (h : Book) (d : Doc) (f : List Nat) (p : Nat) : List Nat := putO (Hist.places (Hist.docOf h p) d) ((Hist.origins h).getD p []) 0 f
def origP (h : Book) (d : Doc) (ps : List Nat) (n : Nat) : List Nat := ps.reverse.foldl (origStep h d) (List.replicate d.length n)
theorem origStep_len (h : Book) (d : Doc) (f : List Nat) (p : Nat) : (origStep h d f p).length = f.length := putO_len _ _ _ _
theorem orig_foldl_len (h : Book) (d : Doc) : ∀ (ps : List Nat) (f : List Nat), (ps.foldl (origStep h d) f).length = f.length
  | [], _ => rfl
  | p :: ps, f => by
    show (ps.foldl (origStep h d) (origStep h d f p)).length = _
    rw [orig_foldl_len h d ps, origStep_len]
theorem origins_fold (h : Book) : ∀ n : Nat, ((List.range n).foldl (fun (k : List (List Nat)) (v : Nat) => k ++ [Hist.originsOf h k v]) []).length = n
  | 0 => rfl
  | n + 1 => by
    rw [List.range_succ, List.foldl_append]
    show (_ ++ [_]).length = _
    rw [List.length_append, origins_fold h n]
    rfl
theorem origins_len (h : Book) : (Hist.origins h).length = h.length := origins_fold h h.length
theorem originsOf_len (h : Book) (k : List (List Nat)) (v : Nat) : (Hist.originsOf h k v).length = (Hist.docOf h v).length := by
  unfold Hist.originsOf
  simp
def origUpto (h : Book) (n : Nat) : List (List Nat) := (List.range n).foldl (fun (k : List (List Nat)) (v : Nat) => k ++ [Hist.originsOf h k v]) []
theorem origUpto_succ (h : Book) (n : Nat) : origUpto h (n + 1) = origUpto h n ++ [Hist.originsOf h (origUpto h n) n] := by
  unfold origUpto
  rw [List.range_succ, List.foldl_append]
  rfl
theorem originsOf_old {h : Book} {x : Hist.Version} (L : Low h) {v : Nat} (hv : v < h.length) (k : List (List Nat)) : Hist.originsOf (h ++ [x]) k v = Hist.originsOf h k v := by
  unfold Hist.originsOf
  dsimp only
  have e : (Hist.parentsOf h v).map (fun (p : Nat) => (Hist.places (Hist.docOf (h ++ [x]) p) (Hist.docOf h v), k.getD p [])) = (Hist.parentsOf h v).map (fun (p : Nat) => (Hist.places (Hist.docOf h p) (Hist.docOf h v), k.getD p [])) := by
    refine List.map_congr_left fun p hp => ?_
    rw [doc_old (Nat.lt_trans (L v p hp) hv)]
  rw [doc_old hv, par_old hv, e]
theorem origUpto_old {h : Book} {x : Hist.Version} (L : Low h) : ∀ n, n ≤ h.length → origUpto (h ++ [x]) n = origUpto h n
  | 0, _ => rfl
  | n + 1, hn => by
    rw [origUpto_succ, origUpto_succ, origUpto_old L n (by omega), originsOf_old L (by omega)]
theorem origins_more {h : Book} {x : Hist.Version} (L : Low h) : Hist.origins (h ++ [x]) = Hist.origins h ++ [Hist.originsOf (h ++ [x]) (Hist.origins h) h.length] := by
  have e1 : Hist.origins (h ++ [x]) = origUpto (h ++ [x]) (h.length + 1) := by
    show origUpto (h ++ [x]) (h ++ [x]).length = _
    rw [List.length_append, List.length_singleton]
  rw [e1, origUpto_succ, origUpto_old L h.length (Nat.le_refl _)]
  rfl
theorem origins_old {h : Book} {x : Hist.Version} (L : Low h) {v : Nat} (hv : v < h.length) : (Hist.origins (h ++ [x])).getD v [] = (Hist.origins h).getD v [] := by
  rw [origins_more L, List.getD_eq_getElem?_getD, List.getD_eq_getElem?_getD, List.getElem?_append_left (by rw [origins_len]; exact hv)]
theorem origins_new {h : Book} {x : Hist.Version} (L : Low h) : (Hist.origins (h ++ [x])).getD h.length [] = Hist.originsOf (h ++ [x]) (Hist.origins h) h.length := by
  rw [origins_more L, List.getD_eq_getElem?_getD, List.getElem?_append_right (by rw [origins_len]; exact Nat.le_refl _), origins_len, Nat.sub_self]
  rfl
theorem origins_at_len (h : Book) (L : Low h) {v : Nat} (hv : v < h.length) : ((Hist.origins h).getD v []).length = (Hist.docOf h v).length := by
  have gen : ∀ n, n ≤ h.length → ∀ v, v < n → ((origUpto h n).getD v []).length = (Hist.docOf h v).length := by
    intro n
    induction n with
    | zero => intro _ v hv; exact absurd hv (Nat.not_lt_zero _)
    | succ n ih =>
      intro hn v hv
      have hl : (origUpto h n).length = n := origins_fold h n
      rw [origUpto_succ, List.getD_eq_getElem?_getD]
      by_cases c : v < n
      · rw [List.getElem?_append_left (by omega), ← List.getD_eq_getElem?_getD]
        exact ih (by omega) v c
      · have e : v = n := by omega
        subst e
        rw [List.getElem?_append_right (by omega), hl, Nat.sub_self]
        exact originsOf_len h _ v
  exact gen h.length (Nat.le_refl _) v hv
theorem orig_eq {h : Book} {x : Hist.Version} (L : Low h) (hp : ∀ p ∈ x.parents, p < h.length) : Hist.originsOf (h ++ [x]) (Hist.origins h) h.length = origP h x.doc x.parents h.length := by
  have fold : ∀ (ps : List Nat), (∀ p ∈ ps, p < h.length) → ∀ i, i < x.doc.length → (ps.reverse.foldl (origStep h x.doc) (List.replicate x.doc.length h.length))[i]? =
      some (((ps.map fun (p : Nat) => (Hist.places (Hist.docOf h p) x.doc, (Hist.origins h).getD p [])).findSome? fun (y : List (Option Nat) × List Nat) => (y.1.findIdx? fun (o : Option Nat) => o == some i).map fun (j : Nat) => y.2.getD j h.length).getD h.length) := by
    intro ps
    induction ps with
    | nil =>
      intro _ i hi
      show (List.replicate x.doc.length h.length)[i]? = some h.length
      rw [List.getElem?_replicate, if_pos hi]
    | cons p ps ih =>
      intro hps i hi
      rw [List.reverse_cons, List.foldl_append]
      show (origStep h x.doc (ps.reverse.foldl (origStep h x.doc) (List.replicate x.doc.length h.length)) p)[i]? = _
      have hlen : (ps.reverse.foldl (origStep h x.doc) (List.replicate x.doc.length h.length)).length = x.doc.length := by rw [orig_foldl_len, List.length_replicate]
      have ih' := ih (fun a ha => hps a (List.mem_cons_of_mem _ ha)) i hi
      generalize ps.reverse.foldl (origStep h x.doc) (List.replicate x.doc.length h.length) = F at hlen ih' ⊢
      unfold origStep
      rw [putO_get _ _ 0 0 x.doc.length _ (rise_places _ _) hlen i, List.map_cons, List.findSome?_cons]
      cases q : (Hist.places (Hist.docOf h p) x.doc).findIdx? (fun o => o == some i) with
      | none =>
        exact ih'
      | some j =>
        have hj : j < ((Hist.origins h).getD p []).length := by
          rw [origins_at_len h L (hps p List.mem_cons_self), ← places_len (Hist.docOf h p) x.doc]
          obtain ⟨hj, _⟩ := List.findIdx?_eq_some_iff_findIdx_eq.mp q
          exact hj
        show some (((Hist.origins h).getD p []).getD (0 + j) 0) = some (((Hist.origins h).getD p []).getD j h.length)
        generalize (Hist.origins h).getD p [] = S at hj ⊢
        rw [Nat.zero_add, List.getD_eq_getElem?_getD, List.getD_eq_getElem?_getD, List.getElem?_eq_getElem hj]
        rfl
  unfold Hist.originsOf
  dsimp only
  rw [doc_new, par_new]
  have e : (x.parents).map (fun (p : Nat) => (Hist.places (Hist.docOf (h ++ [x]) p) x.doc, (Hist.origins h).getD p [])) = (x.parents).map (fun (p : Nat) => (Hist.places (Hist.docOf h p) x.doc, (Hist.origins h).getD p [])) := by
    refine List.map_congr_left fun p m => ?_
    rw [doc_old (hp p m)]
  rw [e]
  refine List.ext_getElem? fun i => ?_
  by_cases hi : i < x.doc.length
  · have q := fold x.parents hp i hi
    unfold origP
    rw [q, List.getElem?_map, List.getElem?_range hi]
    rfl
  · have hl : (origP h x.doc x.parents h.length).length = x.doc.length := by unfold origP; rw [orig_foldl_len, List.length_replicate]
    rw [List.getElem?_eq_none (by rw [List.length_map, List.length_range]; omega), List.getElem?_eq_none (by omega)]
end Wb
namespace PySem
namespace RefX
open PySem.W PySem.Calls PyProof.Rows PySem.HandSPX
def iA (p1 p2 : Pos) : Arguments := { posonlyargs := [], args := [{ arg := "self", annotation := none, pos := p1 }, { arg := "numbers", annotation := none, pos := p2 }], vararg := none, kwonlyargs := [], kw_defaults := [], kwarg := none, defaults := [] }
def iB (q1 q2 q3 q4 : Pos) : List Stmt := [.Assign [.Attribute (.Name "self" q1) "some" q2] (.Name "numbers" q3) q4]
def iS : Scope := { kind := .function, names := [(PySem.Str.ofString "self", .local), (PySem.Str.ofString "numbers", .local)], isGenerator := false, isCoroutine := false, more := [] }
structure RefTxt (K : Frag) (mg : Str → Option Value) (C fI : Addr) : Prop where
  gC : mg "Refused" = some (.ref C)
  cls : ∃ nm q N bs bm sn sub ab col dd k0 k1 k2 k3 k5, K.lookup C = some (excClassObj nm q C N bs bm true sn sub ab col dd k0 k1 k2 k3 k5 "ValueError.__new__") ∧ refsVE bm = true
  sa : findIn K (.ref C) "__setattr__" = some (some (.builtin "object.__setattr__"))
  ga : findIn K (.ref C) "__getattribute__" = some (some (.builtin "BaseException.__getattribute__"))
  gg : findIn K (.ref C) "__getattr__" = some none
  noN : findIn K (.ref C) "some" = some none
  iC : findIn K (.ref C) "__init__" = some (some (.ref fI))
  tC : typeIn K (.ref fI) = some (.type "function")
  kC : keepIn K (.ref C) = true
  exC : subIn K (.ref C) (.type "BaseException") = some true
  tyC : typeIn K (.ref C) = some (.type "type")
  hdC : hasDictIn K C = true
  te : exmOne K (.ref C) (.ref C) = some true
  fn : ∃ (oc : Value) (od : Option Addr) (doc pm : Value) (an : Option Addr) (cdv ct : Value) (osl : Array (Option Value)) (p1 p2 q1 q2 q3 q4 : Pos),
    K.lookup fI = some ⟨oc, od, .func (fnOf "__init__" "Refused.__init__" (iA p1 p2) (iB q1 q2 q3 q4) iS .none .none doc pm an cdv ct), osl⟩ ∧ codeIn K cdv "Refused.__init__" = true
theorem one_size (v : Value) : [v].length ≤ sizeLine := by
  rw [sizeLine_eq]
  exact (by decide : 1 ≤ 16777216)
theorem kept_but {K : Frag} {h h' : Heap} {x : Addr} (X : K.In h) (hx : K.lookup x = none) (k : ∀ b o, b ≠ x → h.get? b = some o → h'.get? b = some o) : K.In h' := fun a o e =>
  k a o (fun z => by rw [z, hx] at e; cases e) (X a o e)
theorem ldC {M : Model} {s : Shared} {name : Str} {scope : Scope} {L a : Addr} {cd : Value} {m : Str → Option Value} {x : Str} {pos : Pos} {v : Value} {Q : Value → Shared → Prop} {A : Around} {E : Value → Shared → Prop} (hn : s.heap.Ns L m) (hv : m x = some v) (h : Q v s)
    (hk : scope.kind = .function := by rfl) (hl : (envOfC name scope L a cd).kindOf x = some .local := by rfl) (hd : (x == ("__debug__" : Str)) = false := by decide) :
    wpAny M A (eval (.Name x pos) (envOfC name scope L a cd)) Q E s := wpAny_Name (wpAny_loadName_local hk hl hn hv h) hd
structure InitEnd (h h' : Heap) (x C dx t1 : Addr) (v : Value) : Prop where
  keep : ∀ b o, b ≠ x → h.get? b = some o → h'.get? b = some o
  obj : h'.get? x = some { cls := .ref C, dict := some dx, data := .fields #[.ref t1, .none, .none, .none, .bool false, .none] }
  dbig : h.objs.size ≤ dx
  dne : dx ≠ x
  ns : h'.Ns1 dx (fun y => if y = "some" then some v else none)
structure OwnMade (h h' : Heap) (e C d : Addr) (v : Value) : Prop where
  keep : ∀ b o, h.get? b = some o → h'.get? b = some o
  new : h.objs.size ≤ e
  obj : ∃ oe vs, h'.get? e = some oe ∧ oe.cls = .ref C ∧ oe.dict = some d ∧ oe.data = .fields vs ∧ vs[1]? = some .none
  dbig : h.objs.size ≤ d
  dne : d ≠ e
  ns : h'.Ns1 d (fun y => if y = "some" then some v else none)
section
variable {prog : Program} {w : World} {A : Around} {E : Value → Shared → Prop} {R : Result → Shared → Prop} {s : Shared} {K : Frag} {mg : Str → Option Value} {C fI : Addr}
theorem ref_init (T : RefTxt K mg C fI) {x t0 : Addr} {v : Value} (X : K.In s.heap) (hlim : s.heap.NoLimit) (hx : s.heap.get? x = some (excO C t0)) (hnx : K.lookup x = none) (hroom : A.depth < recursionLimit)
    (hq : ∀ h' tk dx, InitEnd s.heap h' x C dx t0 v → R (.ok (.ret .none)) { s with heap := h', toks := tk }) :
    codeAny (model prog w) A (.call (.ref fI) ⟨[.ref x, v], []⟩) R s := by
  obtain ⟨oc, od, doc, pm, an, cdv, ct, osl, p1, p2, q1, q2, q3, q4, ho, hcd⟩ := T.fn
  obtain ⟨nm, q, N, bs, bm, sn, sub, ab, col, dd, k0, k1, k2, k3, k5, hC, hbm⟩ := T.cls
  have hcl : clsIn K C = some { name := nm, bases := bs, mro := .ref C :: bm, ns := N, qualname := q, hasDict := true, slotNames := sn, subclasses := sub, abstract := ab, collection := col, hasDel := false } := by unfold clsIn; rw [hC] <;> rfl
  refine Att.call_fn (binds := [("self", .ref x), ("numbers", v)]) X hlim ho hcd hroom (BindsTo.of_eq (by first | rfl | with_unfolding_all rfl)) (by first | rfl | decide | with_unfolding_all rfl) (fun s₁ IC => ?_) rfl rfl rfl
  obtain ⟨h₁, tk₁, rfl⟩ := IC.toInCall.same
  have k : ∀ b o, s.heap.get? b = some o → h₁.get? b = some o := IC.toInCall.keep
  have hn := IC.toInCall.ns
  have hxL : s.heap.objs.size ≠ x := Nat.ne_of_gt (Heap.lt_size hx)
  have X₁ : K.In h₁ := X.keeps k
  have hx₁ := k _ _ hx
  show wpAny _ _ (execs _ _) _ _ _
  refine wpAny_execs_cons (plainObj_wpAny_Assign_Attribute ?_)
  refine ldC (v := v) hn (by first | rfl | with_unfolding_all rfl | kernel_rfl) (ldC (v := .ref x) hn (by first | rfl | with_unfolding_all rfl | kernel_rfl) ?_)
  refine set_plain X₁ (ox := excO C t0) (od := none) ⟨hx₁, rfl, rfl, trivial⟩ T.sa ?_
  refine exc_osa X₁ hx₁ hcl (show refsVE (.ref C :: bm) = true from hbm) rfl T.noN (fun h₃ tk₃ dx k₃ dn dne hx₃ hn₃ => ?_)
  show wpAny _ _ (execs _ _) _ _ _
  have z : s.heap.objs.size < h₁.objs.size := hn.lt
  exact wpAny_execs_nil (hq h₃ tk₃ dx ⟨fun b o hb e => k₃ b o hb (k b o e), hx₃, Nat.le_of_lt (Nat.lt_of_lt_of_le z dn), dne, hn₃⟩)
theorem ref_made (T : RefTxt K mg C fI) {v : Value} (X : K.In s.heap) (hlim : s.heap.NoLimit) (hroom : A.depth + 1 < recursionLimit)
    (hq : ∀ h' tk e d, OwnMade s.heap h' e C d v → R (.ok (.ret (.ref e))) { s with heap := h', toks := tk }) :
    codeAny (model prog w) A (.call (.ref C) ⟨[v], []⟩) R s := by
  obtain ⟨nm, q, N, bs, bm, sn, sub, ab, col, dd, k0, k1, k2, k3, k5, hC, hbm⟩ := T.cls
  obtain ⟨hp, g, dr, tk, os⟩ := s
  have k : ∀ b o, hp.get? b = some o → ((hp.push (kdv_tup [v])).push (excO C hp.objs.size)).get? b = some o := fun b o e => Heap.get?_push_of_some _ (Heap.get?_push_of_some _ e)
  have hget : ((hp.push (kdv_tup [v])).push (excO C hp.objs.size)).get? (hp.objs.size + 1) = some (excO C hp.objs.size) := by heap_get
  have hnx : K.lookup (hp.objs.size + 1) = none := by
    cases e : K.lookup (hp.objs.size + 1) with
    | none => rfl
    | some o =>
      have z : hp.get? (hp.objs.size + 1) = some o := X _ _ e
      exact absurd (Nat.lt_of_succ_lt (Heap.lt_size z)) (Nat.lt_irrefl _)
  refine call_own F.excBase_ValueError (fun X => refsVE_contains X bm hbm) (X _ _ hC) (looks_findIn X T.iC) (fun self => bind_fn X self T.tC) (one_size v) ?_
  refine ref_init (s := ⟨(hp.push (kdv_tup [v])).push (excO C hp.objs.size), g, dr, tk, os⟩) T (X.keeps k) (hlim.keeps k) hget hnx ?_ fun h' tk' dx ⟨k', hx, dn, dne, hns⟩ => ?_
  · show A.depth + 1 < recursionLimit
    exact hroom
  · have old : ∀ b o, hp.get? b = some o → h'.get? b = some o := fun b o e => k' b o (Nat.ne_of_lt (Nat.lt_succ_of_lt (Heap.lt_size e))) (k b o e)
    have z : hp.objs.size + 1 + 1 ≤ dx := by
      first
        | (simpa only [Heap.size_push] using dn)
        | exact dn
        | (have q := dn; rw [Heap.size_push, Heap.size_push] at q; exact q)
    exact ⟨rfl, hq h' tk' (hp.objs.size + 1) dx ⟨old, Nat.le_succ _, ⟨_, _, hx, rfl, rfl, rfl, rfl⟩, Nat.le_trans (Nat.le_trans (Nat.le_succ _) (Nat.le_succ _)) z, dne, hns⟩⟩
end
end RefX
end PySem
namespace L2
open PySem PySem.Spec PyProof.Rows
theorem relO_ref {v : V} {v' : Value} (r : RelV v v') (f : Str) : RelO (List.lookup f [(("some" : Str), v)]) (if f = "some" then some v' else none) := by
  by_cases hw : f = "some"
  · subst hw
    rw [if_pos rfl]
    have q : List.lookup ("some" : Str) [(("some" : Str), v)] = some v := by simp [List.lookup]
    rw [q]
    exact r
  · rw [if_neg hw]
    have qw : (f == ("some" : Str)) = false := by simpa using hw
    have q2 : List.lookup f [(("some" : Str), v)] = none := by simp [List.lookup, qw]
    rw [q2]
    trivial
section
variable {X : Cx} {C fI : Addr}
def tMkRef (C : Addr) (ta : TA) : St → Hp → XK → Prop := fun σ H Q => ta σ H fun vs H1 => ∃ v, vs = [v] ∧ ∀ d, H1 d = none → Q (.ref C) (some d) (upd H1 d (.xd [(("some" : Str), v)]))
theorem pmk_ref {a : Expr} {ta : TA} {p pos : Pos} {k : Nat} (T : PySem.RefX.RefTxt X.K X.mg C fI) (hr : Room k X.A) (ha : PA X [a] ta) (hg : Gl X "Refused" := by rfl)
    (he : starEach (a :: []) X.env = (false, eval a X.env) :: starEach [] X.env := by rfl) (hpl : (backTo pos (starEach [] X.env)).any (·.1) = false := by rfl) :
    PMk X (.Call (.Name "Refused" p) [a] [] pos) (tMkRef C ta) := by
  intro pins s σ H Q I h
  refine wpAny_Call_Name_kw (ld_glob I hg T.gC ?_)
  refine PySem.W.callWith_K (h₀ := X.base) I.ok.mod.kin T.kC (thn (ha.run pos pins s σ H _ I h) fun us s1 hh => ?_) he hpl
  obtain ⟨vs, H1, I1, r1, v, ev, q1⟩ := hh
  subst ev
  refine ⟨I1.kIn, ?_⟩
  cases r1 with
  | cons rv rn =>
    rename_i v' us'
    cases rn
    show wpAny _ _ (call (.ref C) [v']) _ _ _
    have hlim := I1.nolimit
    obtain ⟨hp, g, dr, tk, os⟩ := s1
    refine wpAny_call (PySem.RefX.ref_made T I1.kIn hlim (by have := hr.dp; omega) fun h' tk' e d M => ?_)
    show MkP X pins σ Q (.ref e) ⟨h', g, dr, tk', os⟩
    obtain ⟨oe, fv, hoe, hc, hd, hdat, h1⟩ := M.obj
    have hns := M.ns
    obtain ⟨G', g1, g2⟩ := restrict h' fun b => decide (b ≠ e)
    have gk : ∀ b, b ≠ e → G'.get? b = h'.get? b := fun b hb => g1 b (decide_eq_true hb)
    have ge : G'.get? e = none := g2 e (by simp)
    have old : ∀ b o, hp.get? b = some o → G'.get? b = some o := fun b o q => (gk b (Nat.ne_of_lt (Nat.lt_of_lt_of_le (Heap.lt_size q) M.new))).trans (M.keep b o q)
    have ob : ObjOk X.prog X.w (upd H1 d (.xd [(("some" : Str), v)])) G' d (.xd [(("some" : Str), v)]) :=
      ⟨_, hns.at (fun o q => (gk d M.dne).trans q), fun f => relO_ref rv f⟩
    have J : Inv X pins σ (upd H1 d (.xd [(("some" : Str), v)])) ⟨G', g, dr, tk', os⟩ := I1.laid (t' := tk') old M.dbig ob
    refine ⟨e, oe, fv, ⟨G', g, dr, tk', os⟩, _, .ref C, some d, rfl, J, fun b o q => ?_, ge, hoe, ⟨hc, hd⟩, hdat, h1, ?_, rfl, I1.bare, raises_own T.exC T.tyC, q1 d (I1.hok.fresh M.dbig)⟩
    · by_cases hb : b = e
      · have q' : G'.get? b = some o := q
        rw [hb, ge] at q'; cases q'
      · exact (gk b hb).symm.trans q
    · rw [upd_ne (Ne.symm M.dne)]
      exact I1.hok.fresh M.new
def tRaiseRef (C : Addr) (W : WX) (ta : TA) : TS := fun _ σ H => tMkRef C ta σ H fun cls d H' => W cls d σ H'
theorem ps_raiseRef {a : Expr} {ta : TA} {W : WX} {p pos pos2 : Pos} {k : Nat} (hc : X.calm = true) (T : PySem.RefX.RefTxt X.K X.mg C fI) (hr : Room k X.A) (tk : Takes X W) (ha : PA X [a] ta) (hg : Gl X "Refused" := by rfl)
    (he : starEach (a :: []) X.env = (false, eval a X.env) :: starEach [] X.env := by rfl) (hpl : (backTo pos (starEach [] X.env)).any (·.1) = false := by rfl) :
    PS X (.Raise (some (.Call (.Name "Refused" p) [a] [] pos)) none pos2) (tRaiseRef C W ta) := ps_raise hc tk (pmk_ref T hr ha hg he hpl)
def tByRef (C : Addr) (a : Addr) (cls : Value) (d : Option Addr) (te : TE) : TE := fun σ H Q => te σ H fun x H1 => x = .ref a ∧ cls = .ref C ∧ ∃ (dd : Addr) (v : V), d = some dd ∧ H1 dd = some (.xd [(("some" : Str), v)]) ∧ Q v H1
theorem pe_byRef {a : Addr} {oe : Obj} {cls : Value} {d : Option Addr} {pn : List (Addr × Obj)} {e : Expr} {te : TE} {pos : Pos} (T : PySem.RefX.RefTxt X.K X.mg C fI) (hz : Zc cls d oe) (hf : ∃ vs, oe.data = .fields vs) (he : PE (X.suite a ((a, oe) :: pn)) e te)
    (hb : attributeBase e "some" X.env (eval e X.env) = eval e X.env := by rfl) :
    PE (X.suite a ((a, oe) :: pn)) (.Attribute e "some" pos) (tByRef C a cls d te) := by
  refine ⟨fun pins s σ H Q I h => ?_⟩
  refine attr_of hb (thn (he.run pins s σ H _ I h) fun u s1 hh => ?_)
  obtain ⟨x, H1, I1, rx, ex, ec, dd, v, ed, ea, q⟩ := hh
  subst ex
  obtain rfl : u = Value.ref a := rx
  subst ec
  subst ed
  obtain ⟨ha, _⟩ := I1.pin (a, oe) (List.mem_append_left _ List.mem_cons_self)
  obtain ⟨vs, hd⟩ := hf
  have hx : ObjOk X.prog X.w H1 s1.heap dd (.xd [(("some" : Str), v)]) := I1.hok dd _ ea
  obtain ⟨mA, hns, hr⟩ := hx
  obtain ⟨od, ho, hl⟩ := lookIn_ns hns
  have l : List.lookup ("some" : Str) [(("some" : Str), v)] = some v := by simp [List.lookup]
  obtain ⟨u, hu, ru⟩ := RelO.some_of (v := v) (o := mA "some") (by rw [← l]; exact hr "some")
  have J : PySem.W.InstAt s1.heap a oe C (some od) := ⟨ha, hz.1, by unfold PySem.W.notCls; rw [hd] <;> rfl, by rw [hz.2]; exact ho⟩
  exact HandSPX.exc_get I1.kIn J T.ga T.gg T.exC (PySem.W.findObj_own T.hdC T.noN rfl (by rw [hl, hu])) (handed_of ru) ⟨v, H1, I1.tok _, ru, q⟩
end
end L2

namespace L2
open PySem PySem.Spec PyProof.Rows
theorem if_true_of {c : Bool} {A B : Prop} (hc : c = true) (h : A) : if c = true then A else B := by
  rw [if_pos hc]
  exact h
theorem if_false_of {c : Bool} {A B : Prop} (hc : c = false) (h : B) : if c = true then A else B := by
  rw [hc, if_neg Bool.false_ne_true]
  exact h
end L2
namespace L2
open PySem PySem.Spec PyProof.Rows
theorem wb_ints_each : ∀ {us : List Value} {ks : List Int}, us.length = ks.length → (∀ (j : Nat) (v : Value), us[j]? = some v → ∃ k t, ks[j]? = some k ∧ v = Value.int k t) → IntsAre us ks
  | [], [], _, _ => .nil
  | [], _ :: _, h, _ => absurd h (by simp)
  | _ :: _, [], h, _ => absurd h (by simp)
  | u :: us, k :: ks, h, f => by
    obtain ⟨k', t, e1, e2⟩ := f 0 u rfl
    have e : k = k' := Option.some.inj e1
    subst e
    subst e2
    exact .cons k t (wb_ints_each (by simpa using h) fun j v e => f (j + 1) v e)
section
variable {X : Cx}
def rSortDI : List V → Hp → VK → Prop := fun xs H Q => ∃ (a : Addr) (kvs : List (Key × V)) (ks : List Int), xs = [.ref a] ∧ Rd H a (.dK kvs) ∧ kvs.map (·.1) = ks.map Sum.inl ∧
    ∀ (ys : List Int) (p : Addr), ys.Perm ks → ys.Pairwise (· ≤ ·) → H p = none → Q (.ref p) (upd H p (.lst (ys.map V.int)))
theorem cr_sortedDI (hcalm : X.calm = true) : CallR X (.builtin "sorted") rSortDI := by
  intro pins s σ H xs us Q I r q
  obtain ⟨a, kvs, ks, ex, hd, hks, q⟩ := q
  subst ex
  obtain ⟨u, eu, rx⟩ := vals1 r
  subst eu
  cases rx
  obtain ⟨z, lo, vs, rel, dd⟩ := dk_rd I.hok hd
  obtain ⟨ep, hat⟩ := dd.dictAt
  have hkeys : vs.map (·.1) = ks.map Sum.inl := rel.keys.symm.trans hks
  have hl : vs.length = ks.length := by
    have e := congrArg List.length hkeys
    rw [List.length_map, List.length_map] at e
    exact e
  have hlk : kvs.length = ks.length := by
    have e := congrArg List.length hks
    rw [List.length_map, List.length_map] at e
    exact e
  have h16 : vs.length ≤ sizeLine := by rw [hl, ← hlk]; exact z
  refine Calls.call_function_entry PyProof.Rows.kind_sorted PyProof.Rows.plain_sorted PyProof.Rows.entry_sorted (PyProof.Rows.args_sorted1 _) ?_
  unfold Builtin.«sorted»
  refine wpAny_bind (m := checkCount "sorted" 1 1 _) (wpAny_pure ?_)
  refine wpAny_bind (PySem.W.kdu_collect (A := X.A.in1) (PySem.W.kdl_dict (knd := mixKind X.prog X.w) (kvs := vs) (ep := ep) lo) (I.ok.hd hcalm) hat h16 fun h' tk acc hk hacc => ?_)
  have hal : acc.toList.length = ks.length := by rw [Array.length_toList, hacc.1, hl]
  have hz : acc.toList.length ≤ sizeLine := by rw [hal, ← hl]; exact h16
  have hS : IntsAre acc.toList ks := wb_ints_each hal fun j v e => by
    obtain ⟨k, x, e1, e2⟩ := hacc.2 j v (by rw [← Array.getElem?_toList]; exact e)
    have e3 : (vs.map (·.1))[j]? = some k := by rw [List.getElem?_map, e1]; rfl
    rw [hkeys, List.getElem?_map] at e3
    cases e4 : ks[j]? with
    | none => rw [e4] at e3; cases e3
    | some y =>
      rw [e4] at e3
      have e5 : Sum.inl y = k := Option.some.inj e3
      subst e5
      rcases keyIs_shape (show keyIs (Sum.inl y) v = true from e2) with ⟨i, t, ek, ev⟩ | ⟨z, t, ek, ev⟩
      · cases ek
        exact ⟨y, t, rfl, ev⟩
      · cases ek
  have I1 : Inv X pins σ H { s with heap := h', toks := tk } := I.kept hk
  refine wpAny_bind (wpAny_newList ?_ hz)
  have hoL : (h'.push (seqObj "list" acc.toList.toArray 0)).get? h'.objs.size = some (seqObj "list" acc.toList.toArray 0) := Heap.get?_push_size _ rfl
  show wpAny _ _ _ _ _ { s with heap := h'.push (seqObj "list" acc.toList.toArray 0), toks := tk }
  refine wpAny_bind (wpAny_holding (wpAny_call_entry PyProof.Rows.slot_list_sort ⟨_, hoL, rfl⟩ PyProof.Rows.entry_list_sort
    (SrtO.list_sort_ord (s := { s with heap := h'.push (seqObj "list" acc.toList.toArray 0), toks := tk }) SrtO.swo_int hoL hz (fun h2 => SrtO.ints_sortable hS h2) fun out h1 h2 => ⟨_, rfl, ?_⟩) (PyProof.Rows.args_list_sort _)))
  obtain ⟨k1, k2, k3⟩ := SrtO.ints_out hS h1 h2
  obtain ⟨e', he'⟩ := PyProof.Rows.sortedHeap_at (vs := acc.toList) (out := out.toArray) hoL
  have hlen : ((out.map SrtO.iv).map V.int).length ≤ sizeLine := by
    rw [List.length_map, k2.length_eq, ← hl]
    exact h16
  refine wpAny_pure ⟨_, rfl, .ref h'.objs.size, upd H h'.objs.size (.lst ((out.map SrtO.iv).map V.int)), I1.laid (t' := tk) (fun b u e => ?_) (Nat.le_refl _)
    (show ObjOk X.prog X.w _ _ _ (.lst ((out.map SrtO.iv).map V.int)) from ⟨hlen, out, e', vals_of_ints k1, he'⟩), rfl, q (out.map SrtO.iv) _ k2 k3 (I1.hok.fresh (Nat.le_refl _))⟩
  have hb : b < h'.objs.size := Heap.lt_size e
  rw [PyProof.Rows.sortedHeap_old (Nat.ne_of_lt hb) (by rw [size_push']; exact Nat.lt_succ_of_lt hb)]
  exact Heap.get?_push_of_some _ e
end
end L2
namespace RT
open PySem PySem.Spec PyProof.Rows L2 PySem.Calls PySem.W
section
variable {prog : Program} {w : World} {A : Around} {E : Value → Shared → Prop} {s : Shared}
theorem wb_init_rev {it l : Addr} {items : Array Value} {R : Result → Shared → Prop} (hh : A.handled = none) (hit : s.heap.IsRevIter it l ((items.size : Int) - 1)) (hl : s.heap.IsList l items) (hne : l ≠ it) (hn : items.size ≤ sizeLine)
    (S : Addr) (hSi : S ≠ it) (hSl : S ≠ l) (hS : s.heap.get? S = some { cls := .type "list", data := .seq #[] })
    (hR : ∀ h' tk acc' c', (∀ b o, b ≠ S → b ≠ it → s.heap.get? b = some o → h'.get? b = some o) → h'.get? S = some { cls := .type "list", dict := none, data := .seq acc' c', slots := #[] } → ItemsOf (fun i v => items[items.size - 1 - i]? = some v) acc' items.size → R (.ok (.ret .none)) { s with heap := h', toks := tk }) :
    wpAny (model prog w) A.in1 (Builtin.«list.__init__» ⟨[.ref S, .ref it], []⟩)
      (fun fin s' => match fin with | .done f => R (.ok f) s' | .again c' => c'.quiet = true ∧ codeAny (model prog w) A c' R s') (fun e s' => R (.error e) s') s := by
  have W := (Walks.listRev (prog := prog) (w := w) (A := A.in1) hh it l hne items).toS
  have hSf : S ∉ [it, l] := by simp only [List.mem_cons, List.not_mem_nil, or_false, not_or]; exact ⟨hSi, hSl⟩
  show wpAny _ _ (do let old ← Builtin.List.listItems (.ref S); Builtin.List.listUpdate (.ref S) (fun _ => #[]); letGo old.toList.reverse; Builtin.List.listExtendWith (.ref S) (.ref it) .none) _ _ s
  refine wpAny_bind ?_
  unfold Builtin.List.listItems
  refine wpAny_bind (wpAny_seqItems hS rfl (wpAny_pure ?_))
  show wpAny _ _ (updateSeq S (fun _ => #[]) >>= fun _ => letGo (#[] : Array Value).toList.reverse >>= fun _ => Builtin.List.listExtendWith (.ref S) (.ref it) .none) _ _ s
  refine wpAny_bind (wpAny_updateSeq hS rfl ?_)
  have hS₂ := Heap.get?_update_self (Obj.mapSeq (fun _ => (#[] : Array Value))) hS rfl
  have oth : ∀ b o, b ≠ S → s.heap.get? b = some o → (s.heap.update S (Obj.mapSeq (fun _ => (#[] : Array Value)))).get? b = some o :=
    fun b o hb e => (Heap.get?_update_other _ _ (Ne.symm hb)).trans e
  refine wpAny_bind (wpAny_letGo ?_)
  have hit1 : (s.heap.update S (Obj.mapSeq (fun _ => (#[] : Array Value)))).IsRevIter it l ((items.size : Int) - 1) := hit.at fun o e => oth it o (Ne.symm hSi) e
  have hl1 : (s.heap.update S (Obj.mapSeq (fun _ => (#[] : Array Value)))).IsList l items := hl.at fun o e => oth l o (Ne.symm hSl) e
  have hT : ({ s with heap := s.heap.update S (Obj.mapSeq (fun _ => (#[] : Array Value))) } : Shared).TypeIs (.ref it) "list_reverseiterator" := Heap.IsRevIter.typeIs (s := { s with heap := s.heap.update S (Obj.mapSeq (fun _ => (#[] : Array Value))) }) hit1
  have h1 : Builtin.List.listSameRef (.ref S) (.ref it) = false := by simp [Builtin.List.listSameRef, hSi]
  unfold Builtin.List.listExtendWith
  refine wpAny_bind (wpAny_typeOf hT ?_)
  rw [if_neg (by rw [h1]; decide)]
  refine wpAny_bind (wpAny_pyIter_revIter (s := { s with heap := s.heap.update S (Obj.mapSeq (fun _ => (#[] : Array Value))) }) hit1 ?_)
  refine wpAny_bind (wpAny_holding ?_)
  unfold Builtin.List.listLengthHint
  refine wpAny_bind (wpAny_specialOf hT nolen_lri ?_)
  show wpAny _ A.in1 (specialOf (Value.ref it) (Str.ofString "__length_hint__") >>= _) _ _ _
  refine wpAny_bind (wpAny_specialOf hT hint_lri ?_)
  generalize hid : ("list_reverseiterator.__length_hint__" : String) = id0
  wp_delta
  rw [show splitId id0 = some ("list_reverseiterator", "__length_hint__") from by subst hid; decide +kernel]
  subst hid
  refine wpAny_bind (wpAny_isInstance (b := true) hT (by rw [isSubtype_type]; kernel_rfl) ?_)
  refine wpAny_pure ?_
  rw [if_neg (by decide)]
  have e0 : ((items.size : Nat) : Int) - 1 - ((0 : Nat) : Int) = (items.size : Int) - 1 := by omega
  refine wpAny_pure ⟨plainId_quiet F.plain_extend_loop _, codeAny_extend_loopS W hn _ hSf _ items.size 0 _ _ _ rfl (Nat.zero_le _) ⟨Nat.zero_le _, by rw [e0]; exact hit1, hl1⟩ hS₂ (ItemsOf.nil _) fun s' acc' c' hm hS' hacc => ?_⟩
  rw [Moved.eq_with hm]
  refine hR s'.heap s'.toks acc' c' (fun b o hb hbi e => hm.heap b o (fun hmem => ?_) (oth b o hb e)) hS' hacc
  rcases List.mem_cons.mp hmem with e' | hmem
  · exact hb e'
  · exact hbi (List.mem_singleton.mp hmem)
theorem wb_list_rev {it l : Addr} {items : Array Value} {Q : Value → Shared → Prop} (hh : A.handled = none) (hit : s.heap.IsRevIter it l ((items.size : Int) - 1)) (hl : s.heap.IsList l items) (hne : l ≠ it) (hn : items.size ≤ sizeLine)
    (hQ : ∀ h' tk acc' c', (∀ b o, b ≠ it → s.heap.get? b = some o → h'.get? b = some o) → h'.get? s.heap.objs.size = some { cls := .type "list", dict := none, data := .seq acc' c', slots := #[] } → ItemsOf (fun i v => items[items.size - 1 - i]? = some v) acc' items.size → Q (.ref s.heap.objs.size) { s with heap := h', toks := tk }) :
    wpAny (model prog w) A (call (.type "list") [.ref it]) Q E s := by
  refine callType_codes (Q₁ := fun obj s₁ => obj = .ref s.heap.objs.size ∧ s₁ = { s with heap := s.heap.push { cls := .type "list", data := .seq #[] } }) PySem.F.called_list (PySem.F.typeCall_list_1 _) PySem.F.entry_list_init
    (code_list_new _ ⟨rfl, rfl⟩) fun obj s₁ h₁ => ?_
  obtain ⟨rfl, rfl⟩ := h₁
  have hS : (s.heap.push { cls := .type "list", data := .seq #[] }).get? s.heap.objs.size = some { cls := .type "list", data := .seq #[] } := Heap.get?_push_size _ rfl
  obtain ⟨oi, hoi, _⟩ := id hit
  obtain ⟨ol, hol, _⟩ := id hl
  have hSi : s.heap.objs.size ≠ it := Nat.ne_of_gt (Heap.lt_size hoi)
  have hSl : s.heap.objs.size ≠ l := Nat.ne_of_gt (Heap.lt_size hol)
  refine ⟨⟨_, hS, rfl⟩, PySem.F.args_list_init_2 _ _, wb_init_rev (A := A.in1) (s := { s with heap := s.heap.push { cls := .type "list", data := .seq #[] } }) hh (hit.at fun o e => Heap.get?_push_of_some _ e) (hl.push _) hne hn _ hSi hSl hS (fun h' tk acc' c' hk hS' hacc => ?_)⟩
  exact ⟨rfl, hQ h' tk acc' c' (fun b o hb e => hk b o (Nat.ne_of_lt (Heap.lt_size e)) hb (Heap.get?_push_of_some _ e)) hS' hacc⟩
end
def tListRev (K : PySem.W.Frag) (te : TE) : TE := fun σ H Q => te σ H fun v H1 => ∃ (a : Addr) (xs : List V), v = .ref a ∧ SqL K H1 a xs ∧ ∀ q, H1 q = none → Q (.ref q) (upd H1 q (.lst xs.reverse))
section
variable {X : Cx}
theorem pe_listRev {e : Expr} {te : TE} {p p2 pos pos2 : Pos} (hc : X.calm = true) (hg : Gl X "list") (hm : X.mg "list" = none) (hg2 : Gl X "reversed") (hm2 : X.mg "reversed" = none) (hb : bootBuiltins "list" = some (.type "list")) (he : PE X e te)
    (hs : starEach [e] X.env = (false, eval e X.env) :: starEach [] X.env := by rfl)
    (hs2 : starEach [.Call (.Name "reversed" p2) [e] [] pos2] X.env = (false, eval (.Call (.Name "reversed" p2) [e] [] pos2) X.env) :: starEach [] X.env := by rfl) :
    PE X (.Call (.Name "list" p) [.Call (.Name "reversed" p2) [e] [] pos2] [] pos) (tListRev X.K te) := by
  refine ⟨fun pins s σ H Q I h => ?_⟩
  refine Call_ (ld_blt I hg hm hb (PyProof.Rows.callWith_type1 (args_cons (Call_ (ld_blt I hg2 hm2 PyProof.Rows.boot_reversed (PyProof.Rows.callWith_type1 (args_cons (thn (he.run pins s σ H _ I h) fun u s1 ⟨v, H1, I1, r1, q1⟩ => args_nil ?_) hs) hs rfl))) hs2) hs2 rfl))
  obtain ⟨a, xs, ev, hq, q⟩ := q1
  subst ev
  obtain rfl : u = Value.ref a := r1
  obtain ⟨its, rv, p', hz⟩ := I1.list hq
  refine call_reversed_list p'.isList (args_nil ?_)
  have k0 : ∀ b o, s1.heap.get? b = some o → (s1.heap.push (revObj a ((its.toArray.size : Int) - 1))).get? b = some o := fun b o e => Heap.get?_push_of_some _ e
  have I2 : Inv X pins σ H1 { s1 with heap := s1.heap.push (revObj a ((its.toArray.size : Int) - 1)) } := I1.kept (t' := s1.toks) k0
  obtain ⟨f0, f1, f2, f3, f4, f5⟩ := I1.fpOk (H' := H1) (b := s1.heap.objs.size) (Nat.le_refl _) (I1.hok.fresh (Nat.le_refl _))
  have hl := p'.isList
  obtain ⟨ol, hol, _⟩ := id hl
  have hne : a ≠ s1.heap.objs.size := Nat.ne_of_lt (Heap.lt_size hol)
  have hn : its.toArray.size ≤ sizeLine := by rw [List.size_toArray, ← rv.length]; exact hz
  have hsz : (s1.heap.push (revObj a ((its.toArray.size : Int) - 1))).objs.size = s1.heap.objs.size + 1 := size_push' _ _
  refine wb_list_rev (s := { s1 with heap := s1.heap.push (revObj a ((its.toArray.size : Int) - 1)) }) (I1.ok.hd hc) ⟨_, Heap.get?_push_size _ rfl, rfl, rfl⟩ (hl.push _) hne hn fun h' tk acc c hk hD hi => ?_
  have hD' : h'.get? (s1.heap.objs.size + 1) = some { cls := .type "list", dict := none, data := .seq acc c, slots := #[] } := by
    rw [← hsz]
    exact hD
  have hk1 : ∀ b o, s1.heap.get? b = some o → h'.get? b = some o := fun b o e => hk b o (Nat.ne_of_lt (Heap.lt_size e)) (k0 b o e)
  have fin : Inv X pins σ (upd H1 (s1.heap.objs.size + 1) (.lst xs.reverse)) { s1 with heap := h', toks := tk } := by
    refine I1.laid (t' := tk) hk1 (Nat.le_succ _) (show ObjOk X.prog X.w _ _ _ (.lst xs.reverse) from ⟨by rw [List.length_reverse]; exact hz, acc.toList, c, vals_rev rv hi, ?_⟩)
    rw [Array.toArray_toList]
    exact hD'
  refine ⟨.ref (s1.heap.objs.size + 1), upd H1 (s1.heap.objs.size + 1) (.lst xs.reverse), fin, ?_, q _ (I1.hok.fresh (Nat.le_succ _))⟩
  show _ = Value.ref (s1.heap.objs.size + 1)
  rw [← hsz]
end
end RT
namespace Wb
open PySem PySem.Spec PyProof.Rows L2

abbrev nV (n : Nat) : V := .int (n : Int)
def nums (l : List Nat) : List V := l.map nV
def zs (l : List Int) : List V := l.map V.int
def refs (l : List Addr) : List V := l.map V.ref
theorem nums_len (l : List Nat) : (nums l).length = l.length := List.length_map _
theorem zs_len (l : List Int) : (zs l).length = l.length := List.length_map _
theorem refs_len (l : List Addr) : (refs l).length = l.length := List.length_map _
theorem nums_zs (l : List Nat) : nums l = zs (l.map fun (n : Nat) => (n : Int)) := by
  unfold nums zs
  rw [List.map_map]
  rfl
theorem nums_app (l m : List Nat) : nums (l ++ m) = nums l ++ nums m := List.map_append
theorem zs_app (l m : List Int) : zs (l ++ m) = zs l ++ zs m := List.map_append
theorem refs_app (l m : List Addr) : refs (l ++ m) = refs l ++ refs m := List.map_append
theorem nums_at {l : List Nat} {i n : Nat} (h : l[i]? = some n) : (nums l)[i]? = some (nV n) := by
  unfold nums
  rw [List.getElem?_map, h]
  rfl
theorem zs_at {l : List Int} {i : Nat} {n : Int} (h : l[i]? = some n) : (zs l)[i]? = some (V.int n) := by
  unfold zs
  rw [List.getElem?_map, h]
  rfl
theorem refs_at {l : List Addr} {i : Nat} {a : Addr} (h : l[i]? = some a) : (refs l)[i]? = some (V.ref a) := by
  unfold refs
  rw [List.getElem?_map, h]
  rfl
theorem nums_of {l : List Nat} {i : Nat} {v : V} (h : (nums l)[i]? = some v) : ∃ n, l[i]? = some n ∧ v = nV n := by
  unfold nums at h
  rw [List.getElem?_map] at h
  cases e : l[i]? with
  | none => rw [e] at h; cases h
  | some n => rw [e] at h; exact ⟨n, rfl, (Option.some.inj h).symm⟩
theorem zs_of {l : List Int} {i : Nat} {v : V} (h : (zs l)[i]? = some v) : ∃ n, l[i]? = some n ∧ v = V.int n := by
  unfold zs at h
  rw [List.getElem?_map] at h
  cases e : l[i]? with
  | none => rw [e] at h; cases h
  | some n => rw [e] at h; exact ⟨n, rfl, (Option.some.inj h).symm⟩
theorem refs_of {l : List Addr} {i : Nat} {v : V} (h : (refs l)[i]? = some v) : ∃ n, l[i]? = some n ∧ v = V.ref n := by
  unfold refs at h
  rw [List.getElem?_map] at h
  cases e : l[i]? with
  | none => rw [e] at h; cases h
  | some n => rw [e] at h; exact ⟨n, rfl, (Option.some.inj h).symm⟩
theorem nums_inj {l m : List Nat} (h : nums l = nums m) : l = m := by
  induction l generalizing m with
  | nil =>
    cases m with
    | nil => rfl
    | cons y m => cases h
  | cons x l ih =>
    cases m with
    | nil => cases h
    | cons y m =>
      obtain ⟨h1, h2⟩ := List.cons.inj (show nV x :: nums l = nV y :: nums m from h)
      have e : (x : Int) = y := V.int.inj h1
      rw [ih h2, show x = y by omega]
theorem pair_at {α β : Type} {F : α → β → Prop} : ∀ {l : List α} {m : List β} {i : Nat} {a : α} {b : β}, Paired F l m → l[i]? = some a → m[i]? = some b → F a b
  | _, _, _, _, _, .nil, h, _ => by simp at h
  | _, _, 0, _, _, .cons h _, e, e' => by
    cases e
    cases e'
    exact h
  | _, _, i + 1, _, _, .cons _ t, e, e' => pair_at (i := i) t e e'
theorem pair_get {α β : Type} {F : α → β → Prop} {l : List α} {m : List β} {i : Nat} {b : β} (p : Paired F l m) (h : m[i]? = some b) : ∃ a, l[i]? = some a ∧ F a b := by
  have hl := p.length
  have hi : i < m.length := (List.getElem?_eq_some_iff.mp h).1
  exact ⟨l[i], List.getElem?_eq_getElem (by omega), pair_at p (List.getElem?_eq_getElem (by omega)) h⟩
theorem pair_getL {α β : Type} {F : α → β → Prop} {l : List α} {m : List β} {i : Nat} {a : α} (p : Paired F l m) (h : l[i]? = some a) : ∃ b, m[i]? = some b ∧ F a b := by
  have hl := p.length
  have hi : i < l.length := (List.getElem?_eq_some_iff.mp h).1
  exact ⟨m[i], List.getElem?_eq_getElem (by omega), pair_at p h (List.getElem?_eq_getElem (by omega))⟩
theorem pair_mono {α β : Type} {F G : α → β → Prop} (f : ∀ a b, F a b → G a b) : ∀ {l : List α} {m : List β}, Paired F l m → Paired G l m
  | _, _, .nil => .nil
  | _, _, .cons h t => .cons (f _ _ h) (pair_mono f t)
theorem pair_take {α β : Type} {F : α → β → Prop} : ∀ (n : Nat) {l : List α} {m : List β}, Paired F l m → Paired F (l.take n) (m.take n)
  | 0, _, _, _ => .nil
  | _ + 1, _, _, .nil => .nil
  | n + 1, _, _, .cons h t => .cons h (pair_take n t)
theorem pair_drop {α β : Type} {F : α → β → Prop} : ∀ (n : Nat) {l : List α} {m : List β}, Paired F l m → Paired F (l.drop n) (m.drop n)
  | 0, _, _, h => h
  | _ + 1, _, _, .nil => .nil
  | n + 1, _, _, .cons _ t => pair_drop n t
theorem pair_app {α β : Type} {F : α → β → Prop} : ∀ {l l' : List α} {m m' : List β}, Paired F l m → Paired F l' m' → Paired F (l ++ l') (m ++ m')
  | _, _, _, _, .nil, h => h
  | _, _, _, _, .cons h t, h' => .cons h (pair_app t h')

abbrev Doc := List (List Nat)
def LnAt (H : Hp) (a : Addr) (l : List Nat) : Prop := H a = some (.lst (nums l))
abbrev LnsAt (H : Hp) (as : List Addr) (d : Doc) : Prop := Paired (LnAt H) as d
def DcAt (H : Hp) (p : Addr) (d : Doc) : Prop := ∃ as, H p = some (.lst (refs as)) ∧ LnsAt H as d
theorem LnAt.mono {H H' : Hp} (k : Same H H') {a : Addr} {l : List Nat} (h : LnAt H a l) : LnAt H' a l := k _ _ h
theorem lns_mono {H H' : Hp} (k : Same H H') {as : List Addr} {d : Doc} (h : LnsAt H as d) : LnsAt H' as d := pair_mono (fun _ _ x => k _ _ x) h
theorem DcAt.mono {H H' : Hp} (k : Same H H') {p : Addr} {d : Doc} (h : DcAt H p d) : DcAt H' p d := by
  obtain ⟨as, h1, h2⟩ := h
  exact ⟨as, k _ _ h1, lns_mono k h2⟩
theorem LnAt.inj {H : Hp} {a : Addr} {l m : List Nat} (h : LnAt H a l) (h' : LnAt H a m) : l = m := by
  unfold LnAt at h h'
  rw [h] at h'
  exact nums_inj (HO.lst.inj (Option.some.inj h'))
theorem same_new {H : Hp} {p : Addr} {o : HO} (hp : H p = none) : Same H (upd H p o) := fun b u e => by
  rw [upd_ne (ne_of_none e hp)]
  exact e
theorem same_upd {H H' : Hp} {p : Addr} {o : HO} (k : Same H H') (hp : H p = none) : Same H (upd H' p o) := fun b u e => by
  rw [upd_ne (ne_of_none e hp)]
  exact k b u e
def wo (x av ab : Addr) (H : Hp) : Hp := fun b => if b = x ∨ b = av ∨ b = ab then none else H b
theorem wo_sub {x av ab : Addr} {H : Hp} : Same (wo x av ab H) H := fun b o e => by
  unfold wo at e
  by_cases c : b = x ∨ b = av ∨ b = ab
  · rw [if_pos c] at e
    cases e
  · rw [if_neg c] at e
    exact e
theorem wo_at {x av ab b : Addr} {H : Hp} {o : HO} (h : H b = some o) (n1 : b ≠ av) (n2 : b ≠ ab) (n0 : b ≠ x) : wo x av ab H b = some o := by
  unfold wo
  rw [if_neg (fun z => z.elim n0 (fun z => z.elim n1 n2))]
  exact h
theorem wo_mono {x av ab : Addr} {H H' : Hp} (k : Same H H') : Same (wo x av ab H) (wo x av ab H') := fun b o e => by
  unfold wo at e ⊢
  by_cases c : b = x ∨ b = av ∨ b = ab
  · rw [if_pos c] at e
    cases e
  · rw [if_neg c] at e ⊢
    exact k b o e
theorem wo_upd {x av ab b : Addr} {H : Hp} {o : HO} (h : b = x ∨ b = av ∨ b = ab) : wo x av ab (upd H b o) = wo x av ab H := by
  funext c
  unfold wo
  by_cases e : c = x ∨ c = av ∨ c = ab
  · rw [if_pos e, if_pos e]
  · rw [if_neg e, if_neg e, upd_ne (fun z => e (by rw [z]; exact h))]
theorem new_ne {H : Hp} {p a : Addr} {o : HO} (hp : H p = none) (ha : H a = some o) : p ≠ a := fun e => by
  rw [e, ha] at hp
  cases hp

def lnD (l : List Nat) : PyData := .list (l.map fun (n : Nat) => .int (n : Int))
def docD (d : Doc) : PyData := .list (d.map lnD)
theorem dpAll_nums {K : PySem.W.Frag} {H : Hp} : ∀ l : List Nat, DpAll K H (nums l) (l.map fun (n : Nat) => PyData.int (n : Int))
  | [] => .nil
  | _ :: l => .cons (.int _) (dpAll_nums l)
theorem dp_line {K : PySem.W.Frag} {H : Hp} {a : Addr} {l : List Nat} (h : LnAt H a l) : Dp K H (.ref a) (lnD l) := .lst (.of h) (dpAll_nums l)
theorem dpAll_lines {K : PySem.W.Frag} {H : Hp} : ∀ {as : List Addr} {d : Doc}, LnsAt H as d → DpAll K H (refs as) (d.map lnD)
  | _, _, .nil => .nil
  | _, _, .cons h t => .cons (dp_line h) (dpAll_lines t)
theorem dp_doc {K : PySem.W.Frag} {H : Hp} {p : Addr} {as : List Addr} {d : Doc} (h : H p = some (.lst (refs as))) (l : LnsAt H as d) : Dp K H (.ref p) (docD d) := .lst (.of h) (dpAll_lines l)
theorem dp_docAt {K : PySem.W.Frag} {H : Hp} {p : Addr} {d : Doc} (h : DcAt H p d) : Dp K H (.ref p) (docD d) := by
  obtain ⟨as, h1, h2⟩ := h
  exact dp_doc h1 h2
theorem lay_nums : ∀ l : List Nat, PyData.canLayAll0 (l.map fun (n : Nat) => PyData.int (n : Int)) = true
  | [] => by simp only [List.map_nil, PyData.canLayAll0]
  | _ :: l => by simp only [List.map_cons, PyData.canLayAll0, PyData.canLay0, lay_nums l, Bool.and_self]
theorem depth_nums : ∀ l : List Nat, PyData.depthAll (l.map fun (n : Nat) => PyData.int (n : Int)) = 0
  | [] => by simp only [List.map_nil, PyData.depthAll]
  | _ :: l => by
    simp only [List.map_cons, PyData.depthAll, PyData.depth, depth_nums l]
    rfl
theorem shaped_line (l : List Nat) : SeqAt.shaped (lnD l) = true := by
  unfold SeqAt.shaped lnD
  simp only [PyData.canLay0, lay_nums, PyData.depth, depth_nums]
  decide
theorem lay_lines : ∀ d : Doc, PyData.canLayAll0 (d.map lnD) = true
  | [] => by simp only [List.map_nil, PyData.canLayAll0]
  | l :: d => by
    have e : PyData.canLay0 (lnD l) = true := by
      unfold lnD
      simp only [PyData.canLay0, lay_nums]
    simp only [List.map_cons, PyData.canLayAll0, lay_lines d, e, Bool.and_self]
theorem depth_lines : ∀ d : Doc, PyData.depthAll (d.map lnD) ≤ 1
  | [] => by simp only [List.map_nil, PyData.depthAll]; decide
  | l :: d => by
    have e : PyData.depth (lnD l) = 1 := by
      unfold lnD
      simp only [PyData.depth, depth_nums]
    have ih := depth_lines d
    simp only [List.map_cons, PyData.depthAll, e]
    omega
theorem shaped_doc (d : Doc) : SeqAt.shaped (docD d) = true := by
  have ih := depth_lines d
  unfold SeqAt.shaped docD
  simp only [PyData.canLay0, lay_lines, PyData.depth, Bool.true_and]
  exact decide_eq_true (by omega)
theorem eqv_nums : ∀ l m : List Nat, PyData.eqvAll (l.map fun (n : Nat) => PyData.int (n : Int)) (m.map fun (n : Nat) => PyData.int (n : Int)) = decide (l = m)
  | [], [] => by simp [PyData.eqvAll]
  | [], _ :: _ => by simp [PyData.eqvAll]
  | _ :: _, [] => by simp [PyData.eqvAll]
  | x :: l, y :: m => by
    simp only [List.map_cons, PyData.eqvAll, PyData.eqv, eqv_nums l m]
    by_cases h : x = y
    · subst h
      simp
    · have h' : ¬ (x : Int) = y := by omega
      simp [h, h']
theorem eqv_line (l m : List Nat) : PyData.eqv (lnD l) (lnD m) = decide (l = m) := by
  unfold lnD
  simp only [PyData.eqv]
  exact eqv_nums l m
theorem eqv_lines : ∀ d e : Doc, PyData.eqvAll (d.map lnD) (e.map lnD) = decide (d = e)
  | [], [] => by simp [PyData.eqvAll]
  | [], _ :: _ => by simp [PyData.eqvAll]
  | _ :: _, [] => by simp [PyData.eqvAll]
  | x :: l, y :: m => by
    simp only [List.map_cons, PyData.eqvAll, eqv_line, eqv_lines l m]
    by_cases h : x = y
    · subst h
      simp
    · simp [h]
theorem eqv_doc (d e : Doc) : PyData.eqv (docD d) (docD e) = decide (d = e) := by
  unfold docD
  simp only [PyData.eqv]
  exact eqv_lines d e

def top (i : Nat) : Stmt := PySem.Challenge.pw_textbranches_s01_answers.main.body.getD i (.Pass ⟨0, 0, 0, 0⟩)

def Has (P : Program) (w : World) (K : PySem.W.Frag) (mg : Str → Option Value) (base : Heap) (CX : CXT) (k : Nat) (name : Str) (ps : List Str) (sp : Sp) : Prop :=
  ∃ (f : Addr) (fd : FuncData), FnOk P w K mg base CX k f fd ps sp ∧ mg name = some (.ref f) ∧ PySem.W.keepIn K (.ref f) = true ∧ Binds K fd ps []
def HasM (P : Program) (w : World) (K : PySem.W.Frag) (mg : Str → Option Value) (base : Heap) (CX : CXT) (k : Nat) (C : Addr) (name : Str) (ps : List Str) (sp : Sp) : Prop :=
  ∃ (f : Addr) (fd : FuncData), FnOk P w K mg base CX k f fd ps sp ∧ Meth K C name f ∧ Binds K fd ps []
def HasC (P : Program) (w : World) (K : PySem.W.Frag) (mg : Str → Option Value) (base : Heap) (CX : CXT) (k : Nat) (C : Addr) (name : Str) (ps : List Str) (sp : Sp) : Prop :=
  ∃ (f : Addr) (fd : FuncData), FnOk P w K mg base CX k f fd ps sp ∧ Mk K C f ∧ mg name = some (.ref C) ∧ Binds K fd ps []

theorem lk_here {k : Str} {v : V} {r : List (Str × V)} : List.lookup k ((k, v) :: r) = some v := by
  have e : (k == k) = true := beq_self_eq_true k
  simp only [List.lookup, e]
theorem lk_past {k g : Str} {v : V} {r : List (Str × V)} (h : (k == g) = false) : List.lookup k ((g, v) :: r) = List.lookup k r := by
  simp only [List.lookup, h]
theorem put_here {f : Str} {v x : V} {r : List (Str × V)} : putF f v ((f, x) :: r) = (f, v) :: r := if_pos rfl
theorem put_past {f g : Str} {v x : V} {r : List (Str × V)} (h : ¬ g = f) : putF f v ((g, x) :: r) = (g, x) :: putF f v r := if_neg h
theorem put_nil {f : Str} {v : V} : putF f v [] = [(f, v)] := rfl

def spNew (C : Addr) (fs : List Str) : Sp := fun vs H Q _ => ∃ (p dx : Addr) (args : List V), vs = .ref p :: args ∧ args.length = fs.length ∧ H p = some (.ins C dx []) ∧
  ∀ H' : Hp, H' p = some (.ins C dx (fs.zip args)) → (∀ b o, H b = some o → b ≠ p → H' b = some o) → Q .non H'

def RefW (CR : Addr) (H : Hp) (E : XK) (codes : List Int) : Prop := ∀ (H' : Hp) (d p : Addr), Same H H' → H' d = some (.xd [(("some" : Str), .ref p)]) → H p = none → H' p = some (.lst (zs codes)) → E (.ref CR) (some d) H'
end Wb
namespace Wb
open PySem PySem.Spec PyProof.Rows L2

theorem cut_nat (xs : List V) (b e : Nat) : cutV xs (some (b : Int)) (some (e : Int)) = (xs.drop b).take (e - b) := by
  unfold cutV
  rw [HT.sIx_nat, HT.sIx_nat]
  by_cases hb : b ≤ xs.length
  · rw [Nat.min_eq_left hb]
    by_cases he : e ≤ xs.length
    · rw [Nat.min_eq_left he]
    · rw [Nat.min_eq_right (by omega), List.take_of_length_le (by rw [List.length_drop]; omega), List.take_of_length_le (by rw [List.length_drop]; omega)]
  · rw [Nat.min_eq_right (show xs.length ≤ b by omega), List.drop_eq_nil_of_le (Nat.le_refl _), List.drop_eq_nil_of_le (as := xs) (i := b) (by omega), List.take_nil, List.take_nil]
theorem take_more {α : Type} : ∀ {l : List α} {i : Nat} {x : α}, l[i]? = some x → l.take (i + 1) = l.take i ++ [x]
  | [], i, x, h => by simp at h
  | a :: l, 0, x, h => by
    have e : a = x := Option.some.inj h
    subst e
    rfl
  | a :: l, i + 1, x, h => by
    have ih := take_more (l := l) (i := i) (x := x) h
    show a :: l.take (i + 1) = a :: l.take i ++ [x]
    rw [ih]
    rfl
theorem line1000 {n : Nat} (h : n ≤ 100000) : n ≤ sizeLine := by rw [sizeLine_eq]; omega
theorem ltline {n : Nat} (h : n ≤ 100000) : n < sizeLine := by rw [sizeLine_eq]; omega

def Tis (t : TT) (σ : L2.St) (H : Hp) (b : Bool) : Prop := ∀ Q : Bool → Hp → Prop, Q b H → t σ H Q
theorem Tis.or {t u : TT} {σ : L2.St} {H : Hp} {a b : Bool} (h1 : Tis t σ H a) (h2 : a = false → Tis u σ H b) : Tis (tOr t u) σ H (a || b) := fun Q q => h1 _ (by
  cases a with
  | true => exact iteT q
  | false => exact iteF (h2 rfl Q q))
theorem Tis.and {t u : TT} {σ : L2.St} {H : Hp} {a b : Bool} (h1 : Tis t σ H a) (h2 : a = true → Tis u σ H b) : Tis (tAnd t u) σ H (a && b) := fun Q q => h1 _ (by
  cases a with
  | true => exact iteT (h2 rfl Q q)
  | false => exact iteF q)
theorem iteB {b : Bool} {A B : Prop} (h1 : b = true → A) (h2 : b = false → B) : if b = true then A else B := by
  cases b with
  | true => exact iteT (h1 rfl)
  | false => exact iteF (h2 rfl)
theorem pe_gi {X : Cx} {x : Str} {i : Int} {pos : Pos} (hg : Gl X x) (hm : ∃ t, X.mg x = some (.int i t)) (hd : (x == ("__debug__" : Str)) = false := by decide) : PE X (.Name x pos) (tC (.int i)) := by
  obtain ⟨t, h⟩ := hm
  exact pe_glob hg h ⟨t, rfl⟩ hd
def rLen (K : PySem.W.Frag) : List V → Hp → VK → Prop := fun xs H Q => ∃ p ys, xs = [.ref p] ∧ (SqL K H p ys ∨ SqT K H p ys) ∧ Q (.int ys.length) H

structure PartT (K : PySem.W.Frag) (C : Addr) : Prop where
  cl : Cls K C
  nB : NoAttr K C "begins"
  nE : NoAttr K C "ends"
def triL (t : T3) : List Nat := [t.1, t.2.1, t.2.2]
def PartAt (C : Addr) (H : Hp) (p : Addr) (q : T3 × T3) : Prop := ∃ dx tb te, H p = some (.ins C dx [("begins", .ref tb), ("ends", .ref te)]) ∧ H tb = some (.tup (nums (triL q.1))) ∧ H te = some (.tup (nums (triL q.2)))
theorem PartAt.mono {C : Addr} {H H' : Hp} (k : Same H H') {p : Addr} {q : T3 × T3} (h : PartAt C H p q) : PartAt C H' p q := by
  obtain ⟨dx, tb, te, h1, h2, h3⟩ := h
  exact ⟨dx, tb, te, k _ _ h1, k _ _ h2, k _ _ h3⟩
def spLines (C : Addr) : Sp := fun vs H Q _ => ∃ (p t : Addr) (q : T3 × T3) (s : Nat) (ds : List Addr) (a : Addr) (xs : List V) (b e : Nat), vs = [.ref p, .ref t, .int (s : Int)] ∧ PartAt C H p q ∧ H t = some (.tup (refs ds)) ∧ ds[s]? = some a ∧ H a = some (.lst xs) ∧
  (triL q.1)[s]? = some b ∧ (triL q.2)[s]? = some e ∧ ∀ r, H r = none → Q (.ref r) (upd H r (.lst ((xs.drop b).take (e - b))))
def toldOf (l : List (Nat × Nat)) : List Int := l.flatMap fun x => [(x.1 : Int), (x.2 : Int) - x.1]
def spTold (C : Addr) : Sp := fun vs H Q _ => ∃ (p : Addr) (q : T3 × T3), vs = [.ref p] ∧ PartAt C H p q ∧ ∀ (H' : Hp) (r : Addr), Same H H' → H r = none → H' r = some (.lst (zs (toldP q))) → Q (.ref r) H'
abbrev sPartInit : Stmt := inClass (top 4) 0
abbrev sPartLines : Stmt := inClass (top 4) 1
abbrev sPartTold : Stmt := inClass (top 4) 2
section
variable {P : Program} {w : World} {K : PySem.W.Frag} {mg : Str → Option Value} {base : Heap}
theorem scPI : FnScope ["self", "begins", "ends"] ["self", "begins", "ends"] (defScope sPartInit) := ⟨rfl, rfl, rfl, by decide +kernel, rfl, by decide +kernel, by decide +kernel⟩
theorem ok_partInit {C f : Addr} {fd : FuncData} (F : Fun K "__init__" "Part.__init__" sPartInit f fd) (T : PartT K C) : FnOk P w K mg base CX0 1 f fd ["self", "begins", "ends"] (spNew C ["begins", "ends"]) := by
  refine F.ok scPI (fun vs H Q E h => ?_) (fun cdv A outer s H vs Q E hr h => ?_)
  · obtain ⟨p, dx, args, rfl, hl, _⟩ := h
    simpa using hl
  · refine ⟨_, pss_cons (ps_fld (pv 0) (pv 1) rfl) (pss_one (ps_fld (pv 0) (pv 2) rfl)), ?_⟩
    obtain ⟨p, dx, args, rfl, hl, hp, k⟩ := h
    match args, hl with
    | [b, e], _ =>
    refine ⟨_, rfl, _, rfl, p, C, dx, [], rfl, hp, T.cl, T.nB, (by show 0 < 1000; decide), ?_⟩
    refine ⟨_, rfl, _, rfl, p, C, dx, _, rfl, upd_same, T.cl, T.nE, (by show 1 < 1000; decide), ?_⟩
    refine k _ (Eq.trans upd_same ?_) fun b o e hb => by rw [upd_ne hb, upd_ne hb]; exact e
    rw [put_nil, put_past (by decide +kernel), put_nil]
    rfl
theorem lkB {b e : V} : List.lookup ("begins" : Str) [(("begins" : Str), b), (("ends" : Str), e)] = some b := lk_here
theorem lkE {b e : V} : List.lookup ("ends" : Str) [(("begins" : Str), b), (("ends" : Str), e)] = some e := (lk_past (by decide +kernel)).trans lk_here
theorem scPL : FnScope ["self", "documents", "side"] ["self", "documents", "side"] (defScope sPartLines) := ⟨rfl, rfl, rfl, by decide +kernel, rfl, by decide +kernel, by decide +kernel⟩
theorem ok_partLines {C f : Addr} {fd : FuncData} (F : Fun K "lines" "Part.lines" sPartLines f fd) (T : PartT K C) : FnOk P w K mg base CX0 1 f fd ["self", "documents", "side"] (spLines C) := by
  refine F.ok scPL (fun vs H Q E h => ?_) (fun cdv A outer s H vs Q E hr h => ?_)
  · obtain ⟨p, t, q, s, ds, a, xs, b, e, rfl, _⟩ := h
    rfl
  · refine ⟨_, pss_one (ps_ret (pe_slice sl_list (pe_ix ix_tup (pv 1) (pv 2) (fun _ _ => rfl)) (po_some (pe_ix ix_tup (pe_fld (pv 0) rfl) (pv 2) (fun _ _ => rfl))) (po_some (pe_ix ix_tup (pe_fld (pv 0) rfl) (pv 2) (fun _ _ => rfl))))), ?_⟩
    obtain ⟨p, t, q, s, ds, a, xs, b, e, rfl, ⟨dx, tb, te, h1, h2, h3⟩, ht, hs, ha, hb, he, k⟩ := h
    refine ⟨_, rfl, _, rfl, t, _, _, _, rfl, rfl, SqT.of ht, atI_nat (refs_at hs), ?_⟩
    refine ⟨_, rfl, p, C, dx, _, _, rfl, h1, T.cl, T.nB, lkB, _, rfl, tb, _, _, _, rfl, rfl, SqT.of h2, atI_nat (nums_at hb), _, rfl, ?_⟩
    refine ⟨_, rfl, p, C, dx, _, _, rfl, h1, T.cl, T.nE, lkE, _, rfl, te, _, _, _, rfl, rfl, SqT.of h3, atI_nat (nums_at he), _, rfl, ?_⟩
    refine ⟨a, xs, rfl, SqL.of ha, fun r hr => ?_⟩
    rw [cut_nat]
    exact k r hr
theorem scPT : FnScope ["self", "found", "begin", "end"] ["self"] (defScope sPartTold) := ⟨rfl, rfl, rfl, by decide +kernel, rfl, by decide +kernel, by decide +kernel⟩
theorem ok_partTold {C f : Addr} {fd : FuncData} (F : Fun K "told" "Part.told" sPartTold f fd) (T : PartT K C) (mz : mg "zip" = none) : FnOk P w K mg base CX0 1 f fd ["self"] (spTold C) := by
  refine F.ok scPT (fun vs H Q E h => ?_) (fun cdv A outer s H vs Q E hr h => ?_)
  · obtain ⟨p, q, rfl, _⟩ := h
    rfl
  · refine ⟨_, pss_cons (ps_set (i := 1) scPT.nd rfl (.inl rfl) (pe_lst pa_nil))
      (pss_cons (ps_for PassesOwn.never rfl (RZ.pi_zipA (by rfl) mz (pa_cons (pe_fld (pv 0) rfl) (pa_cons (pe_fld (pv 0) rfl) pa_nil)))
        (pg_tup rfl (pgs_cons (pg_name (i := 2) scPT.nd rfl (.inl rfl)) (pgs_cons (pg_name (i := 3) scPT.nd rfl (.inl rfl)) pgs_nil)))
        (pss_one (ps_expr (pe_bm PySem.F.plainAttrs_list PySem.F.slot_list_extend PySem.F.type_list_extend mt_extend (pv 1) (pa_cons (pe_lst (pa_cons (pv 2) (pa_cons (pe_op op_sub (pv 3) (pv 2)) pa_nil))) pa_nil)))))
      (pss_one (ps_ret (pv 1)))), ?_⟩
    obtain ⟨p, q, rfl, ⟨dx, tb, te, h1, h2, h3⟩, k⟩ := h
    refine ⟨(by show 0 ≤ sizeLine; exact Nat.zero_le _), fun fnd hf => ?_⟩
    have s0 : Same H (upd H fnd (.lst [])) := same_new hf
    refine ⟨_, rfl, p, C, dx, _, _, rfl, s0 _ _ h1, T.cl, T.nB, lkB, _, rfl, p, C, dx, _, _, rfl, s0 _ _ h1, T.cl, T.nE, lkE, tb, te, _, _, rfl, .inr ⟨SqT.of (s0 _ _ h2), SqT.of (s0 _ _ h3), ?_⟩⟩
    refine RZ.for_zipT (K := K) (xs := nums (triL q.1)) (ys := nums (triL q.2)) rfl (fun i σ H' => Same H H' ∧ ∃ v2 v3 : Option V, σ = [some (.ref p), some (.ref fnd), v2, v3] ∧ H' fnd = some (.lst (zs (toldOf (((triL q.1).zip (triL q.2)).take i)))))
      ⟨s0, none, none, rfl, upd_same⟩ (fun i σ H' ⟨s5, _⟩ => ⟨SqT.of (s5 _ _ h2), SqT.of (s5 _ _ h3)⟩) ?_ ?_
    · rintro i x y Tp σ H' hx hy ⟨s5, v2, v3, rfl, hl⟩ hT
      obtain ⟨b, hb, rfl⟩ := nums_of hx
      obtain ⟨e, he, rfl⟩ := nums_of hy
      have hz : ((triL q.1).zip (triL q.2))[i]? = some (b, e) := by rw [List.getElem?_zip_eq_some]; exact ⟨hb, he⟩
      have s6 : Same H (upd H' Tp (.tup [nV b, nV e])) := fun c o z => same_new hT _ _ (s5 c o z)
      have hl6 : upd H' Tp (.tup [nV b, nV e]) fnd = some (.lst (zs (toldOf (((triL q.1).zip (triL q.2)).take i)))) := same_new hT _ _ hl
      refine ⟨Tp, _, rfl, SqT.of upd_same, rfl, _, _, rfl, _, _, rfl, rfl, ?_⟩
      refine ⟨_, rfl, .inl ⟨rfl, _, SqL.of hl6⟩, _, rfl, _, rfl, _, rfl, _, _, rfl, rfl, (by show 2 ≤ sizeLine; decide), fun r hr => ?_⟩
      have hfr : fnd ≠ r := ne_of_none hl6 hr
      have hi : i < 3 := (List.getElem?_eq_some_iff.mp hb).1
      have hlen : (zs (toldOf (((triL q.1).zip (triL q.2)).take i))).length ≤ 6 := by
        have h6 : i = 0 ∨ i = 1 ∨ i = 2 := by omega
        rcases h6 with e | e | e <;> subst e <;> simp [zs, toldOf, triL]
      refine ⟨fnd, r, _, _, rfl, rfl, (by rw [upd_ne hfr]; exact hl6), upd_same, line1000 (by show _ + 2 ≤ _; omega), ?_⟩
      refine ⟨fun c o z => ?_, some (nV b), some (nV e), rfl, ?_⟩
      · have z6 := s6 c o z
        rw [upd_ne (ne_of_none z hf), upd_ne (ne_of_none z6 hr)]
        exact z6
      · rw [upd_same, take_more hz]
        unfold toldOf zs
        rw [List.flatMap_append, List.map_append]
        rfl
    · rintro σ H' ⟨s5, v2, v3, rfl, hl⟩
      exact ⟨_, rfl, k H' fnd s5 hf hl⟩

structure MergedT (K : PySem.W.Frag) (C : Addr) : Prop where
  cl : Cls K C
  nD : NoAttr K C "document"
  nC : NoAttr K C "clashes"
abbrev sMergedInit : Stmt := inClass (top 5) 0
def spMergedInit (C : Addr) : Sp := fun vs H Q _ => ∃ (p dx : Addr), vs = [.ref p] ∧ H p = some (.ins C dx []) ∧
  ∀ (H' : Hp) (d c : Addr), H d = none → H c = none → d ≠ c → H' p = some (.ins C dx [("document", .ref d), ("clashes", .ref c)]) → H' d = some (.lst []) → H' c = some (.lst []) → (∀ b o, H b = some o → b ≠ p → H' b = some o) → Q .non H'
theorem scMI : FnScope ["self"] ["self"] (defScope sMergedInit) := ⟨rfl, rfl, rfl, by decide +kernel, rfl, by decide +kernel, by decide +kernel⟩
theorem ok_mergedInit {C f : Addr} {fd : FuncData} (F : Fun K "__init__" "Merged.__init__" sMergedInit f fd) (T : MergedT K C) : FnOk P w K mg base CX0 1 f fd ["self"] (spMergedInit C) := by
  refine F.ok scMI (fun vs H Q E h => ?_) (fun cdv A outer s H vs Q E hr h => ?_)
  · obtain ⟨p, dx, rfl, _⟩ := h
    rfl
  · refine ⟨_, pss_cons (ps_fld (pv 0) (pe_lst pa_nil) rfl) (pss_one (ps_fld (pv 0) (pe_lst pa_nil) rfl)), ?_⟩
    obtain ⟨p, dx, rfl, hp, k⟩ := h
    refine ⟨Nat.zero_le _, fun d hd => ?_⟩
    have npd : p ≠ d := ne_of_none hp hd
    refine ⟨_, rfl, p, C, dx, [], rfl, (by rw [upd_ne npd]; exact hp), T.cl, T.nD, (by show 0 < 1000; decide), ?_⟩
    refine ⟨Nat.zero_le _, fun c hc => ?_⟩
    have npc : p ≠ c := ne_of_none upd_same hc
    have hdd : upd (upd H d (.lst [])) p (.ins C dx (putF "document" (.ref d) [])) d = some (.lst []) := by rw [upd_ne (Ne.symm npd)]; exact upd_same
    have ndc : d ≠ c := ne_of_none hdd hc
    have hc' : H c = none := by
      rw [upd_ne (Ne.symm npc), upd_ne (Ne.symm ndc)] at hc
      exact hc
    refine ⟨_, rfl, p, C, dx, _, rfl, (by rw [upd_ne npc]; exact upd_same), T.cl, T.nC, (by show 1 < 1000; decide), ?_⟩
    refine k _ d c hd hc' ndc (Eq.trans upd_same ?_) ?_ ?_ fun b o e hb => ?_
    · rw [put_nil, put_past (by decide +kernel), put_nil]
    · rw [upd_ne (Ne.symm npd), upd_ne ndc]
      exact hdd
    · rw [upd_ne (Ne.symm npc)]
      exact upd_same
    · rw [upd_ne hb, upd_ne (ne_of_none e hc'), upd_ne hb, upd_ne (ne_of_none e hd)]
      exact e
end
end Wb
namespace Wb
open PySem PySem.Spec PyProof.Rows L2

def cell (A B : Doc) (R J i j : Nat) : Nat := if R ≤ i ∨ (i + 1 = R ∧ J ≤ j) then lcs (A.drop i) (B.drop j) else 0
def rowOf (lb : Nat) (f : Nat → Nat) : List Nat := (List.range (lb + 1)).map f
theorem rowOf_len (lb : Nat) (f : Nat → Nat) : (rowOf lb f).length = lb + 1 := by unfold rowOf; rw [List.length_map, List.length_range]
theorem rowOf_at (lb : Nat) (f : Nat → Nat) {j : Nat} (h : j ≤ lb) : (rowOf lb f)[j]? = some (f j) := by
  unfold rowOf
  rw [List.getElem?_map, List.getElem?_range (by omega)]
  rfl
theorem rowOf_congr {lb : Nat} {f g : Nat → Nat} (h : ∀ j, j ≤ lb → f j = g j) : rowOf lb f = rowOf lb g := by
  unfold rowOf
  refine List.map_congr_left fun j hj => h j ?_
  have := List.mem_range.mp hj
  omega
theorem rowOf_set {lb : Nat} {f g : Nat → Nat} {j v : Nat} (hv : g j = v) (h : ∀ k, k ≠ j → k ≤ lb → f k = g k) : (rowOf lb f).set j v = rowOf lb g := by
  refine List.ext_getElem? fun k => ?_
  by_cases hk : k ≤ lb
  · rw [rowOf_at lb g hk]
    by_cases e : j = k
    · subst e
      rw [List.getElem?_set_self (by rw [rowOf_len]; omega), hv]
    · rw [List.getElem?_set_ne e, rowOf_at lb f hk, h k (Ne.symm e) hk]
  · rw [List.getElem?_eq_none (by rw [List.length_set, rowOf_len]; omega), List.getElem?_eq_none (by rw [rowOf_len]; omega)]
theorem rowOf_zero (lb : Nat) : rowOf lb (fun _ => 0) = List.replicate (lb + 1) 0 := by
  unfold rowOf
  rw [List.map_const', List.length_range]
def TabAt (H : Hp) (q : Addr) (rows : List Addr) (lb : Nat) (f : Nat → Nat → Nat) : Prop := H q = some (.lst (refs rows)) ∧ ∀ i r, rows[i]? = some r → H r = some (.lst (nums (rowOf lb (f i))))
theorem cell_start (A B : Doc) {i j : Nat} (hi : i ≤ A.length) (hj : j ≤ B.length) : cell A B A.length B.length i j = 0 := by
  unfold cell
  split
  · exact lcs_end A B (by omega)
  · rfl
theorem cell_row (A B : Doc) (R : Nat) {i j : Nat} (hj : j ≤ B.length) (hR : 0 < R) : cell A B R 0 i j = cell A B (R - 1) B.length i j := by
  unfold cell
  by_cases h : R ≤ i ∨ (i + 1 = R ∧ 0 ≤ j)
  · rw [if_pos h, if_pos (by omega)]
  · rw [if_neg h]
    by_cases h' : R - 1 ≤ i ∨ (i + 1 = R - 1 ∧ B.length ≤ j)
    · rw [if_pos h', lcs_end A B (by omega)]
    · rw [if_neg h']
theorem cell_done (A B : Doc) {i j : Nat} (hj : j ≤ B.length) : cell A B 0 B.length i j = lcs (A.drop i) (B.drop j) := by
  unfold cell
  rw [if_pos (by omega)]
theorem cell_lcs (A B : Doc) {R J i j : Nat} (h : R ≤ i ∨ (i + 1 = R ∧ J ≤ j)) : cell A B R J i j = lcs (A.drop i) (B.drop j) := if_pos h

def spMost : Sp := fun vs H Q _ => ∃ (pa pb : Addr) (A B : Doc), vs = [.ref pa, .ref pb] ∧ DcAt H pa A ∧ DcAt H pb B ∧ A.length ≤ 64 ∧ B.length ≤ 64 ∧
  ∀ (H' : Hp) (q : Addr) (rows : List Addr), Same H H' → rows.length = A.length + 1 → TabAt H' q rows B.length (fun i j => lcs (A.drop i) (B.drop j)) → Q (.ref q) H'
abbrev sMost : Stmt := top 6
structure BltT (mg : Str → Option Value) : Prop where
  len : mg "len" = none
  range : mg "range" = none
  max : mg "max" = none
  int : mg "int" = none
  zip : mg "zip" = none
  enumerate : mg "enumerate" = none
  reversed : mg "reversed" = none
  sorted : mg "sorted" = none
  list : mg "list" = none
section
variable {P : Program} {w : World} {K : PySem.W.Frag} {mg : Str → Option Value} {base : Heap}
theorem scMost : FnScope ["a", "b", "table", "i", "j", "place"] ["a", "b"] (defScope sMost) := ⟨rfl, rfl, rfl, by decide +kernel, rfl, by decide +kernel, by decide +kernel⟩
theorem ok_most {f : Addr} {fd : FuncData} (F : Fun K "most_kept" "most_kept" sMost f fd) (B0 : BltT mg) : FnOk P w K mg base CX0 1 f fd ["a", "b"] spMost := by
  refine F.ok scMost (fun vs H Q E h => ?_) (fun cdv A outer s H vs Q E hr h => ?_)
  · obtain ⟨pa, pb, A, B, rfl, _⟩ := h
    rfl
  · have nd := scMost.nd
    refine ⟨_, pss_cons (ps_setLc (i := 2) (own := [("place", 5)]) (g := gName 5) (tt := tYes) rfl nd rfl rfl (sw_true rfl rfl rfl (by decide +kernel))
        (pi_range1 (by rfl) B0.range (pa_cons (pe_op op_add (pe_callB call_len_seq (by rfl) B0.len boot_len (pa_cons (pv 0) pa_nil)) pe_int) pa_nil))
        (blkOk_by (N := ["a", "b", "table", "i", "j", "place"]) (sc := defScope sMost) (by decide +kernel)) (fun _ _ _ _ _ => pg_name (i := 5) nd rfl (Or.inl rfl)) (fun _ _ _ _ _ => pts_nil)
        (fun _ _ _ _ _ => pe_op op_rep (pe_lst (pa_cons pe_int pa_nil)) (pe_op op_add (pe_callB (r := rLen K) call_len_seq (by rfl) B0.len boot_len (pa_cons (pv 1) pa_nil)) pe_int)))
      (pss_cons (ps_for PassesOwn.never rfl (pi_range3 (by rfl) B0.range (pa_cons (pe_op op_sub (pe_callB call_len_seq (by rfl) B0.len boot_len (pa_cons (pv 0) pa_nil)) pe_int) (pa_cons (pe_un un_neg pe_int) (pa_cons (pe_un un_neg pe_int) pa_nil)))) (pg_name (i := 3) nd rfl (Or.inl rfl))
        (pss_one (ps_for PassesOwn.never rfl (pi_range3 (by rfl) B0.range (pa_cons (pe_op op_sub (pe_callB call_len_seq (by rfl) B0.len boot_len (pa_cons (pv 1) pa_nil)) pe_int) (pa_cons (pe_un un_neg pe_int) (pa_cons (pe_un un_neg pe_int) pa_nil)))) (pg_name (i := 4) nd rfl (Or.inl rfl))
          (pss_one (ps_if (pt_cmpR (op_eqD hr.units) (pe_ix ix_list (pv 0) (pv 3) (fun _ _ => rfl)) (pe_ix ix_list (pv 1) (pv 4) (fun _ _ => rfl)) (nomark _))
            (pss_one (ps_asg (pe_op op_add (pe_ix ix_list (pe_ix ix_list (pv 2) (pe_op op_add (pv 3) pe_int) (fun _ _ => rfl)) (pe_op op_add (pv 4) pe_int) (fun _ _ => rfl)) pe_int) (pg_sub (pe_ix ix_list (pv 2) (pv 3) (fun _ _ => rfl)) (pv 4) set_list)))
            (pss_one (ps_asg (pe_callB (call_max2 rfl) (by rfl) B0.max boot_max (pa_cons (pe_ix ix_list (pe_ix ix_list (pv 2) (pe_op op_add (pv 3) pe_int) (fun _ _ => rfl)) (pv 4) (fun _ _ => rfl)) (pa_cons (pe_ix ix_list (pe_ix ix_list (pv 2) (pv 3) (fun _ _ => rfl)) (pe_op op_add (pv 4) pe_int) (fun _ _ => rfl)) pa_nil))) (pg_sub (pe_ix ix_list (pv 2) (pv 3) (fun _ _ => rfl)) (pv 4) set_list))))))))
      (pss_one (ps_ret (pv 2)))), ?_⟩
    obtain ⟨pa, pb, A, B, rfl, ⟨as, hA, lA⟩, ⟨bs, hB, lB⟩, hA64, hB64, k⟩ := h
    have eA : as.length = A.length := lA.length
    have eB : bs.length = B.length := lB.length
    refine ⟨_, rfl, pa, _, rfl, .inl (SqL.of hA), _, _, rfl, rfl, _, rfl, (by rw [refs_len, eA]; omega), (by rw [refs_len, eA]; omega), fun D hD => ?_⟩
    refine lc_range (lo := 0) (n := ((refs as).length + 1 : Int).toNat) (fun i H' => Same H H' ∧ ∃ rows : List Addr, rows.length = i ∧ rows.Nodup ∧ H' D = some (.lst (refs rows)) ∧ ∀ r ∈ rows, H r = none ∧ r ≠ D ∧ H' r = some (.lst (nums (List.replicate (B.length + 1) 0))))
      ⟨same_new hD, [], rfl, List.nodup_nil, upd_same, fun r hr => by cases hr⟩ ?_ ?_
    · rintro i H' hi ⟨s5, rows, hl, hn, hDr, hrows⟩
      refine ⟨rfl, (by show 1 ≤ sizeLine; decide), fun l hl0 => ?_⟩
      have s6 : Same H (upd H' l (.lst [.int 0])) := fun c o z => same_new hl0 _ _ (s5 c o z)
      refine ⟨_, rfl, pb, _, rfl, .inl (SqL.of (s6 _ _ hB)), _, _, rfl, rfl, l, _, _, rfl, rfl, upd_same, (by rw [refs_len, eB]; omega), (by rw [refs_len, eB]; omega), ?_, fun r hr0 => ?_⟩
      · rw [refs_len, eB]
        exact line1000 (by show 1 * _ ≤ _; omega)
      · have hDl : D ≠ l := ne_of_none hDr hl0
        have hDr6 : upd H' l (.lst [.int 0]) D = some (.lst (refs rows)) := by rw [upd_ne hDl]; exact hDr
        have hDr7 : D ≠ r := ne_of_none hDr6 hr0
        have s7 : Same H (upd (upd H' l (.lst [.int 0])) r (.lst (List.replicate (((refs bs).length : Int) + 1).toNat [V.int 0]).flatten)) := fun c o z => same_new hr0 _ _ (s6 c o z)
        have hH : H r = none := s6.free hr0
        refine ⟨refs rows, by rw [upd_ne hDr7]; exact hDr6, ?_, ?_, rows ++ [r], ?_, ?_, ?_, ?_⟩
        · rw [refs_len, hl]
          have : i < 66 := by rw [refs_len, eA] at hi; omega
          exact ltline (by omega)
        · intro c o z
          rw [upd_ne (ne_of_none z hD)]
          exact s7 c o z
        · rw [List.length_append, hl]
          rfl
        · refine List.nodup_append.mpr ⟨hn, (by simp), fun a ha b hb => ?_⟩
          rw [List.mem_singleton.mp hb]
          have q := (hrows a ha).2.2
          have q6 : upd H' l (.lst [.int 0]) a = some (.lst (nums (List.replicate (B.length + 1) 0))) := by rw [upd_ne (ne_of_none q hl0)]; exact q
          exact ne_of_none q6 hr0
        · rw [upd_same, refs_app]
          rfl
        · intro c hc
          rcases List.mem_append.mp hc with hc | hc
          · obtain ⟨q1, q2, q3⟩ := hrows c hc
            refine ⟨q1, q2, ?_⟩
            have q6 : upd H' l (.lst [.int 0]) c = some (.lst (nums (List.replicate (B.length + 1) 0))) := by rw [upd_ne (ne_of_none q3 hl0)]; exact q3
            rw [upd_ne q2, upd_ne (ne_of_none q6 hr0)]
            exact q6
          · rw [List.mem_singleton.mp hc]
            refine ⟨hH, Ne.symm hDr7, ?_⟩
            rw [upd_ne (Ne.symm hDr7), upd_same, refs_len, eB]
            have e1 : ((B.length : Int) + 1).toNat = B.length + 1 := by omega
            rw [e1]
            have e2 : ∀ n : Nat, (List.replicate n [V.int 0]).flatten = nums (List.replicate n 0) := by
              intro n
              induction n with
              | zero => rfl
              | succ n ih =>
                rw [List.replicate_succ, List.flatten_cons, ih, List.replicate_succ]
                rfl
            rw [e2]
    · rintro H1 ⟨s5, rows, hl, hn, hDr, hrows⟩
      have hlr : rows.length = A.length + 1 := by rw [hl, refs_len, eA]; omega
      have T0 : TabAt H1 D rows B.length (cell A B A.length B.length) := by
        refine ⟨hDr, fun i r hi => ?_⟩
        have hm := List.mem_of_getElem? hi
        have hi' : i ≤ A.length := by
          have := (List.getElem?_eq_some_iff.mp hi).1
          omega
        rw [(hrows r hm).2.2, rowOf_congr (g := fun _ => 0) fun j hj => cell_start A B hi' hj, rowOf_zero]
      have fr : ∀ r ∈ rows, H r = none ∧ r ≠ D := fun r hr => ⟨(hrows r hr).1, (hrows r hr).2.1⟩
      clear hrows hl hDr
      refine ⟨_, rfl, pa, _, rfl, .inl (SqL.of (s5 _ _ hA)), _, _, rfl, rfl, _, rfl, _, rfl, _, _, _, _, rfl, RgC.neg (by rw [refs_len, eA]; omega) (by rw [refs_len, eA]; omega) (by decide) (by decide), ?_⟩
      have en : (((refs as).length : Int) - 1 - -1).toNat = A.length := by rw [refs_len, eA]; omega
      show ∃ W : Nat → Nat → L2.St → Hp → Prop, _
      rw [show (((refs as).length : Int) - 1 - (-1 : Int)).toNat = A.length from en]
      refine for_rangeC (lo := ((refs as).length : Int) - 1) (c := -1) (n := A.length) (fun t σ H' => Same H H' ∧ (∃ v3 v4 : Option V, σ = [some (.ref pa), some (.ref pb), some (.ref D), v3, v4, none]) ∧ TabAt H' D rows B.length (cell A B (A.length - t) B.length))
        ⟨s5, ⟨none, none, rfl⟩, T0⟩ ?_ ?_
      · rintro t σ H2 ht ⟨s6, ⟨v3, v4, rfl⟩, T2⟩
        have ei : ((refs as).length : Int) - 1 + (t : Int) * -1 = ((A.length - 1 - t : Nat) : Int) := by rw [refs_len, eA]; omega
        show tFor _ _ _ _ _ _
        rw [ei]
        refine ⟨_, rfl, pb, _, rfl, .inl (SqL.of (s6 _ _ hB)), _, _, rfl, rfl, _, rfl, _, rfl, _, _, _, _, rfl, RgC.neg (by rw [refs_len, eB]; omega) (by rw [refs_len, eB]; omega) (by decide) (by decide), ?_⟩
        have em : (((refs bs).length : Int) - 1 - -1).toNat = B.length := by rw [refs_len, eB]; omega
        show ∃ W : Nat → Nat → L2.St → Hp → Prop, _
        rw [show (((refs bs).length : Int) - 1 - (-1 : Int)).toNat = B.length from em]
        refine for_rangeC (lo := ((refs bs).length : Int) - 1) (c := -1) (n := B.length) (fun u σ H' => Same H H' ∧ (∃ v4 : Option V, σ = [some (.ref pa), some (.ref pb), some (.ref D), some (.int ((A.length - 1 - t : Nat) : Int)), v4, none]) ∧ TabAt H' D rows B.length (cell A B (A.length - t) (B.length - u)))
          ⟨s6, ⟨v4, rfl⟩, T2⟩ ?_ ?_
        · rintro u σ H3 hu ⟨s7, ⟨v4', rfl⟩, T3⟩
          have ej : ((refs bs).length : Int) - 1 + (u : Int) * -1 = ((B.length - 1 - u : Nat) : Int) := by rw [refs_len, eB]; omega
          show tIfS _ _ _ _ _ _
          rw [ej]
          generalize hi : A.length - 1 - t = i at *
          generalize hj : B.length - 1 - u = j at *
          have hiA : i < A.length := by omega
          have hjB : j < B.length := by omega
          have eR : A.length - t = i + 1 := by omega
          have eJ : B.length - u = j + 1 := by omega
          rw [eR, eJ] at T3
          have gA : as[i]? = some as[i] := List.getElem?_eq_getElem (by omega)
          have gB : bs[j]? = some bs[j] := List.getElem?_eq_getElem (by omega)
          have LA := pair_at lA gA (List.getElem?_eq_getElem hiA)
          have LB := pair_at lB gB (List.getElem?_eq_getElem hjB)
          refine ⟨_, rfl, _, rfl, pa, _, _, _, rfl, rfl, SqL.of (s7 _ _ hA), atI_nat (refs_at gA), _, rfl, _, rfl, pb, _, _, _, rfl, rfl, SqL.of (s7 _ _ hB), atI_nat (refs_at gB), _, _, dp_line (s7 _ _ LA), dp_line (s7 _ _ LB), shaped_line _, shaped_line _, _, rfl, ?_⟩
          rw [eqv_line]
          obtain ⟨hq, hrow⟩ := T3
          obtain ⟨r0, hr0⟩ : ∃ r, rows[i]? = some r := ⟨_, List.getElem?_eq_getElem (by omega)⟩
          obtain ⟨r1, hr1⟩ : ∃ r, rows[i + 1]? = some r := ⟨_, List.getElem?_eq_getElem (by omega)⟩
          have m0 := fr r0 (List.mem_of_getElem? hr0)
          have c11 : cell A B (i + 1) (j + 1) (i + 1) (j + 1) = lcs (A.drop (i + 1)) (B.drop (j + 1)) := cell_lcs A B (.inl (Nat.le_refl _))
          have c10 : cell A B (i + 1) (j + 1) (i + 1) j = lcs (A.drop (i + 1)) (B.drop j) := cell_lcs A B (.inl (Nat.le_refl _))
          have c01 : cell A B (i + 1) (j + 1) i (j + 1) = lcs (A.drop i) (B.drop (j + 1)) := cell_lcs A B (.inr ⟨rfl, Nat.le_refl _⟩)
          have x11 : (nums (rowOf B.length (cell A B (i + 1) (j + 1) (i + 1))))[j + 1]? = some (nV (lcs (A.drop (i + 1)) (B.drop (j + 1)))) := nums_at (by rw [rowOf_at _ _ (by omega), c11])
          have x10 : (nums (rowOf B.length (cell A B (i + 1) (j + 1) (i + 1))))[j]? = some (nV (lcs (A.drop (i + 1)) (B.drop j))) := nums_at (by rw [rowOf_at _ _ (by omega), c10])
          have x01 : (nums (rowOf B.length (cell A B (i + 1) (j + 1) i)))[j + 1]? = some (nV (lcs (A.drop i) (B.drop (j + 1)))) := nums_at (by rw [rowOf_at _ _ (by omega), c01])
          have fin : ∀ (v : Nat), v = lcs (A.drop i) (B.drop j) → Same H (upd H3 r0 (.lst ((nums (rowOf B.length (cell A B (i + 1) (j + 1) i))).set j (nV v)))) ∧ (∃ v4 : Option V, ([some (.ref pa), some (.ref pb), some (.ref D), some (.int (i : Int)), some (.int (j : Int)), none] : L2.St) = [some (.ref pa), some (.ref pb), some (.ref D), some (.int (i : Int)), v4, none]) ∧
              TabAt (upd H3 r0 (.lst ((nums (rowOf B.length (cell A B (i + 1) (j + 1) i))).set j (nV v)))) D rows B.length (cell A B (A.length - t) (B.length - (u + 1))) := by
            intro v hv
            refine ⟨fun c o z => ?_, ⟨_, rfl⟩, ?_, fun i' r' hi' => ?_⟩
            · rw [upd_ne (ne_of_none z m0.1)]
              exact s7 c o z
            · rw [upd_ne (Ne.symm m0.2)]
              exact hq
            · rw [eR, show B.length - (u + 1) = j by omega]
              by_cases e : r' = r0
              · subst e
                have ei' : i' = i := by
                  have h1 := List.getElem?_eq_some_iff.mp hi'
                  have h2 := List.getElem?_eq_some_iff.mp hr0
                  obtain ⟨p1, q1⟩ := h1
                  obtain ⟨p2, q2⟩ := h2
                  exact (List.getElem_inj hn).mp (q1.trans q2.symm)
                subst ei'
                rw [upd_same]
                unfold nums
                rw [← List.map_set, rowOf_set (g := cell A B (i' + 1) j i') (by rw [hv]; exact cell_lcs A B (.inr ⟨rfl, Nat.le_refl _⟩)) fun k hk _ => ?_]
                unfold cell
                by_cases c : j + 1 ≤ k
                · rw [if_pos (by omega), if_pos (by omega)]
                · rw [if_neg (by omega), if_neg (by omega)]
              · rw [upd_ne e, hrow i' r' hi']
                have ne : i' ≠ i := fun z => by
                  rw [z, hr0] at hi'
                  exact e (Option.some.inj hi').symm
                rw [rowOf_congr (g := cell A B (i + 1) j i') fun k _ => ?_]
                unfold cell
                by_cases c : i + 1 ≤ i'
                · rw [if_pos (by omega), if_pos (by omega)]
                · rw [if_neg (by omega), if_neg (by omega)]
          by_cases c : A[i] = B[j]
          · rw [if_pos (decide_eq_true c)]
            refine ⟨_, rfl, _, rfl, _, _, rfl, rfl, D, _, _, _, rfl, rfl, SqL.of hq, at_of (j := i + 1) (by omega) (refs_at hr1), _, rfl, _, _, rfl, rfl, r1, _, _, _, rfl, rfl, SqL.of (hrow _ _ hr1), at_of (j := j + 1) (by omega) x11, _, _, rfl, rfl, ?_⟩
            refine ⟨_, rfl, _, rfl, D, _, _, _, rfl, rfl, SqL.of hq, atI_nat (refs_at hr0), _, rfl, r0, _, _, j, rfl, rfl, hrow _ _ hr0, ?_, ?_⟩
            · unfold ixN
              rw [nums_len, rowOf_len, if_pos (by omega), if_pos (by omega)]
              rfl
            · exact fin (lcs (A.drop (i + 1)) (B.drop (j + 1)) + 1) (by rw [lcs_at A B hiA hjB, if_pos c])
          · rw [if_neg (by simpa using c)]
            refine ⟨_, rfl, _, rfl, _, _, rfl, rfl, D, _, _, _, rfl, rfl, SqL.of hq, at_of (j := i + 1) (by omega) (refs_at hr1), _, rfl, r1, _, _, _, rfl, rfl, SqL.of (hrow _ _ hr1), atI_nat x10, _, rfl, _, rfl, D, _, _, _, rfl, rfl, SqL.of hq, atI_nat (refs_at hr0), _, rfl, _, _, rfl, rfl, r0, _, _, _, rfl, rfl, SqL.of (hrow _ _ hr0), at_of (j := j + 1) (by omega) x01, _, _, rfl, ?_⟩
            refine ⟨_, rfl, _, rfl, D, _, _, _, rfl, rfl, SqL.of hq, atI_nat (refs_at hr0), _, rfl, r0, _, _, j, rfl, rfl, hrow _ _ hr0, ?_, ?_⟩
            · unfold ixN
              rw [nums_len, rowOf_len, if_pos (by omega), if_pos (by omega)]
              rfl
            · have q := fin (max (lcs (A.drop (i + 1)) (B.drop j)) (lcs (A.drop i) (B.drop (j + 1)))) (by rw [lcs_at A B hiA hjB, if_neg c])
              have em2 : (V.int (if ((lcs (A.drop i) (B.drop (j + 1)) : Nat) : Int) > ((lcs (A.drop (i + 1)) (B.drop j) : Nat) : Int) then ((lcs (A.drop i) (B.drop (j + 1)) : Nat) : Int) else ((lcs (A.drop (i + 1)) (B.drop j) : Nat) : Int))) = nV (max (lcs (A.drop (i + 1)) (B.drop j)) (lcs (A.drop i) (B.drop (j + 1)))) := by
                split
                · rw [Nat.max_eq_right (by omega)]
                · rw [Nat.max_eq_left (by omega)]
              rw [em2]
              exact q
        · rintro σ H3 ⟨s7, ⟨v4', rfl⟩, hq, hrow⟩
          refine ⟨s7, ⟨_, _, rfl⟩, hq, fun i' r' hi' => ?_⟩
          rw [hrow i' r' hi', Nat.sub_self, rowOf_congr (g := cell A B (A.length - (t + 1)) B.length i') fun j hj => ?_]
          rw [cell_row A B _ hj (by omega)]
          congr 1
      · rintro σ H2 ⟨s6, ⟨v3, v4, rfl⟩, hq, hrow⟩
        refine ⟨_, rfl, k H2 D rows s6 hlr ⟨hq, fun i' r' hi' => ?_⟩⟩
        rw [hrow i' r' hi', Nat.sub_self, rowOf_congr (g := fun j => lcs (A.drop i') (B.drop j)) fun j hj => cell_done A B hj]
end
end Wb
namespace Wb
open PySem PySem.Spec PyProof.Rows L2

def spWay : Sp := fun vs H Q _ => ∃ (pa pb : Addr) (A B : Doc), vs = [.ref pa, .ref pb] ∧ DcAt H pa A ∧ DcAt H pb B ∧ A.length ≤ 64 ∧ B.length ≤ 64 ∧
  ∀ (H' : Hp) (q : Addr), Same H H' → H q = none → H' q = some (.lst (zs ((Hist.way A B).map nStep))) → Q (.ref q) H'
abbrev sWay : Stmt := top 7
structure StepT (mg : Str → Option Value) : Prop where
  kept : ∃ t, mg "KEPT" = some (.int 0 t)
  dropped : ∃ t, mg "DROPPED" = some (.int 1 t)
  added : ∃ t, mg "ADDED" = some (.int 2 t)
section
variable {P : Program} {w : World} {K : PySem.W.Frag} {mg : Str → Option Value} {base : Heap}
theorem scWay : FnScope ["a", "b", "table", "found", "i", "j"] ["a", "b"] (defScope sWay) := ⟨rfl, rfl, rfl, by decide +kernel, rfl, by decide +kernel, by decide +kernel⟩
theorem ok_way {f : Addr} {fd : FuncData} (F : Fun K "way" "way" sWay f fd) (B0 : BltT mg) (S0 : StepT mg) (GM : Has P w K mg base CX0 1 "most_kept" ["a", "b"] spMost) : FnOk P w K mg base CX0 2 f fd ["a", "b"] spWay := by
  obtain ⟨fM, fdM, GM, mM, kM, bM⟩ := GM
  refine F.ok scWay (fun vs H Q E h => ?_) (fun cdv A outer s H vs Q E hr h => ?_)
  · obtain ⟨pa, pb, A, B, rfl, _⟩ := h
    rfl
  · have nd := scWay.nd
    refine ⟨_, pss_cons (ps_set (i := 2) nd rfl (.inl rfl) (pe_call GM hr (by rfl) mM kM bM .nil pass0 (pa_cons (pv 0) (pa_cons (pv 1) pa_nil))))
      (pss_cons (ps_set (i := 3) nd rfl (.inl rfl) (pe_lst pa_nil))
      (pss_cons (ps_set (i := 4) nd rfl (.inl rfl) pe_int)
      (pss_cons (ps_set (i := 5) nd rfl (.inl rfl) pe_int)
      (pss_cons (ps_while PassesOwn.never
          (PW.pt (pw_or (pt_cmpR op_lt (pv 4) (pe_callB call_len_seq (by rfl) B0.len boot_len (pa_cons (pv 0) pa_nil)) (nomark _)) (pw_or1 (pt_cmpR op_lt (pv 5) (pe_callB call_len_seq (by rfl) B0.len boot_len (pa_cons (pv 1) pa_nil)) (nomark _)))))
          (pss_cons (ps_if
              (PW.pt (pw_and (pt_cmpR op_lt (pv 4) (pe_callB call_len_seq (by rfl) B0.len boot_len (pa_cons (pv 0) pa_nil)) (nomark _))
                (pw_and (pt_cmpR op_lt (pv 5) (pe_callB call_len_seq (by rfl) B0.len boot_len (pa_cons (pv 1) pa_nil)) (nomark _))
                (pw_and1 (pt_cmpR (op_eqD hr.units) (pe_ix ix_list (pv 0) (pv 4) (fun _ _ => rfl)) (pe_ix ix_list (pv 1) (pv 5) (fun _ _ => rfl)) (nomark _))))))
              (pss_one (ps_expr (pe_bm PySem.F.plainAttrs_list PySem.F.slot_list_append PySem.F.type_list_append mt_append (pv 3) (pa_cons (pe_gi (by rfl) S0.kept) pa_nil))))
              (pss_one (ps_if
                (PW.pt (pw_or (pt_cmpR op_eq (pv 5) (pe_callB call_len_seq (by rfl) B0.len boot_len (pa_cons (pv 1) pa_nil)) (nomark _))
                  (pw_or1 (PW.pt (pw_and (pt_cmpR op_lt (pv 4) (pe_callB call_len_seq (by rfl) B0.len boot_len (pa_cons (pv 0) pa_nil)) (nomark _))
                    (pw_and1 (pt_cmpR op_ge (pe_ix ix_list (pe_ix ix_list (pv 2) (pe_op op_add (pv 4) pe_int) (fun _ _ => rfl)) (pv 5) (fun _ _ => rfl)) (pe_ix ix_list (pe_ix ix_list (pv 2) (pv 4) (fun _ _ => rfl)) (pe_op op_add (pv 5) pe_int) (fun _ _ => rfl)) (nomark _))))))))
                (pss_one (ps_expr (pe_bm PySem.F.plainAttrs_list PySem.F.slot_list_append PySem.F.type_list_append mt_append (pv 3) (pa_cons (pe_gi (by rfl) S0.dropped) pa_nil))))
                (pss_one (ps_expr (pe_bm PySem.F.plainAttrs_list PySem.F.slot_list_append PySem.F.type_list_append mt_append (pv 3) (pa_cons (pe_gi (by rfl) S0.added) pa_nil)))))))
            (pss_cons (ps_aug (i := 4) nd rfl (.inl rfl) (pe_callTy call_int1 (by rfl) B0.int boot_int (pa_cons (pe_cmpR op_ne (pe_ix ix_list (pv 3) (pe_un un_neg pe_int) (fun _ _ => rfl)) (pe_gi (by rfl) S0.added) (nomark _)) pa_nil)) ip_add)
            (pss_one (ps_aug (i := 5) nd rfl (.inl rfl) (pe_callTy call_int1 (by rfl) B0.int boot_int (pa_cons (pe_cmpR op_ne (pe_ix ix_list (pv 3) (pe_un un_neg pe_int) (fun _ _ => rfl)) (pe_gi (by rfl) S0.dropped) (nomark _)) pa_nil)) ip_add)))))
      (pss_one (ps_ret (pv 3))))))), ?_⟩
    obtain ⟨pa, pb, A, B, rfl, dA, dB, hA64, hB64, k⟩ := h
    refine ⟨_, rfl, _, rfl, pa, pb, A, B, rfl, dA, dB, hA64, hB64, fun H1 tb rows s1 hlr T1 => ?_⟩
    refine ⟨Nat.zero_le _, fun fnd hf => ?_⟩
    obtain ⟨as, hA, lA⟩ := dA
    obtain ⟨bs, hB, lB⟩ := dB
    have eA : as.length = A.length := lA.length
    have eB : bs.length = B.length := lB.length
    have hfH : H fnd = none := s1.free hf
    refine ⟨fun m σ H' => Same H1 H' ∧ ∃ (i j : Nat) (done : List Int), σ = [some (.ref pa), some (.ref pb), some (.ref tb), some (.ref fnd), some (.int (i : Int)), some (.int (j : Int))] ∧ m = (A.length - i) + (B.length - j) ∧ i ≤ A.length ∧ j ≤ B.length ∧
        H' fnd = some (.lst (zs done)) ∧ done.length ≤ i + j ∧ done ++ (Hist.way (A.drop i) (B.drop j)).map nStep = (Hist.way A B).map nStep,
      ⟨_, same_new hf, 0, 0, [], rfl, rfl, Nat.zero_le _, Nat.zero_le _, upd_same, Nat.le_refl _, rfl⟩, ?_⟩
    rintro m σ H' ⟨s5, i, j, done, rfl, rfl, hi, hj, hfd, hlen, hw⟩
    have sH : Same H H' := s1.trans s5
    have qA : SqL K H' pa (refs as) := SqL.of (sH _ _ hA)
    have qB : SqL K H' pb (refs bs) := SqL.of (sH _ _ hB)
    have lenA : ((refs as).length : Int) = A.length := by rw [refs_len, eA]
    have lenB : ((refs bs).length : Int) = B.length := by rw [refs_len, eB]
    have hfa : fnd ≠ pa := fun e => by rw [e, hA] at hfH; cases hfH
    have hfb : fnd ≠ pb := fun e => by rw [e, hB] at hfH; cases hfH
    have go : ∀ (st : Hist.Step) (i' j' : Nat), Hist.way (A.drop i) (B.drop j) = st :: Hist.way (A.drop i') (B.drop j') → i' = i + (if nStep st ≠ 2 then 1 else 0) → j' = j + (if nStep st ≠ 1 then 1 else 0) → i' ≤ A.length → j' ≤ B.length → (A.length - i') + (B.length - j') < (A.length - i) + (B.length - j) →
        tSeq (tAug 4 (tCB (fun xs H Q => (∃ i, xs = [V.int i] ∧ Q (.int i) H) ∨ ∃ k, xs = [V.bl k] ∧ Q (.int (if k = true then 1 else 0)) H) (tCons (tOp rNe (tOp (rIxL K) (tVar 3) (tUn (rU fun i => .int (-i)) (tC (.int 1)))) (tC (.int 2))) tNil)) (ipI fun i j => i + j))
          (tAug 5 (tCB (fun xs H Q => (∃ i, xs = [V.int i] ∧ Q (.int i) H) ∨ ∃ k, xs = [V.bl k] ∧ Q (.int (if k = true then 1 else 0)) H) (tCons (tOp rNe (tOp (rIxL K) (tVar 3) (tUn (rU fun i => .int (-i)) (tC (.int 1)))) (tC (.int 1))) tNil)) (ipI fun i j => i + j))
          { nx := fun σ' H'' => ∃ m', m' < (A.length - i) + (B.length - j) ∧ Same H1 H'' ∧ ∃ (i j : Nat) (done : List Int), σ' = [some (.ref pa), some (.ref pb), some (.ref tb), some (.ref fnd), some (.int (i : Int)), some (.int (j : Int))] ∧ m' = (A.length - i) + (B.length - j) ∧ i ≤ A.length ∧ j ≤ B.length ∧
              H'' fnd = some (.lst (zs done)) ∧ done.length ≤ i + j ∧ done ++ (Hist.way (A.drop i) (B.drop j)).map nStep = (Hist.way A B).map nStep, rt := Q }
          [some (.ref pa), some (.ref pb), some (.ref tb), some (.ref fnd), some (.int (i : Int)), some (.int (j : Int))] (upd H' fnd (.lst (zs done ++ [V.int (nStep st)]))) := by
      intro st i' j' hst ei ej hi' hj' hm
      have hF : upd H' fnd (.lst (zs done ++ [V.int (nStep st)])) fnd = some (.lst (zs done ++ [V.int (nStep st)])) := upd_same
      refine ⟨_, rfl, _, rfl, _, rfl, fnd, _, _, _, rfl, rfl, SqL.of hF, atI_last _ _, rfl, .inr ⟨_, rfl, _, _, rfl, rfl, ?_⟩⟩
      refine ⟨_, rfl, _, rfl, _, rfl, fnd, _, _, _, rfl, rfl, SqL.of hF, atI_last _ _, rfl, .inr ⟨_, rfl, _, _, rfl, rfl, ?_⟩⟩
      refine ⟨_, hm, fun c o z => ?_, i', j', done ++ [nStep st], ?_, rfl, hi', hj', ?_, ?_, ?_⟩
      · rw [upd_ne (ne_of_none z hf)]
        exact s5 c o z
      · have e1 : (i : Int) + (if (!decide (V.int (nStep st) = V.int 2)) = true then 1 else 0) = (i' : Int) := by
          rw [ei]
          cases st <;> rfl
        have e2 : (j : Int) + (if (!decide (V.int (nStep st) = V.int 1)) = true then 1 else 0) = (j' : Int) := by
          rw [ej]
          cases st <;> rfl
        show ([_, _, _, _, some (V.int ((i : Int) + (if (!decide (V.int (nStep st) = V.int 2)) = true then 1 else 0))), some (V.int ((j : Int) + (if (!decide (V.int (nStep st) = V.int 1)) = true then 1 else 0)))] : L2.St) = _
        rw [e1, e2]
      · rw [upd_same, zs_app]
        rfl
      · rw [List.length_append, List.length_singleton]
        cases st <;> simp [nStep, Hist.Step.nums] at ei ej <;> omega
      · rw [← hw, hst, List.append_assoc]
        rfl
    have hroom : (zs done).length < sizeLine := by rw [zs_len]; exact ltline (by omega)
    refine (Tis.or (a := decide ((i : Int) < ((refs as).length : Int))) (b := decide ((j : Int) < ((refs bs).length : Int))) (fun Q q => ⟨_, rfl, _, rfl, pa, _, rfl, .inl qA, _, _, rfl, rfl, _, rfl, q⟩) (fun _ Q q => ⟨_, rfl, _, rfl, pb, _, rfl, .inl qB, _, _, rfl, rfl, _, rfl, q⟩)) _ ?_
    refine iteB (fun hor => ?_) (fun hnot => ?_)
    · rw [lenA, lenB] at hor
      have hor' : i < A.length ∨ j < B.length := by
        rw [Bool.or_eq_true, decide_eq_true_eq, decide_eq_true_eq] at hor
        omega
      refine ⟨_, fun _ _ h => h, ?_⟩
      refine (Tis.and (a := decide ((i : Int) < ((refs as).length : Int))) (b := decide ((j : Int) < ((refs bs).length : Int)) && decide (A[i]? = B[j]?)) (fun Q q => ⟨_, rfl, _, rfl, pa, _, rfl, .inl qA, _, _, rfl, rfl, _, rfl, q⟩)
        (fun ha => Tis.and (fun Q q => ⟨_, rfl, _, rfl, pb, _, rfl, .inl qB, _, _, rfl, rfl, _, rfl, q⟩) (fun hb Q q => ?_))) _ ?_
      · rw [decide_eq_true_eq, lenA] at ha
        rw [decide_eq_true_eq, lenB] at hb
        have hiA : i < A.length := by omega
        have hjB : j < B.length := by omega
        have gA : as[i]? = some as[i] := List.getElem?_eq_getElem (by omega)
        have gB : bs[j]? = some bs[j] := List.getElem?_eq_getElem (by omega)
        have LA := pair_at lA gA (List.getElem?_eq_getElem hiA)
        have LB := pair_at lB gB (List.getElem?_eq_getElem hjB)
        refine ⟨_, rfl, _, rfl, pa, _, _, _, rfl, rfl, qA, atI_nat (refs_at gA), _, rfl, _, rfl, pb, _, _, _, rfl, rfl, qB, atI_nat (refs_at gB), _, _, dp_line (sH _ _ LA), dp_line (sH _ _ LB), shaped_line _, shaped_line _, _, rfl, ?_⟩
        rw [eqv_line]
        rw [List.getElem?_eq_getElem hiA, List.getElem?_eq_getElem hjB] at q
        simpa using q
      refine iteB (fun hk => ?_) (fun hnk => ?_)
      · rw [Bool.and_eq_true, Bool.and_eq_true, decide_eq_true_eq, decide_eq_true_eq, decide_eq_true_eq, lenA, lenB] at hk
        obtain ⟨ha, hb, he⟩ := hk
        have hiA : i < A.length := by omega
        have hjB : j < B.length := by omega
        rw [List.getElem?_eq_getElem hiA, List.getElem?_eq_getElem hjB] at he
        refine ⟨_, rfl, .inl ⟨rfl, _, SqL.of hfd⟩, fnd, _, _, rfl, rfl, hfd, hroom, ?_⟩
        exact go .keep (i + 1) (j + 1) (way_at_keep A B hiA hjB (Option.some.inj he)) rfl rfl hiA hjB (by omega)
      · have hnk' : ¬ (i < A.length ∧ j < B.length ∧ A[i]? = B[j]?) := fun z => by
          rw [lenA, lenB, decide_eq_true (by omega), decide_eq_true (by omega), decide_eq_true z.2.2] at hnk
          cases hnk
        refine (Tis.or (a := decide (V.int (j : Int) = V.int ((refs bs).length : Int))) (b := decide ((i : Int) < ((refs as).length : Int)) && decide (((lcs (A.drop i) (B.drop (j + 1)) : Nat) : Int) ≤ ((lcs (A.drop (i + 1)) (B.drop j) : Nat) : Int))) (fun Q q => ⟨_, rfl, _, rfl, pb, _, rfl, .inl qB, rfl, _, rfl, q⟩)
          (fun hjn => Tis.and (fun Q q => ⟨_, rfl, _, rfl, pa, _, rfl, .inl qA, _, _, rfl, rfl, _, rfl, q⟩) (fun ha Q q => ?_))) _ ?_
        · rw [decide_eq_true_eq, lenA] at ha
          rw [decide_eq_false_iff_not, lenB] at hjn
          have hiA : i < A.length := by omega
          have hjB : j < B.length := by
            have : j ≠ B.length := fun e => hjn (by rw [e])
            omega
          obtain ⟨hq, hrow⟩ := T1
          have r0 : rows[i]? = some rows[i] := List.getElem?_eq_getElem (by omega)
          have r1 : rows[i + 1]? = some rows[i + 1] := List.getElem?_eq_getElem (by omega)
          refine ⟨_, rfl, _, rfl, _, _, rfl, rfl, tb, _, _, _, rfl, rfl, SqL.of (s5 _ _ hq), at_of (j := i + 1) (by omega) (refs_at r1), _, rfl, rows[i + 1], _, _, _, rfl, rfl, SqL.of (s5 _ _ (hrow _ _ r1)), atI_nat (nums_at (rowOf_at _ _ hj)), ?_⟩
          refine ⟨_, rfl, _, rfl, tb, _, _, _, rfl, rfl, SqL.of (s5 _ _ hq), atI_nat (refs_at r0), _, rfl, _, _, rfl, rfl, rows[i], _, _, _, rfl, rfl, SqL.of (s5 _ _ (hrow _ _ r0)), at_of (j := j + 1) (by omega) (nums_at (rowOf_at _ _ hjB)), _, _, rfl, rfl, _, rfl, ?_⟩
          exact q
        refine iteB (fun hd => ?_) (fun hnd => ?_)
        · refine ⟨_, rfl, .inl ⟨rfl, _, SqL.of hfd⟩, fnd, _, _, rfl, rfl, hfd, hroom, ?_⟩
          rw [Bool.or_eq_true, Bool.and_eq_true, decide_eq_true_eq, decide_eq_true_eq, decide_eq_true_eq, lenA, lenB] at hd
          have hd' : B.length ≤ j ∨ (i < A.length ∧ lcs (A.drop i) (B.drop (j + 1)) ≤ lcs (A.drop (i + 1)) (B.drop j)) := by
            rcases hd with e | ⟨h1, h2⟩
            · have := V.int.inj e
              exact .inl (by omega)
            · exact .inr ⟨by omega, by omega⟩
          have hiA : i < A.length := by
            rcases hd' with e | e
            · omega
            · exact e.1
          exact go .drop (i + 1) j (way_at_drop A B hiA (fun z => hnk' ⟨hiA, z.1, z.2⟩) (hd'.imp id And.right)) rfl rfl hiA hj (by omega)
        · refine ⟨_, rfl, .inl ⟨rfl, _, SqL.of hfd⟩, fnd, _, _, rfl, rfl, hfd, hroom, ?_⟩
          rw [Bool.or_eq_false_iff, Bool.and_eq_false_iff, decide_eq_false_iff_not, decide_eq_false_iff_not, decide_eq_false_iff_not, lenA, lenB] at hnd
          obtain ⟨n1, n2⟩ := hnd
          have hjB : j < B.length := by
            have : j ≠ B.length := fun e => n1 (by rw [e])
            omega
          exact go (.add B[j]) i (j + 1) (way_at_add A B hjB (fun z => hnk' ⟨z.1, hjB, z.2⟩) (n2.imp (fun z => by omega) (fun z => by omega))) rfl rfl hi hjB (by omega)
    · rw [Bool.or_eq_false_iff, decide_eq_false_iff_not, decide_eq_false_iff_not, lenA, lenB] at hnot
      obtain ⟨n1, n2⟩ := hnot
      rw [way_at_end A B (by omega) (by omega), List.map_nil, List.append_nil] at hw
      exact ⟨_, rfl, k H' fnd sH hfH (by rw [hfd, hw])⟩
end
end Wb
namespace Wb
open PySem PySem.Spec PyProof.Rows L2

def Keep (x : Addr) (H H' : Hp) : Prop := ∀ b o, H b = some o → b ≠ x → H' b = some o
theorem Keep.same {x : Addr} {H H0 H' : Hp} (k : Keep x H0 H') (s : Same H H0) (hx : H x = none) : Same H H' := fun b o e => k b o (s b o e) (ne_of_none e hx)
theorem Keep.upd {x : Addr} {H H' : Hp} {o : HO} (k : Keep x H H') : Keep x H (upd H' x o) := fun b u e n => by
  rw [upd_ne n]
  exact k b u e n
theorem Keep.trans {x : Addr} {H H' H2 : Hp} (k : Keep x H H') (s : Same H' H2) : Keep x H H2 := fun b u e n => s b u (k b u e n)

def spKept : Sp := fun vs H Q _ => ∃ (pa pb : Addr) (A B : Doc), vs = [.ref pa, .ref pb] ∧ DcAt H pa A ∧ DcAt H pb B ∧ A.length ≤ 64 ∧ B.length ≤ 64 ∧
  ∀ (H' : Hp) (q : Addr), Same H H' → H q = none → H' q = some (.lst (zs ((Hist.places A B).map encP))) → Q (.ref q) H'
abbrev sKept : Stmt := top 8
theorem placesFrom_one (s : Hist.Step) (j : Nat) : (Hist.placesFrom [s] j).map encP = (if nStep s = 0 then [(j : Int)] else []) ++ (if nStep s = 1 then [-1] else []) ∧ (cntB [s] : Int) = if nStep s ≠ 1 then 1 else 0 := by
  cases s with
  | keep => exact ⟨rfl, rfl⟩
  | drop => exact ⟨rfl, rfl⟩
  | add l => exact ⟨rfl, rfl⟩
section
variable {P : Program} {w : World} {K : PySem.W.Frag} {mg : Str → Option Value} {base : Heap}
theorem scKept : FnScope ["a", "b", "found", "at", "step"] ["a", "b"] (defScope sKept) := ⟨rfl, rfl, rfl, by decide +kernel, rfl, by decide +kernel, by decide +kernel⟩
theorem ok_kept {f : Addr} {fd : FuncData} (F : Fun K "kept_as" "kept_as" sKept f fd) (B0 : BltT mg) (S0 : StepT mg) (GW : Has P w K mg base CX0 2 "way" ["a", "b"] spWay) : FnOk P w K mg base CX0 3 f fd ["a", "b"] spKept := by
  obtain ⟨fW, fdW, GW, mW, kW, bW⟩ := GW
  refine F.ok scKept (fun vs H Q E h => ?_) (fun cdv A outer s H vs Q E hr h => ?_)
  · obtain ⟨pa, pb, A, B, rfl, _⟩ := h
    rfl
  · have nd := scKept.nd
    refine ⟨_, pss_cons (ps_set (i := 2) nd rfl (.inl rfl) (pe_lst pa_nil))
      (pss_cons (ps_set (i := 3) nd rfl (.inl rfl) pe_int)
      (pss_cons (ps_for PassesOwn.never rfl (pi_list (pe_call GW hr (by rfl) mW kW bW .nil pass0 (pa_cons (pv 0) (pa_cons (pv 1) pa_nil)))) (pg_name (i := 4) nd rfl (.inl rfl))
        (pss_cons (ps_if (pt_cmpR op_eq (pv 4) (pe_gi (by rfl) S0.kept) (nomark _)) (pss_one (ps_expr (pe_bm PySem.F.plainAttrs_list PySem.F.slot_list_append PySem.F.type_list_append mt_append (pv 2) (pa_cons (pv 3) pa_nil)))) pss_nil)
        (pss_cons (ps_if (pt_cmpR op_eq (pv 4) (pe_gi (by rfl) S0.dropped) (nomark _)) (pss_one (ps_expr (pe_bm PySem.F.plainAttrs_list PySem.F.slot_list_append PySem.F.type_list_append mt_append (pv 2) (pa_cons (pe_un un_neg pe_int) pa_nil)))) pss_nil)
        (pss_one (ps_aug (i := 3) nd rfl (.inl rfl) (pe_callTy call_int1 (by rfl) B0.int boot_int (pa_cons (pe_cmpR op_ne (pv 4) (pe_gi (by rfl) S0.dropped) (nomark _)) pa_nil)) ip_add)))))
      (pss_one (ps_ret (pv 2))))), ?_⟩
    obtain ⟨pa, pb, A, B, rfl, dA, dB, hA64, hB64, k⟩ := h
    refine ⟨Nat.zero_le _, fun fnd hf => ?_⟩
    have s0 : Same H (upd H fnd (.lst [])) := same_new hf
    refine ⟨_, rfl, _, rfl, pa, pb, A, B, rfl, dA.mono s0, dB.mono s0, hA64, hB64, fun H1 q s1 hq hq1 => ?_⟩
    have hqf : q ≠ fnd := fun e => by rw [e, upd_same] at hq; cases hq
    have lW := way_len_le A B
    refine ⟨q, rfl, ⟨_, SqL.of hq1⟩, for_list (K := K) (a := q) (xs := zs ((Hist.way A B).map nStep)) (fun i σ H' => Keep fnd H1 H' ∧ ∃ v4 : Option V, σ = [some (.ref pa), some (.ref pb), some (.ref fnd), some (.int (cntB ((Hist.way A B).take i) : Nat)), v4] ∧ H' fnd = some (.lst (zs ((Hist.placesFrom ((Hist.way A B).take i) 0).map encP))))
      ⟨fun _ _ e _ => e, none, rfl, s1 _ _ upd_same⟩ (fun i σ H' _ ⟨s5, _⟩ => SqL.of (s5 _ _ hq1 hqf)) ?_ ?_⟩
    · rintro i x σ H' hx ⟨s5, v4, rfl, hfd⟩
      obtain ⟨z, hz, rfl⟩ := zs_of hx
      rw [List.getElem?_map] at hz
      obtain ⟨st, hst, rfl⟩ : ∃ st, (Hist.way A B)[i]? = some st ∧ nStep st = z := by
        cases e : (Hist.way A B)[i]? with
        | none => rw [e] at hz; cases hz
        | some st => rw [e] at hz; exact ⟨st, rfl, Option.some.inj hz⟩
      have tk := take_more hst
      have e1 : Hist.placesFrom ((Hist.way A B).take (i + 1)) 0 = Hist.placesFrom ((Hist.way A B).take i) 0 ++ Hist.placesFrom [st] (cntB ((Hist.way A B).take i)) := by rw [tk, placesFrom_app, Nat.zero_add]
      have e2 : cntB ((Hist.way A B).take (i + 1)) = cntB ((Hist.way A B).take i) + cntB [st] := by rw [tk, cntB_app]
      obtain ⟨p1, p2⟩ := placesFrom_one st (cntB ((Hist.way A B).take i))
      have hlen : (Hist.placesFrom ((Hist.way A B).take i) 0).length ≤ 128 := by
        rw [placesFrom_len]
        have h1 : cntA ((Hist.way A B).take i) ≤ ((Hist.way A B).take i).length := List.length_filter_le _ _
        have h2 : ((Hist.way A B).take i).length ≤ (Hist.way A B).length := List.length_take_le' _ _
        omega
      have fin : ∀ H2, Keep fnd H1 H2 → H2 fnd = some (.lst (zs ((Hist.placesFrom ((Hist.way A B).take i) 0).map encP ++ ((if nStep st = 0 then [(cntB ((Hist.way A B).take i) : Int)] else []) ++ (if nStep st = 1 then [-1] else []))))) →
          tAug 3 (tCB (fun xs H Q => (∃ i, xs = [V.int i] ∧ Q (.int i) H) ∨ ∃ k, xs = [V.bl k] ∧ Q (.int (if k = true then 1 else 0)) H) (tCons (tOp rNe (tVar 4) (tC (.int 1))) tNil)) (ipI fun i j => i + j)
            { nx := fun σ H' => Keep fnd H1 H' ∧ ∃ v4 : Option V, σ = [some (.ref pa), some (.ref pb), some (.ref fnd), some (.int (cntB ((Hist.way A B).take (i + 1)) : Nat)), v4] ∧ H' fnd = some (.lst (zs ((Hist.placesFrom ((Hist.way A B).take (i + 1)) 0).map encP))), rt := Q }
            [some (.ref pa), some (.ref pb), some (.ref fnd), some (.int (cntB ((Hist.way A B).take i) : Nat)), some (.int (nStep st))] H2 := by
        intro H2 s6 h6
        refine ⟨_, rfl, _, rfl, rfl, .inr ⟨_, rfl, _, _, rfl, rfl, s6, some (.int (nStep st)), ?_, ?_⟩⟩
        · show ([_, _, _, some (V.int ((cntB ((Hist.way A B).take i) : Nat) + (if (!decide (V.int (nStep st) = V.int 1)) = true then 1 else 0))), _] : L2.St) = _
          have e3 : (if (!decide (V.int (nStep st) = V.int 1)) = true then (1 : Int) else 0) = (cntB [st] : Nat) := by
            rw [p2]
            cases st <;> rfl
          rw [e3, e2]
          rfl
        · rw [e1, List.map_append, p1]
          exact h6
      have room1 : (zs ((Hist.placesFrom ((Hist.way A B).take i) 0).map encP)).length < sizeLine := by
        rw [zs_len, List.length_map]
        exact ltline (by omega)
      refine ⟨_, rfl, rfl, _, rfl, iteB (fun h0 => ?_) (fun h0 => ?_)⟩
      · have n0 : nStep st = 0 := V.int.inj (of_decide_eq_true h0)
        have n1 : ¬ nStep st = 1 := by rw [n0]; decide
        refine ⟨_, rfl, .inl ⟨rfl, _, SqL.of hfd⟩, _, rfl, fnd, _, _, rfl, rfl, hfd, room1, ?_⟩
        refine ⟨_, rfl, rfl, _, rfl, iteB (fun h1 => absurd (V.int.inj (of_decide_eq_true h1)) n1) (fun _ => ?_)⟩
        refine fin _ s5.upd ?_
        rw [upd_same, if_pos n0, if_neg n1, zs_app]
        rfl
      · have n0 : ¬ nStep st = 0 := fun e => of_decide_eq_false h0 (by rw [e])
        refine ⟨_, rfl, rfl, _, rfl, iteB (fun h1 => ?_) (fun h1 => ?_)⟩
        · have n1 : nStep st = 1 := V.int.inj (of_decide_eq_true h1)
          refine ⟨_, rfl, .inl ⟨rfl, _, SqL.of hfd⟩, _, rfl, fnd, _, _, rfl, rfl, hfd, room1, ?_⟩
          refine fin _ s5.upd ?_
          rw [upd_same, if_neg n0, if_pos n1, zs_app]
          rfl
        · have n1 : ¬ nStep st = 1 := fun e => of_decide_eq_false h1 (by rw [e])
          refine fin _ s5 ?_
          rw [hfd, if_neg n0, if_neg n1, List.append_nil, List.append_nil]
    · rintro σ H' ⟨s5, v4, rfl, hfd⟩
      rw [zs_len, List.length_map, List.take_length] at hfd
      exact ⟨_, rfl, k H' fnd (s5.same (s0.trans s1) hf) hf hfd⟩
end
end Wb
namespace Wb
open PySem PySem.Spec PyProof.Rows L2

theorem PartAt.keep {C x : Addr} {H H' : Hp} {ys : List V} (k : Keep x H H') (hx : H x = some (.lst ys)) {p : Addr} {q : T3 × T3} (h : PartAt C H p q) : PartAt C H' p q := by
  obtain ⟨dx, tb, te, h1, h2, h3⟩ := h
  exact ⟨dx, tb, te, k _ _ h1 (ne_of h1 hx (by intro z; cases z)), k _ _ h2 (ne_of h2 hx (by intro z; cases z)), k _ _ h3 (ne_of h3 hx (by intro z; cases z))⟩
theorem partLoop_len : ∀ (l : List (Option Nat × Option Nat)) (i : Nat) (s : List (T3 × T3) × T3), (partLoop i l s).1.length ≤ s.1.length + l.length
  | [], _, _ => Nat.le_refl _
  | x :: l, i, s => by
    have q := partLoop_len l (i + 1) (partStep i x s)
    have h : (partStep i x s).1.length ≤ s.1.length + 1 := by
      unfold partStep
      split
      · rw [List.length_append]; exact Nat.le_refl _
      · exact Nat.le_succ _
    rw [List.length_cons]
    show (partLoop (i + 1) l (partStep i x s)).1.length ≤ _
    omega
def spParts (C : Addr) : Sp := fun vs H Q _ => ∃ (po pa pb : Addr) (O A B : Doc), vs = [.ref po, .ref pa, .ref pb] ∧ DcAt H po O ∧ DcAt H pa A ∧ DcAt H pb B ∧ O.length ≤ 64 ∧ A.length ≤ 64 ∧ B.length ≤ 64 ∧
  ∀ (H' : Hp) (q : Addr) (ps : List Addr), Same H H' → H' q = some (.lst (refs ps)) → Paired (PartAt C H') ps (partsP O A B) → Q (.ref q) H'
abbrev sParts : Stmt := top 9
theorem enc_nonneg {o : Option Nat} (h : (0 : Int) ≤ encP o) : ∃ j, o = some j := by
  cases o with
  | none => exact absurd h (by decide)
  | some j => exact ⟨j, rfl⟩
section
variable {P : Program} {w : World} {K : PySem.W.Frag} {mg : Str → Option Value} {base : Heap}
theorem scParts : FnScope ["o", "a", "b", "in_a", "in_b", "found", "begins", "place"] ["o", "a", "b"] (defScope sParts) := ⟨rfl, rfl, rfl, by decide +kernel, rfl, by decide +kernel, by decide +kernel⟩
theorem ok_parts {f C : Addr} {fd : FuncData} (F : Fun K "parts_of" "parts_of" sParts f fd) (B0 : BltT mg) (GK : Has P w K mg base CX0 3 "kept_as" ["a", "b"] spKept) (GP : HasC P w K mg base CX0 1 C "Part" ["self", "begins", "ends"] (spNew C ["begins", "ends"])) : FnOk P w K mg base CX0 4 f fd ["o", "a", "b"] (spParts C) := by
  obtain ⟨fK, fdK, GK, mK, kK, bK⟩ := GK
  obtain ⟨fP, fdP, GP, MP, mP, bP⟩ := GP
  refine F.ok scParts (fun vs H Q E h => ?_) (fun cdv A outer s H vs Q E hr h => ?_)
  · obtain ⟨po, pa, pb, O, A, B, rfl, _⟩ := h
    rfl
  · have nd := scParts.nd
    have hr2 : Room 2 _ := hr.mono (by decide)
    refine ⟨_, pss_cons (ps_set (i := 3) nd rfl (.inl rfl) (pe_call GK hr (by rfl) mK kK bK .nil pass0 (pa_cons (pv 0) (pa_cons (pv 1) pa_nil))))
      (pss_cons (ps_set (i := 4) nd rfl (.inl rfl) (pe_call GK hr (by rfl) mK kK bK .nil pass0 (pa_cons (pv 0) (pa_cons (pv 2) pa_nil))))
      (pss_cons (ps_set (i := 5) nd rfl (.inl rfl) (pe_lst pa_nil))
      (pss_cons (ps_set (i := 6) nd rfl (.inl rfl) (pe_tup (pa_cons pe_int (pa_cons pe_int (pa_cons pe_int pa_nil)))))
      (pss_cons (ps_for PassesOwn.never rfl (pi_range1 (by rfl) B0.range (pa_cons (pe_callB call_len_seq (by rfl) B0.len boot_len (pa_cons (pv 0) pa_nil)) pa_nil)) (pg_name (i := 7) nd rfl (.inl rfl))
        (pss_one (ps_if (PW.pt (pw_and (pt_cmpR op_ge (pe_ix ix_list (pv 3) (pv 7) (fun _ _ => rfl)) pe_int (nomark _)) (pw_and1 (pt_cmpR op_ge (pe_ix ix_list (pv 4) (pv 7) (fun _ _ => rfl)) pe_int (nomark _)))))
          (pss_cons (ps_expr (pe_bm PySem.F.plainAttrs_list PySem.F.slot_list_append PySem.F.type_list_append mt_append (pv 5) (pa_cons (pe_make MP GP hr2 (by rfl) mP bP .nil pass0 (pa_cons (pv 6) (pa_cons (pe_tup (pa_cons (pv 7) (pa_cons (pe_ix ix_list (pv 3) (pv 7) (fun _ _ => rfl)) (pa_cons (pe_ix ix_list (pv 4) (pv 7) (fun _ _ => rfl)) pa_nil)))) pa_nil))) pa_nil)))
          (pss_one (ps_set (i := 6) nd rfl (.inl rfl) (pe_tup (pa_cons (pe_op op_add (pv 7) pe_int) (pa_cons (pe_op op_add (pe_ix ix_list (pv 3) (pv 7) (fun _ _ => rfl)) pe_int) (pa_cons (pe_op op_add (pe_ix ix_list (pv 4) (pv 7) (fun _ _ => rfl)) pe_int) pa_nil)))))))
          pss_nil)))
      (pss_cons (ps_expr (pe_bm PySem.F.plainAttrs_list PySem.F.slot_list_append PySem.F.type_list_append mt_append (pv 5) (pa_cons (pe_make MP GP hr2 (by rfl) mP bP .nil pass0 (pa_cons (pv 6) (pa_cons (pe_tup (pa_cons (pe_callB call_len_seq (by rfl) B0.len boot_len (pa_cons (pv 0) pa_nil)) (pa_cons (pe_callB call_len_seq (by rfl) B0.len boot_len (pa_cons (pv 1) pa_nil)) (pa_cons (pe_callB call_len_seq (by rfl) B0.len boot_len (pa_cons (pv 2) pa_nil)) pa_nil)))) pa_nil))) pa_nil)))
      (pss_one (ps_ret (pv 5)))))))), ?_⟩
    obtain ⟨po, pa, pb, O, A, B, rfl, dO, dA, dB, hO64, hA64, hB64, k⟩ := h
    refine ⟨_, rfl, _, rfl, po, pa, O, A, rfl, dO, dA, hO64, hA64, fun H1 qa s1 _ hqa => ?_⟩
    refine ⟨_, rfl, _, rfl, po, pb, O, B, rfl, dO.mono s1, dB.mono s1, hO64, hB64, fun H2 qb s2 _ hqb => ?_⟩
    refine ⟨Nat.zero_le _, fun fnd hf => ?_⟩
    refine ⟨(by show 3 ≤ sizeLine; decide), fun bg hbg => ?_⟩
    have s12 : Same H H2 := s1.trans s2
    have hfH : H fnd = none := s12.free hf
    obtain ⟨os, hO, lO⟩ := dO
    obtain ⟨as, hA, lA⟩ := dA
    obtain ⟨bs, hB, lB⟩ := dB
    have eO : as.length = A.length := lA.length
    have eO : os.length = O.length := lO.length
    have eA : as.length = A.length := lA.length
    have eB : bs.length = B.length := lB.length
    have hF0 : upd (upd H2 fnd (.lst [])) bg (.tup [V.int 0, .int 0, .int 0]) fnd = some (.lst []) := same_new hbg _ _ upd_same
    have s0 : Keep fnd H2 (upd (upd H2 fnd (.lst [])) bg (.tup [V.int 0, .int 0, .int 0])) := fun b o e n => same_new hbg _ _ (same_new hf _ _ e)
    have hqaf : qa ≠ fnd := ne_of_none (s2 _ _ hqa) hf
    have hqbf : qb ≠ fnd := ne_of_none hqb hf
    have hof : po ≠ fnd := ne_of_none (s12 _ _ hO) hf
    have haf : pa ≠ fnd := ne_of_none (s12 _ _ hA) hf
    have hbf : pb ≠ fnd := ne_of_none (s12 _ _ hB) hf
    have eZ : ((Hist.places O A).zip (Hist.places O B)).length = O.length := by rw [List.length_zip, places_len, places_len, Nat.min_self]
    refine ⟨_, rfl, po, _, rfl, .inl (SqL.of (s0 _ _ (s12 _ _ hO) hof)), _, rfl, (by rw [refs_len, eO]; omega), (by rw [refs_len, eO]; omega), ?_⟩
    rw [show (((refs os).length : Nat) : Int).toNat = O.length by rw [refs_len, eO]; rfl]
    refine for_range (lo := 0) (n := O.length) (fun i σ H' => Keep fnd H2 H' ∧ ∃ (bg : Addr) (v7 : Option V) (ps : List Addr), σ = [some (.ref po), some (.ref pa), some (.ref pb), some (.ref qa), some (.ref qb), some (.ref fnd), some (.ref bg), v7] ∧ H' fnd = some (.lst (refs ps)) ∧
        Paired (PartAt C H') ps (partLoop 0 (((Hist.places O A).zip (Hist.places O B)).take i) ([], (0, 0, 0))).1 ∧ H' bg = some (.tup (nums (triL (partLoop 0 (((Hist.places O A).zip (Hist.places O B)).take i) ([], (0, 0, 0))).2))))
      ⟨s0, bg, none, [], rfl, hF0, .nil, upd_same⟩ ?_ ?_
    · rintro i σ H' hi ⟨s5, bg, v7, ps, rfl, hfd, hps, hbg⟩
      show tIfS _ _ _ _ _ _
      rw [show ((0 : Int) + (i : Int)) = (i : Int) by omega]
      obtain ⟨x, gx⟩ : ∃ x, (Hist.places O A)[i]? = some x := ⟨_, List.getElem?_eq_getElem (by rw [places_len]; exact hi)⟩
      obtain ⟨y, gy⟩ : ∃ y, (Hist.places O B)[i]? = some y := ⟨_, List.getElem?_eq_getElem (by rw [places_len]; exact hi)⟩
      have gz : ((Hist.places O A).zip (Hist.places O B))[i]? = some (x, y) := by rw [List.getElem?_zip_eq_some]; exact ⟨gx, gy⟩
      have tk := take_more gz
      have hti : (((Hist.places O A).zip (Hist.places O B)).take i).length = i := by rw [List.length_take, eZ]; omega
      have e1 : partLoop 0 (((Hist.places O A).zip (Hist.places O B)).take (i + 1)) ([], (0, 0, 0)) = partStep i (x, y) (partLoop 0 (((Hist.places O A).zip (Hist.places O B)).take i) ([], (0, 0, 0))) := by
        rw [tk, partLoop_app, hti, Nat.zero_add]
      have hll := partLoop_len (((Hist.places O A).zip (Hist.places O B)).take i) 0 ([], (0, 0, 0))
      rw [hti] at hll
      have hpl : ps.length ≤ i := by
        have := hps.length
        simp only [List.length_nil] at hll
        omega
      generalize partLoop 0 (((Hist.places O A).zip (Hist.places O B)).take i) ([], (0, 0, 0)) = L at *
      obtain ⟨L1, L2⟩ := L
      have xa : (zs ((Hist.places O A).map encP))[i]? = some (V.int (encP x)) := zs_at (by rw [List.getElem?_map, gx]; rfl)
      have xb : (zs ((Hist.places O B).map encP))[i]? = some (V.int (encP y)) := zs_at (by rw [List.getElem?_map, gy]; rfl)
      have qA : ∀ {H3 : Hp}, Keep fnd H2 H3 → SqL K H3 qa (zs ((Hist.places O A).map encP)) := fun s => SqL.of (s _ _ (s2 _ _ hqa) hqaf)
      have qB : ∀ {H3 : Hp}, Keep fnd H2 H3 → SqL K H3 qb (zs ((Hist.places O B).map encP)) := fun s => SqL.of (s _ _ hqb hqbf)
      refine (Tis.and (a := decide ((0 : Int) ≤ encP x)) (b := decide ((0 : Int) ≤ encP y)) (fun Q q => ⟨_, rfl, _, rfl, qa, _, _, _, rfl, rfl, qA s5, atI_nat xa, _, _, rfl, rfl, _, rfl, q⟩) (fun _ Q q => ⟨_, rfl, _, rfl, qb, _, _, _, rfl, rfl, qB s5, atI_nat xb, _, _, rfl, rfl, _, rfl, q⟩)) _ ?_
      refine iteB (fun hk => ?_) (fun hk => ?_)
      · rw [Bool.and_eq_true, decide_eq_true_eq, decide_eq_true_eq] at hk
        obtain ⟨j, rfl⟩ := enc_nonneg hk.1
        obtain ⟨m, rfl⟩ := enc_nonneg hk.2
        refine ⟨_, rfl, .inl ⟨rfl, _, SqL.of hfd⟩, _, rfl, _, rfl, _, rfl, _, rfl, qa, _, _, _, rfl, rfl, qA s5, atI_nat xa, _, rfl, _, rfl, qb, _, _, _, rfl, rfl, qB s5, atI_nat xb, (by show 3 ≤ sizeLine; decide), fun et het => ?_⟩
        intro z dz hz hdz nz
        have s6 : Same H' (upd H' et (.tup [V.int (i : Int), V.int (encP (some j)), V.int (encP (some m))])) := same_new het
        refine ⟨z, dz, [.ref bg, .ref et], rfl, rfl, upd_same, fun H3 hz3 k3 => ⟨rfl, ?_⟩⟩
        have s7 : Same (upd H' et (.tup [V.int (i : Int), V.int (encP (some j)), V.int (encP (some m))])) H3 := Same.made hz hdz k3
        have hfd3 : H3 fnd = some (.lst (refs ps)) := s7 _ _ (s6 _ _ hfd)
        have hzH : H' z = none := s6.free hz
        have hzf : fnd ≠ z := ne_of_none hfd hzH
        refine ⟨fnd, _, _, rfl, rfl, hfd3, ?_, ?_⟩
        · rw [refs_len]
          exact ltline (by omega)
        have k6 : Keep fnd H2 H3 := (s5.trans s6).trans s7
        have pz : PartAt C H3 z (L2, (i, j, m)) := ⟨dz, bg, et, hz3, s7 _ _ (s6 _ _ hbg), s7 _ _ upd_same⟩
        refine ⟨_, rfl, _, _, rfl, rfl, _, rfl, _, rfl, qa, _, _, _, rfl, rfl, qA k6.upd, atI_nat xa, _, _, rfl, rfl, _, rfl, _, rfl, qb, _, _, _, rfl, rfl, qB k6.upd, atI_nat xb, _, _, rfl, rfl, (by show 3 ≤ sizeLine; decide), fun nb hnb => ?_⟩
        have nfb : fnd ≠ nb := ne_of_none (o := .lst (refs ps ++ [V.ref z])) upd_same hnb
        refine ⟨k6.upd.trans (same_new hnb), nb, some (.int (i : Int)), ps ++ [z], rfl, ?_, ?_, ?_⟩
        · rw [upd_ne nfb, upd_same, refs_app]
          rfl
        · rw [e1]
          have kk : ∀ {p : Addr} {q : T3 × T3}, PartAt C H3 p q → PartAt C (upd (upd H3 fnd (.lst (refs ps ++ [V.ref z]))) nb (.tup [V.int ((i : Int) + 1), V.int (encP (some j) + 1), V.int (encP (some m) + 1)])) p q := fun h =>
            (PartAt.keep (x := fnd) (fun b o e n => by rw [upd_ne n]; exact e) hfd3 h).mono (same_new hnb)
          exact pair_app (pair_mono (fun p q h => kk ((h.mono s6).mono s7)) hps) (.cons (kk pz) .nil)
        · rw [upd_same, e1]
          rfl
      · have e2 : partStep i (x, y) (L1, L2) = (L1, L2) := by
          rw [Bool.and_eq_false_iff, decide_eq_false_iff_not, decide_eq_false_iff_not] at hk
          cases x with
          | none => rfl
          | some j =>
            cases y with
            | none => rfl
            | some m =>
              refine absurd hk ?_
              rintro (h | h)
              · exact h (by show (0 : Int) ≤ (j : Int); omega)
              · exact h (by show (0 : Int) ≤ (m : Int); omega)
        rw [e2] at e1
        refine ⟨s5, bg, some (.int (i : Int)), ps, rfl, hfd, ?_, ?_⟩
        · rw [e1]
          exact hps
        · rw [e1]
          exact hbg
    · rintro σ H' ⟨s5, bg, v7, ps, rfl, hfd, hps, hbg⟩
      rw [List.take_of_length_le (by rw [eZ]; exact Nat.le_refl _)] at hps hbg
      have hll := partLoop_len ((Hist.places O A).zip (Hist.places O B)) 0 ([], (0, 0, 0))
      have eP := partsP_loop O A B
      have hpl : ps.length ≤ 64 := by
        have := hps.length
        simp only [List.length_nil, eZ] at hll
        omega
      generalize partLoop 0 ((Hist.places O A).zip (Hist.places O B)) ([], (0, 0, 0)) = L at *
      obtain ⟨L1, L2⟩ := L
      have qO := s5 _ _ (s12 _ _ hO) hof
      have qA := s5 _ _ (s12 _ _ hA) haf
      have qB := s5 _ _ (s12 _ _ hB) hbf
      refine ⟨_, rfl, .inl ⟨rfl, _, SqL.of hfd⟩, _, rfl, _, rfl, po, _, rfl, .inl (SqL.of qO), _, rfl, pa, _, rfl, .inl (SqL.of qA), _, rfl, pb, _, rfl, .inl (SqL.of qB), (by show 3 ≤ sizeLine; decide), fun et het => ?_⟩
      intro z dz hz hdz nz
      have s6 : Same H' (upd H' et (.tup [V.int ((refs os).length : Nat), V.int ((refs as).length : Nat), V.int ((refs bs).length : Nat)])) := same_new het
      refine ⟨z, dz, [.ref bg, .ref et], rfl, rfl, upd_same, fun H3 hz3 k3 => ⟨rfl, ?_⟩⟩
      have s7 : Same (upd H' et (.tup [V.int ((refs os).length : Nat), V.int ((refs as).length : Nat), V.int ((refs bs).length : Nat)])) H3 := Same.made hz hdz k3
      have hfd3 : H3 fnd = some (.lst (refs ps)) := s7 _ _ (s6 _ _ hfd)
      refine ⟨fnd, _, _, rfl, rfl, hfd3, ?_, ?_⟩
      · rw [refs_len]
        exact ltline (by omega)
      have k6 : Keep fnd H2 H3 := (s5.trans s6).trans s7
      have pz : PartAt C H3 z (L2, (O.length, A.length, B.length)) := ⟨dz, bg, et, hz3, s7 _ _ (s6 _ _ hbg), by
        have e := s7 _ _ (upd_same (H := H') (a := et) (o := .tup [V.int ((refs os).length : Nat), V.int ((refs as).length : Nat), V.int ((refs bs).length : Nat)]))
        rw [refs_len, refs_len, refs_len, eO, eA, eB] at e
        exact e⟩
      refine ⟨_, rfl, k _ fnd (ps ++ [z]) (k6.upd.same s12 hfH) ?_ ?_⟩
      · rw [upd_same, refs_app]
        rfl
      · rw [← eP]
        have kk : ∀ {p : Addr} {q : T3 × T3}, PartAt C H3 p q → PartAt C (upd H3 fnd (.lst (refs ps ++ [V.ref z]))) p q := fun h =>
          PartAt.keep (x := fnd) (fun b o e n => by rw [upd_ne n]; exact e) hfd3 h
        exact pair_app (pair_mono (fun p q h => kk ((h.mono s6).mono s7)) hps) (.cons (kk pz) .nil)
end
end Wb
namespace Wb
open PySem PySem.Spec PyProof.Rows L2

theorem refs_cut (l : List Addr) (b n : Nat) : ((refs l).drop b).take n = refs ((l.drop b).take n) := by
  unfold refs
  rw [← List.map_drop, ← List.map_take]
theorem lns_cut {H : Hp} {as : List Addr} {d : Doc} (h : LnsAt H as d) (b e : Nat) : LnsAt H ((as.drop b).take (e - b)) (sl d b e) := pair_take _ (pair_drop _ h)
def spSettled (C : Addr) : Sp := fun vs H Q _ => ∃ (p t po pa pb : Addr) (q : T3 × T3) (os as bs : List Addr) (O A B : Doc) (G : Hp), vs = [.ref p, .ref t] ∧ Same G H ∧ PartAt C H p q ∧ H t = some (.tup (refs [po, pa, pb])) ∧
  H po = some (.lst (refs os)) ∧ H pa = some (.lst (refs as)) ∧ H pb = some (.lst (refs bs)) ∧ LnsAt G os O ∧ LnsAt G as A ∧ LnsAt G bs B ∧
  (settleP O A B q = none → ∀ H', Same H H' → Q .non H') ∧
  (∀ d, settleP O A B q = some d → ∀ (H' : Hp) (r : Addr) (ls : List Addr), Same H H' → H r = none → H' r = some (.lst (refs ls)) → LnsAt G ls d → Q (.ref r) H')
abbrev sSettled : Stmt := top 10
section
variable {P : Program} {w : World} {K : PySem.W.Frag} {mg : Str → Option Value} {base : Heap}
theorem scSettled : FnScope ["part", "documents", "own", "one", "other", "side"] ["part", "documents"] (defScope sSettled) := ⟨rfl, rfl, rfl, by decide +kernel, rfl, by decide +kernel, by decide +kernel⟩
theorem ok_settled {f C : Addr} {fd : FuncData} (F : Fun K "settled" "settled" sSettled f fd) (B0 : BltT mg) (T : PartT K C) (GL : HasM P w K mg base CX0 1 C "lines" ["self", "documents", "side"] (spLines C)) : FnOk P w K mg base CX0 2 f fd ["part", "documents"] (spSettled C) := by
  obtain ⟨fL, fdL, GL, ML, bL⟩ := GL
  refine F.ok scSettled (fun vs H Q E h => ?_) (fun cdv A outer s H vs Q E hr h => ?_)
  · obtain ⟨p, t, po, pa, pb, q, os, as, bs, O, A, B, G, rfl, _⟩ := h
    rfl
  · have nd := scSettled.nd
    refine ⟨_, pss_cons (ps_asg (pe_lc (own := [("side", 5)]) (g := gName 5) (tt := tYes) rfl nd (pi_range1 (by rfl) B0.range (pa_cons pe_int pa_nil))
          (blkOk_by (N := ["part", "documents", "own", "one", "other", "side"]) (sc := defScope sSettled) (by decide +kernel)) (fun _ _ _ _ _ => pg_name (i := 5) nd rfl (Or.inl rfl)) (fun _ _ _ _ _ => pts_nil)
          (fun _ _ _ _ _ => pe_meth (pv 0) T.cl ML GL hr bL .nil pass0 (pa_cons (pv 1) (pa_cons (pv 5) pa_nil))))
        (pg_unl rfl (pgs_cons (pg_name (i := 2) nd rfl (.inl rfl)) (pgs_cons (pg_name (i := 3) nd rfl (.inl rfl)) (pgs_cons (pg_name (i := 4) nd rfl (.inl rfl)) pgs_nil)))))
      (pss_cons (ps_if (pt_cmpR (op_eqD hr.units) (pv 3) (pv 2) (nomark _)) (pss_one (ps_ret (pv 4))) pss_nil)
      (pss_one (ps_ret (pe_ifExp (PW.pt (pw_or (pt_cmpR (op_eqD hr.units) (pv 4) (pv 2) (nomark _)) (pw_or1 (pt_cmpR (op_eqD hr.units) (pv 3) (pv 4) (nomark _))))) (pv 3) pe_non)))), ?_⟩
    obtain ⟨p, t, po, pa, pb, q, os, as, bs, O, A, B, G, rfl, sG, hp, ht, ho, ha, hb, lO, lA, lB, kN, kS⟩ := h
    refine ⟨3, rfl, (by decide), (by decide), fun D hD => ?_⟩
    have hcut : ∀ s, s < 3 → ∃ (a : Addr) (l : List Addr) (b e : Nat), [po, pa, pb][s]? = some a ∧ H a = some (.lst (refs l)) ∧ [os, as, bs][s]? = some l ∧ (triL q.1)[s]? = some b ∧ (triL q.2)[s]? = some e := by
      intro s hs
      have h3 : s = 0 ∨ s = 1 ∨ s = 2 := by omega
      rcases h3 with e | e | e <;> subst e
      · exact ⟨po, os, _, _, rfl, ho, rfl, rfl, rfl⟩
      · exact ⟨pa, as, _, _, rfl, ha, rfl, rfl, rfl⟩
      · exact ⟨pb, bs, _, _, rfl, hb, rfl, rfl, rfl⟩
    refine lc_range (lo := 0) (n := 3) (fun i H' => Same H H' ∧ ∃ rs : List Addr, rs.length = i ∧ H' D = some (.lst (refs rs)) ∧ ∀ s r, rs[s]? = some r → ∃ (l : List Addr) (b e : Nat), [os, as, bs][s]? = some l ∧ (triL q.1)[s]? = some b ∧ (triL q.2)[s]? = some e ∧ H r = none ∧ r ≠ D ∧ H' r = some (.lst (refs ((l.drop b).take (e - b)))))
      ⟨same_new hD, [], rfl, upd_same, fun s r hs => by
        rw [List.getElem?_nil] at hs
        cases hs⟩ ?_ ?_
    · rintro i H' hi ⟨s5, rs, hl, hDr, hrs⟩
      obtain ⟨a, l, b, e, h1, h2, h3, h4, h5⟩ := hcut i hi
      refine ⟨rfl, ?_⟩
      obtain ⟨dx, tb, te, hp1, hp2, hp3⟩ := id hp
      refine ⟨_, rfl, p, dx, _, rfl, s5 _ _ hp1, (lk_past (by decide +kernel)).trans ((lk_past (by decide +kernel)).trans rfl), _, rfl, _, rfl, ?_⟩
      refine ⟨p, t, q, i, [po, pa, pb], a, refs l, b, e, ?_, hp.mono s5, s5 _ _ ht, h1, s5 _ _ h2, h4, h5, fun r hr0 => ?_⟩
      · rw [show ((0 : Int) + (i : Int)) = (i : Int) by omega]
        rfl
      rw [refs_cut]
      have hDr0 : D ≠ r := ne_of_none hDr hr0
      have s6 : Same H (upd H' r (.lst (refs ((l.drop b).take (e - b))))) := fun c o z => same_new hr0 _ _ (s5 c o z)
      refine ⟨refs rs, by rw [upd_ne hDr0]; exact hDr, by rw [refs_len]; exact ltline (by omega), ?_, rs ++ [r], by rw [List.length_append, hl]; rfl, ?_, ?_⟩
      · intro c o z
        rw [upd_ne (ne_of_none z hD)]
        exact s6 c o z
      · rw [upd_same, refs_app]
        rfl
      · intro s r' hs
        by_cases c : s < rs.length
        · rw [List.getElem?_append_left c] at hs
          obtain ⟨l', b', e', q1, q2, q3, q4, q5, q6⟩ := hrs s r' hs
          refine ⟨l', b', e', q1, q2, q3, q4, q5, ?_⟩
          rw [upd_ne q5]
          exact same_new hr0 _ _ q6
        · rw [List.getElem?_append_right (by omega)] at hs
          have e1 : s - rs.length = 0 := by
            have := (List.getElem?_eq_some_iff.mp hs).1
            simp only [List.length_singleton] at this
            omega
          rw [e1] at hs
          have e2 : r = r' := Option.some.inj hs
          subst e2
          have e3 : s = i := by omega
          subst e3
          refine ⟨l, b, e, h3, h4, h5, s5.free hr0, Ne.symm hDr0, ?_⟩
          rw [upd_ne (Ne.symm hDr0)]
          exact upd_same
    · rintro H1 ⟨s1, rs, hl, hDr, hrs⟩
      match rs, hl with
      | [r0, r1, r2], _ =>
      obtain ⟨l0, b0, e0, x1, x2, x3, x4, _, x5⟩ := hrs 0 r0 rfl
      obtain ⟨l1, b1, e1, y1, y2, y3, y4, _, y5⟩ := hrs 1 r1 rfl
      obtain ⟨l2, b2, e2, z1, z2, z3, z4, _, z5⟩ := hrs 2 r2 rfl
      cases x1
      cases x2
      cases x3
      cases y1
      cases y2
      cases y3
      cases z1
      cases z2
      cases z3
      have sG1 : Same G H1 := sG.trans s1
      have c0 := lns_cut lO q.1.1 q.2.1
      have c1 := lns_cut lA q.1.2.1 q.2.2.1
      have c2 := lns_cut lB q.1.2.2 q.2.2.2
      have d0 : Dp K H1 (.ref r0) (docD (sl O q.1.1 q.2.1)) := dp_doc x5 (lns_mono sG1 c0)
      have d1 : Dp K H1 (.ref r1) (docD (sl A q.1.2.1 q.2.2.1)) := dp_doc y5 (lns_mono sG1 c1)
      have d2 : Dp K H1 (.ref r2) (docD (sl B q.1.2.2 q.2.2.2)) := dp_doc z5 (lns_mono sG1 c2)
      refine ⟨D, refs [r0, r1, r2], rfl, SqL.of hDr, rfl, _, _, rfl, _, _, rfl, _, _, rfl, rfl, ?_⟩
      refine ⟨_, rfl, _, rfl, _, _, d1, d0, shaped_doc _, shaped_doc _, _, rfl, ?_⟩
      rw [eqv_doc]
      refine iteB (fun h1 => ?_) (fun h1 => ?_)
      · have h1' := of_decide_eq_true h1
        exact ⟨_, rfl, kS _ (by unfold settleP; rw [if_pos h1']) H1 r2 _ s1 z4 z5 c2⟩
      · have h1' := of_decide_eq_false h1
        unfold tNext tRet tIf
        dsimp only
        refine (Tis.or (a := decide (sl B q.1.2.2 q.2.2.2 = sl O q.1.1 q.2.1)) (b := decide (sl A q.1.2.1 q.2.2.1 = sl B q.1.2.2 q.2.2.2)) (fun Q' q' => ⟨_, rfl, _, rfl, _, _, d2, d0, shaped_doc _, shaped_doc _, _, rfl, by rw [eqv_doc]; exact q'⟩) (fun _ Q' q' => ⟨_, rfl, _, rfl, _, _, d1, d2, shaped_doc _, shaped_doc _, _, rfl, by rw [eqv_doc]; exact q'⟩)) _ ?_
        refine iteB (fun h2 => ?_) (fun h2 => ?_)
        · rw [Bool.or_eq_true, decide_eq_true_eq, decide_eq_true_eq] at h2
          exact ⟨_, rfl, kS _ (by unfold settleP; rw [if_neg h1', if_pos h2]) H1 r1 _ s1 y4 y5 c1⟩
        · rw [Bool.or_eq_false_iff, decide_eq_false_iff_not, decide_eq_false_iff_not] at h2
          exact kN (by unfold settleP; rw [if_neg h1', if_neg (fun z => z.elim h2.1 h2.2)]) H1 s1
end

def spMerged (CM : Addr) : Sp := fun vs H Q _ => ∃ (po pa pb : Addr) (O A B : Doc) (G : Hp), vs = [.ref po, .ref pa, .ref pb] ∧ Same G H ∧ DcAt G po O ∧ DcAt G pa A ∧ DcAt G pb B ∧ O.length ≤ 64 ∧ A.length ≤ 64 ∧ B.length ≤ 64 ∧
  ∀ (H' : Hp) (x dx d c : Addr) (ls : List Addr), Same H H' → H' x = some (.ins CM dx [("document", .ref d), ("clashes", .ref c)]) → H d = none → H c = none → H' d = some (.lst (refs ls)) → LnsAt G ls (mergedP O A B).1 → H' c = some (.lst (zs (mergedP O A B).2)) → Q (.ref x) H'
abbrev sMerged : Stmt := top 11
def Keep2 (x y : Addr) (H H' : Hp) : Prop := ∀ b o, H b = some o → b ≠ x → b ≠ y → H' b = some o
theorem sl_len (d : Doc) (i j : Nat) : (sl d i j).length ≤ d.length := by
  unfold sl
  rw [List.length_take, List.length_drop]
  omega
theorem settle_len {O A B : Doc} {q : T3 × T3} {d : Doc} (hA : A.length ≤ 64) (hB : B.length ≤ 64) (h : settleP O A B q = some d) : d.length ≤ 64 := by
  have h1 := sl_len A q.1.2.1 q.2.2.1
  have h2 := sl_len B q.1.2.2 q.2.2.2
  unfold settleP at h
  split at h
  · cases h; omega
  · split at h
    · cases h; omega
    · cases h
theorem mLoop_len {O A B : Doc} (hA : A.length ≤ 64) (hB : B.length ≤ 64) : ∀ (l : List (T3 × T3)) (s : Doc × List Int), (mLoop O A B l s).1.length ≤ s.1.length + 65 * l.length ∧ (mLoop O A B l s).2.length ≤ s.2.length + 6 * l.length
  | [], s => ⟨Nat.le_refl _, Nat.le_refl _⟩
  | p :: l, s => by
    have ih := mLoop_len (O := O) hA hB l (mStep O A B s p)
    have h1 : (mStep O A B s p).1.length ≤ s.1.length + 65 ∧ (mStep O A B s p).2.length ≤ s.2.length + 6 := by
      unfold mStep
      cases e : settleP O A B p with
      | none =>
        dsimp only
        constructor
        · split
          · rw [List.length_append, List.length_singleton]; omega
          · omega
        · rw [List.length_append]; exact Nat.le_refl _
      | some d =>
        have := settle_len hA hB e
        dsimp only
        constructor
        · split
          · rw [List.length_append, List.length_append, List.length_singleton]; omega
          · rw [List.length_append]; omega
        · omega
    show (mLoop O A B l (mStep O A B s p)).1.length ≤ _ ∧ (mLoop O A B l (mStep O A B s p)).2.length ≤ _
    rw [List.length_cons]
    omega
theorem partsP_len (O A B : Doc) : (partsP O A B).length ≤ O.length + 1 := by
  rw [← partsP_loop, List.length_append, List.length_singleton]
  have h := partLoop_len ((Hist.places O A).zip (Hist.places O B)) 0 ([], (0, 0, 0))
  rw [List.length_zip, places_len, places_len, Nat.min_self] at h
  simp only [List.length_nil] at h
  omega
theorem lkD {b e : V} : List.lookup ("document" : Str) [(("document" : Str), b), (("clashes" : Str), e)] = some b := lk_here
theorem lkC {b e : V} : List.lookup ("clashes" : Str) [(("document" : Str), b), (("clashes" : Str), e)] = some e := (lk_past (by decide +kernel)).trans lk_here
section
variable {P : Program} {w : World} {K : PySem.W.Frag} {mg : Str → Option Value} {base : Heap}
theorem scMerged : FnScope ["o", "a", "b", "found", "documents", "part", "lines"] ["o", "a", "b"] (defScope sMerged) := ⟨rfl, rfl, rfl, by decide +kernel, rfl, by decide +kernel, by decide +kernel⟩
theorem ok_merged {f C CM : Addr} {fd : FuncData} (F : Fun K "merged" "merged" sMerged f fd) (B0 : BltT mg) (T : PartT K C) (TM : MergedT K CM) (GI : HasC P w K mg base CX0 1 CM "Merged" ["self"] (spMergedInit CM)) (GP : Has P w K mg base CX0 4 "parts_of" ["o", "a", "b"] (spParts C))
    (GS : Has P w K mg base CX0 2 "settled" ["part", "documents"] (spSettled C)) (GT : HasM P w K mg base CX0 1 C "told" ["self"] (spTold C)) : FnOk P w K mg base CX0 5 f fd ["o", "a", "b"] (spMerged CM) := by
  obtain ⟨fI, fdI, GI, MI, mI, bI⟩ := GI
  obtain ⟨fP, fdP, GP, mP, kP, bP⟩ := GP
  obtain ⟨fS, fdS, GS, mS, kS, bS⟩ := GS
  obtain ⟨fT, fdT, GT, MT, bT⟩ := GT
  refine F.ok scMerged (fun vs H Q E h => ?_) (fun cdv A outer s H vs Q E hr h => ?_)
  · obtain ⟨po, pa, pb, O, A, B, G, rfl, _⟩ := h
    rfl
  · have nd := scMerged.nd
    have hr1 : Room 1 _ := hr.mono (by decide)
    have hr2 : Room 2 _ := hr.mono (by decide)
    refine ⟨_, pss_cons (ps_set (i := 3) nd rfl (.inl rfl) (pe_make0 MI GI hr2 (by rfl) mI bI .nil pass0))
      (pss_cons (ps_set (i := 4) nd rfl (.inl rfl) (pe_tup (pa_cons (pv 0) (pa_cons (pv 1) (pa_cons (pv 2) pa_nil)))))
      (pss_cons (ps_for PassesOwn.never rfl (pi_list (pe_call GP hr (by rfl) mP kP bP .nil pass0 (pa_cons (pv 0) (pa_cons (pv 1) (pa_cons (pv 2) pa_nil))))) (pg_name (i := 5) nd rfl (.inl rfl))
        (pss_cons (ps_set (i := 6) nd rfl (.inl rfl) (pe_call GS hr2 (by rfl) mS kS bS .nil pass0 (pa_cons (pv 5) (pa_cons (pv 4) pa_nil))))
        (pss_cons (ps_if (pt_cmpR op_isN (pv 6) pe_non (nomark _))
          (pss_one (ps_expr (pe_bm PySem.F.plainAttrs_list PySem.F.slot_list_extend PySem.F.type_list_extend mt_extend (pe_fld (pv 3) rfl) (pa_cons (pe_meth0 (pv 5) T.cl MT GT hr1 bT .nil pass0) pa_nil))))
          (pss_one (ps_expr (pe_bm PySem.F.plainAttrs_list PySem.F.slot_list_extend PySem.F.type_list_extend mt_extend (pe_fld (pv 3) rfl) (pa_cons (pv 6) pa_nil)))))
        (pss_one (ps_if (pt_cmpR op_lt (pe_ix ix_tup (pe_fld (pv 5) rfl) pe_int (fun _ _ => rfl)) (pe_callB call_len_seq (by rfl) B0.len boot_len (pa_cons (pv 0) pa_nil)) (nomark _))
          (pss_one (ps_expr (pe_bm PySem.F.plainAttrs_list PySem.F.slot_list_append PySem.F.type_list_append mt_append (pe_fld (pv 3) rfl) (pa_cons (pe_ix ix_list (pv 0) (pe_ix ix_tup (pe_fld (pv 5) rfl) pe_int (fun _ _ => rfl)) (fun _ _ => rfl)) pa_nil))))
          pss_nil)))))
      (pss_one (ps_ret (pv 3))))), ?_⟩
    obtain ⟨po, pa, pb, O, A, B, G, rfl, sG, dO, dA, dB, hO64, hA64, hB64, k⟩ := h
    obtain ⟨os, hO, lO⟩ := id dO
    obtain ⟨as, hA, lA⟩ := id dA
    obtain ⟨bs, hB, lB⟩ := id dB
    have eO : os.length = O.length := lO.length
    intro x dx hx hdx nx
    refine ⟨x, dx, rfl, upd_same, fun H1 d c hd hc ndc hx1 hd1 hc1 k1 => ⟨rfl, ?_⟩⟩
    have s1 : Same H H1 := Same.made hx hdx k1
    have sm : Same H (upd (upd H dx (.own x)) x (.ins CM dx [])) := fun b o e => by rw [upd_ne (ne_of_none e hx), upd_ne (ne_of_none e hdx)]; exact e
    have hdH : H d = none := sm.free hd
    have hcH : H c = none := sm.free hc
    refine ⟨_, rfl, _, rfl, _, rfl, (by show 3 ≤ sizeLine; decide), fun t ht => ?_⟩
    have s2 : Same H1 (upd H1 t (.tup [V.ref po, V.ref pa, V.ref pb])) := same_new ht
    have s12 : Same H (upd H1 t (.tup [V.ref po, V.ref pa, V.ref pb])) := s1.trans s2
    have sG2 := sG.trans s12
    refine ⟨_, rfl, _, rfl, _, rfl, po, pa, pb, O, A, B, rfl, dO.mono sG2, dA.mono sG2, dB.mono sG2, hO64, hA64, hB64, fun H3 pl ps s3 hpl hps => ?_⟩
    have s13 : Same H H3 := s12.trans s3
    have epl : ps.length = (partsP O A B).length := hps.length
    have lpl := partsP_len O A B
    have hx3 : H3 x = some (.ins CM dx [("document", .ref d), ("clashes", .ref c)]) := s3 _ _ (s2 _ _ hx1)
    have hd3 := s3 _ _ (s2 _ _ hd1)
    have hc3 := s3 _ _ (s2 _ _ hc1)
    have ht3 : H3 t = some (.tup (refs [po, pa, pb])) := s3 _ _ upd_same
    have npd : ∀ {b : Addr} {o : HO}, H b = some o → b ≠ d := fun e => ne_of_none e hdH
    have npc : ∀ {b : Addr} {o : HO}, H b = some o → b ≠ c := fun e => ne_of_none e hcH
    have key : pl ≠ d ∧ pl ≠ c := by
      obtain ⟨p0, t0, e0⟩ := partsE_cons (0, 0, 0) (Hist.fast O A B) (O.length, A.length, B.length)
      have e0' : partsP O A B = p0 :: t0 := e0
      have hne : ps ≠ [] := fun z => by
        rw [z, e0'] at epl
        cases epl
      constructor
      · intro z
        rw [z, hd3] at hpl
        have : refs ps = [] := (HO.lst.inj (Option.some.inj hpl)).symm
        exact hne (by simpa [refs] using this)
      · intro z
        rw [z, hc3] at hpl
        have : refs ps = [] := (HO.lst.inj (Option.some.inj hpl)).symm
        exact hne (by simpa [refs] using this)
    obtain ⟨kpd, kpc⟩ := key
    refine ⟨pl, rfl, ⟨_, SqL.of hpl⟩, for_list (K := K) (a := pl) (xs := refs ps) (fun i σ H' => Keep2 d c H3 H' ∧ ∃ (v5 v6 : Option V) (ls : List Addr), σ = [some (.ref po), some (.ref pa), some (.ref pb), some (.ref x), some (.ref t), v5, v6] ∧
        H' d = some (.lst (refs ls)) ∧ LnsAt G ls (mLoop O A B ((partsP O A B).take i) ([], [])).1 ∧ H' c = some (.lst (zs (mLoop O A B ((partsP O A B).take i) ([], [])).2)))
      ⟨fun _ _ e _ _ => e, none, none, [], rfl, hd3, .nil, hc3⟩ (fun i σ H' _ ⟨s5, _⟩ => SqL.of (s5 _ _ hpl kpd kpc)) ?_ ?_⟩
    · rintro i y σ H' hy ⟨s5, v5, v6, ls, rfl, hd', hls, hc'⟩
      obtain ⟨p, hp, rfl⟩ := refs_of hy
      obtain ⟨q, hq, pq⟩ := pair_getL hps hp
      have hi : i < ps.length := (List.getElem?_eq_some_iff.mp hp).1
      have e1 : mLoop O A B ((partsP O A B).take (i + 1)) ([], []) = mStep O A B (mLoop O A B ((partsP O A B).take i) ([], [])) q := by
        rw [take_more hq]
        unfold mLoop
        rw [List.foldl_append]
        rfl
      have bnd := mLoop_len (O := O) hA64 hB64 ((partsP O A B).take i) ([], [])
      have hti : ((partsP O A B).take i).length ≤ 64 := by rw [List.length_take]; omega
      simp only [List.length_nil] at bnd
      generalize mLoop O A B ((partsP O A B).take i) ([], []) = S at *
      obtain ⟨S1, S2⟩ := S
      have ell : ls.length = S1.length := hls.length
      dsimp only at bnd ell hls hc'
      have kH : ∀ {H4 : Hp}, Keep2 d c H3 H4 → Same H H4 := fun s b o e => s b o (s13 b o e) (npd e) (npc e)
      have pq' : ∀ {H4 : Hp}, Keep2 d c H3 H4 → PartAt C H4 p q := fun s => by
        obtain ⟨dy, tb, te, h1, h2, h3⟩ := pq
        exact ⟨dy, tb, te, s _ _ h1 (ne_of h1 hd3 (by intro z; cases z)) (ne_of h1 hc3 (by intro z; cases z)), s _ _ h2 (ne_of h2 hd3 (by intro z; cases z)) (ne_of h2 hc3 (by intro z; cases z)), s _ _ h3 (ne_of h3 hd3 (by intro z; cases z)) (ne_of h3 hc3 (by intro z; cases z))⟩
      have kx : ∀ {H4 : Hp}, Keep2 d c H3 H4 → H4 x = some (.ins CM dx [("document", .ref d), ("clashes", .ref c)]) := fun s => s _ _ hx3 (ne_of hx3 hd3 (by intro z; cases z)) (ne_of hx3 hc3 (by intro z; cases z))
      have fin : ∀ (H4 : Hp) (v6 : Option V) (ls4 : List Addr) (D4 : Doc) (C4 : List Int), Keep2 d c H3 H4 → H4 d = some (.lst (refs ls4)) → LnsAt G ls4 D4 → H4 c = some (.lst (zs C4)) → ls4.length ≤ 10000 →
          (if q.2.1 < O.length then D4 ++ [O.getD q.2.1 []] else D4, C4) = mStep O A B (S1, S2) q →
          tIfS (tTest (tOp (rI0 fun i j => V.bl (decide (i < j))) (tOp (rIxT K) (tFld K (tVar 5) "ends") (tC (V.int 0))) (tCB (rLen K) (tCons (tVar 0) tNil))))
            (tDrop (tBM K "list" rAppend (tFld K (tVar 3) "document") (tCons (tOp (rIxL K) (tVar 0) (tOp (rIxT K) (tFld K (tVar 5) "ends") (tC (V.int 0)))) tNil))) tNext
            { nx := fun σ H' => Keep2 d c H3 H' ∧ ∃ (v5 v6 : Option V) (ls : List Addr), σ = [some (.ref po), some (.ref pa), some (.ref pb), some (.ref x), some (.ref t), v5, v6] ∧
                H' d = some (.lst (refs ls)) ∧ LnsAt G ls (mLoop O A B ((partsP O A B).take (i + 1)) ([], [])).1 ∧ H' c = some (.lst (zs (mLoop O A B ((partsP O A B).take (i + 1)) ([], [])).2)), rt := Q }
            [some (.ref po), some (.ref pa), some (.ref pb), some (.ref x), some (.ref t), some (.ref p), v6] H4 := by
        intro H4 v6 ls4 D4 C4 s4 hd4 hls4 hc4 hl4 hst
        obtain ⟨dy, tb, te, h1, h2, h3⟩ := pq' s4
        have qO := kH s4 _ _ (sG _ _ hO)
        refine ⟨_, rfl, p, C, dy, _, _, rfl, h1, T.cl, T.nE, lkE, te, _, _, _, rfl, rfl, SqT.of h3, at_of (j := 0) rfl rfl, _, rfl, po, _, rfl, .inl (SqL.of qO), _, _, rfl, rfl, _, rfl, ?_⟩
        refine iteB (fun hlt => ?_) (fun hlt => ?_)
        · have hlt' : q.2.1 < O.length := by
            have := of_decide_eq_true hlt
            rw [refs_len, eO] at this
            omega
          have go : os[q.2.1]? = some os[q.2.1] := List.getElem?_eq_getElem (by omega)
          have gO : O[q.2.1]? = some O[q.2.1] := List.getElem?_eq_getElem hlt'
          refine ⟨_, rfl, x, CM, dx, _, _, rfl, kx s4, TM.cl, TM.nD, lkD, .inl ⟨rfl, _, SqL.of hd4⟩, _, rfl, _, rfl, p, C, dy, _, _, rfl, h1, T.cl, T.nE, lkE, te, _, _, _, rfl, rfl, SqT.of h3, at_of (j := 0) rfl rfl, po, _, _, _, rfl, rfl, SqL.of qO, atI_nat (refs_at go), d, _, _, rfl, rfl, hd4, by rw [refs_len]; exact ltline (by omega), ?_⟩
          refine ⟨fun b o e n1 n2 => by rw [upd_ne n1]; exact s4 b o e n1 n2, some (.ref p), v6, ls4 ++ [os[q.2.1]], rfl, ?_, ?_, ?_⟩
          · rw [upd_same, refs_app]
            rfl
          · rw [e1, ← hst, if_pos hlt']
            refine pair_app hls4 (.cons ?_ .nil)
            have e2 : O.getD q.2.1 [] = O[q.2.1] := by rw [List.getD_eq_getElem?_getD, gO]; rfl
            rw [e2]
            exact pair_at lO go gO
          · rw [upd_ne (Ne.symm ndc), e1, ← hst]
            exact hc4
        · have hlt' : ¬ q.2.1 < O.length := by
            have := of_decide_eq_false hlt
            rw [refs_len, eO] at this
            omega
          refine ⟨s4, some (.ref p), v6, ls4, rfl, hd4, ?_, ?_⟩
          · rw [e1, ← hst, if_neg hlt']
            exact hls4
          · rw [e1, ← hst]
            exact hc4
      refine ⟨_, rfl, _, rfl, p, t, po, pa, pb, q, os, as, bs, O, A, B, G, rfl, sG.trans (kH s5), pq' s5, s5 _ _ ht3 (ne_of ht3 hd3 (by intro z; cases z)) (ne_of ht3 hc3 (by intro z; cases z)), kH s5 _ _ (sG _ _ hO), kH s5 _ _ (sG _ _ hA), kH s5 _ _ (sG _ _ hB), lO, lA, lB, fun en H4 s4 => ?_, fun dd es H4 r l4 s4 hrn hr4 hl4 => ?_⟩
      · have s54 : Keep2 d c H3 H4 := fun b o e n1 n2 => s4 _ _ (s5 b o e n1 n2)
        refine ⟨_, rfl, rfl, _, rfl, ?_⟩
        refine iteT ?_
        obtain ⟨dy, tb, te, h1, h2, h3⟩ := id (pq' s54)
        refine ⟨_, rfl, x, CM, dx, _, _, rfl, kx s54, TM.cl, TM.nC, lkC, .inl ⟨rfl, _, SqL.of (s4 _ _ hc')⟩, _, rfl, p, dy, _, rfl, h1, (lk_past (by decide +kernel)).trans ((lk_past (by decide +kernel)).trans rfl), p, q, rfl, pq' s54, fun H5 r s5' hrn hr5 => ?_⟩
        have hc5 := s5' _ _ (s4 _ _ hc')
        refine ⟨c, r, _, _, rfl, rfl, hc5, hr5, ?_, ?_⟩
        · rw [zs_len, zs_len]
          exact line1000 (by show _ + 6 ≤ _; omega)
        · refine fin _ _ ls S1 (S2 ++ toldP q) (fun b o e n1 n2 => by rw [upd_ne n2]; exact s5' _ _ (s54 b o e n1 n2)) (by rw [upd_ne ndc]; exact s5' _ _ (s4 _ _ hd')) hls (by rw [upd_same, zs_app]) (by omega) ?_
          unfold mStep
          rw [en]
      · have s54 : Keep2 d c H3 H4 := fun b o e n1 n2 => s4 _ _ (s5 b o e n1 n2)
        refine ⟨_, rfl, rfl, _, rfl, ?_⟩
        refine iteF ?_
        refine ⟨_, rfl, x, CM, dx, _, _, rfl, kx s54, TM.cl, TM.nD, lkD, .inl ⟨rfl, _, SqL.of (s4 _ _ hd')⟩, _, rfl, d, r, _, _, rfl, rfl, s4 _ _ hd', hr4, ?_, ?_⟩
        · have e64 := settle_len hA64 hB64 es
          have e4 : l4.length = dd.length := hl4.length
          rw [refs_len, refs_len]
          exact line1000 (by omega)
        · have e64 := settle_len hA64 hB64 es
          have e4 : l4.length = dd.length := hl4.length
          refine fin _ _ (ls ++ l4) (S1 ++ dd) S2 (fun b o e n1 n2 => by rw [upd_ne n1]; exact s54 b o e n1 n2) (by rw [upd_same, refs_app]) (pair_app hls hl4) (by rw [upd_ne (Ne.symm ndc)]; exact s4 _ _ hc') (by rw [List.length_append]; omega) ?_
          unfold mStep
          rw [es]
    · rintro σ H' ⟨s5, v5, v6, ls, rfl, hd', hls, hc'⟩
      rw [refs_len, epl, List.take_length] at hls hc'
      exact ⟨_, rfl, k H' x dx d c ls (fun b o e => s5 b o (s13 b o e) (npd e) (npc e)) (s5 _ _ hx3 (ne_of hx3 hd3 (by intro z; cases z)) (ne_of hx3 hc3 (by intro z; cases z))) hdH hcH hd' hls hc'⟩
end
end Wb
namespace Wb
open PySem PySem.Spec PyProof.Rows L2

structure WF (s : Hist.State) : Prop where
  low : Low s.book
  docs : ∀ x ∈ s.book, Hist.fits x.doc = true
  many : s.book.length ≤ 128
  two : ∀ x ∈ s.book, x.parents.length ≤ 2
  heads : s.heads.length = 8
  at_ : ∀ (k v : Nat), s.heads[k]? = some (some v) → v < s.book.length
theorem fits_len {d : Doc} (h : Hist.fits d = true) : d.length ≤ 64 := by
  unfold Hist.fits at h
  rw [Bool.and_eq_true, decide_eq_true_eq] at h
  exact h.1
theorem fits_line {d : Doc} (h : Hist.fits d = true) : ∀ l ∈ d, l.length ≤ 64 := by
  unfold Hist.fits at h
  rw [Bool.and_eq_true, List.all_eq_true] at h
  exact fun l hl => of_decide_eq_true (h.2 l hl)
theorem book_at {h : Hist.Book} {i : Nat} (hi : i < h.length) : ∃ x, h[i]? = some x ∧ Hist.docOf h i = x.doc ∧ Hist.parentsOf h i = x.parents ∧ x ∈ h := by
  refine ⟨h[i], List.getElem?_eq_getElem hi, ?_, ?_, List.getElem_mem hi⟩
  · unfold Hist.docOf
    rw [List.getElem?_eq_getElem hi]
    rfl
  · unfold Hist.parentsOf
    rw [List.getElem?_eq_getElem hi]
    rfl
theorem WF.fits {s : Hist.State} (W : WF s) {i : Nat} (hi : i < s.book.length) : Hist.fits (Hist.docOf s.book i) = true := by
  obtain ⟨x, _, e, _, m⟩ := book_at hi
  rw [e]
  exact W.docs x m
theorem WF.par {s : Hist.State} (W : WF s) {i : Nat} (hi : i < s.book.length) : (Hist.parentsOf s.book i).length ≤ 2 := by
  obtain ⟨x, _, _, e, m⟩ := book_at hi
  rw [e]
  exact W.two x m
def headV : Option Nat → V
  | none => .int (-1)
  | some v => .int (v : Int)
structure Par where
  c : Addr
  x : Addr
  o : HO
def VerAt (CV : Par) (G : Hp) (v : Addr) (h : Hist.Book) (i : Nat) : Prop := ∃ dx pd pp pf po, G v = some (.ins CV.c dx [("document", .ref pd), ("parents", .ref pp), ("forebears", .ref pf), ("origins", .ref po)]) ∧
  DcAt G pd (Hist.docOf h i) ∧ LnAt G pp (Hist.parentsOf h i) ∧ LnAt G pf (Hist.forebears h i).reverse ∧ LnAt G po ((Hist.origins h).getD i [])
structure HistAt (CH : Addr) (CV : Par) (H : Hp) (a av ab : Addr) (s : Hist.State) : Prop where
  inst : ∃ dx, H a = some (.ins CH dx [("versions", .ref av), ("branches", .ref ab)])
  ne : av ≠ ab
  ext : H CV.x = some CV.o
  nx : CV.x ≠ av ∧ CV.x ≠ ab
  vers : ∃ vs : List Addr, H av = some (.lst (refs vs)) ∧ vs.length = s.book.length ∧ ∀ i v, vs[i]? = some v → VerAt CV (wo CV.x av ab H) v s.book i
  brs : H ab = some (.lst (s.heads.map headV))
  wf : WF s
theorem VerAt.mono {CV : Par} {G G' : Hp} (k : Same G G') {v : Addr} {h : Hist.Book} {i : Nat} (x : VerAt CV G v h i) : VerAt CV G' v h i := by
  obtain ⟨dx, pd, pp, pf, po, h1, h2, h3, h4, h5⟩ := x
  exact ⟨dx, pd, pp, pf, po, k _ _ h1, h2.mono k, h3.mono k, h4.mono k, h5.mono k⟩
theorem HistAt.mono {CH : Addr} {CV : Par} {H H' : Hp} (k : Same H H') {a av ab : Addr} {s : Hist.State} (x : HistAt CH CV H a av ab s) : HistAt CH CV H' a av ab s := by
  obtain ⟨⟨dx, h1⟩, h2, h8, h9, ⟨vs, h3, h4, h5⟩, h6, h7⟩ := x
  exact ⟨⟨dx, k _ _ h1⟩, h2, k _ _ h8, h9, ⟨vs, k _ _ h3, h4, fun i v e => (h5 i v e).mono (wo_mono k)⟩, k _ _ h6, h7⟩
structure VerT (K : PySem.W.Frag) (C : Par) : Prop where
  cl : Cls K C.c
  nD : NoAttr K C.c "document"
  nP : NoAttr K C.c "parents"
  nF : NoAttr K C.c "forebears"
  nO : NoAttr K C.c "origins"
structure HisT (K : PySem.W.Frag) (C : Addr) : Prop where
  cl : Cls K C
  nV : NoAttr K C "versions"
  nB : NoAttr K C "branches"
structure NumT (mg : Str → Option Value) : Prop where
  vers : ∃ t, mg "MOST_VERSIONS" = some (.int 128 t)
  lines : ∃ t, mg "MOST_LINES" = some (.int 64 t)
  bytes : ∃ t, mg "MOST_BYTES" = some (.int 64 t)
  brs : ∃ t, mg "MOST_BRANCHES" = some (.int 8 t)
  nowhere : ∃ t, mg "NOWHERE" = some (.int (-1) t)
section
variable {a b c d : V}
theorem lk4a : List.lookup ("document" : Str) [(("document" : Str), a), (("parents" : Str), b), (("forebears" : Str), c), (("origins" : Str), d)] = some a := lk_here
theorem lk4b : List.lookup ("parents" : Str) [(("document" : Str), a), (("parents" : Str), b), (("forebears" : Str), c), (("origins" : Str), d)] = some b := (lk_past (by decide +kernel)).trans lk_here
theorem lk4c : List.lookup ("forebears" : Str) [(("document" : Str), a), (("parents" : Str), b), (("forebears" : Str), c), (("origins" : Str), d)] = some c := (lk_past (by decide +kernel)).trans ((lk_past (by decide +kernel)).trans lk_here)
theorem lk4d : List.lookup ("origins" : Str) [(("document" : Str), a), (("parents" : Str), b), (("forebears" : Str), c), (("origins" : Str), d)] = some d := (lk_past (by decide +kernel)).trans ((lk_past (by decide +kernel)).trans ((lk_past (by decide +kernel)).trans lk_here))
theorem lkHv : List.lookup ("versions" : Str) [(("versions" : Str), a), (("branches" : Str), b)] = some a := lk_here
theorem lkHb : List.lookup ("branches" : Str) [(("versions" : Str), a), (("branches" : Str), b)] = some b := (lk_past (by decide +kernel)).trans lk_here
end
theorem lkHno {f : Str} (h1 : (f == ("versions" : Str)) = false) (h2 : (f == ("branches" : Str)) = false) {a b : V} : List.lookup f [(("versions" : Str), a), (("branches" : Str), b)] = none := (lk_past h1).trans ((lk_past h2).trans rfl)

abbrev sFits : Stmt := top 18
def spFits : Sp := fun vs H Q _ => ∃ (p : Addr) (d : Doc), vs = [.ref p] ∧ DcAt H p d ∧ ∀ H', Same H H' → Q (.bl (Hist.fits d)) H'
theorem fits_eq (d : Doc) : Hist.fits d = (decide (d.length ≤ 64) && decide (d.filter (fun l => decide (64 < l.length)) = [])) := by
  unfold Hist.fits
  have e : (d.all fun (l : Hist.Line) => decide (l.length ≤ Hist.WIDE)) = decide (d.filter (fun l => decide (64 < l.length)) = []) := by
    rw [Bool.eq_iff_iff, decide_eq_true_eq, List.all_eq_true, List.filter_eq_nil_iff]
    constructor
    · intro h l hl z
      have h1 := of_decide_eq_true (h l hl)
      have h2 := of_decide_eq_true z
      have h3 : l.length ≤ 64 := h1
      omega
    · intro h l hl
      refine decide_eq_true ?_
      have := h l hl
      rw [decide_eq_true_eq] at this
      show l.length ≤ 64
      omega
  rw [e]
  rfl
section
variable {P : Program} {w : World} {K : PySem.W.Frag} {mg : Str → Option Value} {base : Heap}
theorem scFits : FnScope ["document", "line"] ["document"] (defScope sFits) := ⟨rfl, rfl, rfl, by decide +kernel, rfl, by decide +kernel, by decide +kernel⟩
theorem ok_fits {f : Addr} {fd : FuncData} (F : Fun K "fits" "fits" sFits f fd) (B0 : BltT mg) (N0 : NumT mg) : FnOk P w K mg base CX0 1 f fd ["document"] spFits := by
  refine F.ok scFits (fun vs H Q E h => ?_) (fun cdv A outer s H vs Q E hr h => ?_)
  · obtain ⟨p, d, rfl, _⟩ := h
    rfl
  · have nd := scFits.nd
    refine ⟨_, pss_one (ps_ret (pe_and (pe_cmpR op_le (pe_callB call_len_seq (by rfl) B0.len boot_len (pa_cons (pv 0) pa_nil)) (pe_gi (by rfl) N0.lines) (nomark _))
      (pe_one (pe_cmpR (op_eqD hr.units) (pe_lc (own := [("line", 1)]) (g := gName 1) rfl nd (pi_list (pv 0)) (blkOk_by (N := ["document", "line"]) (sc := defScope sFits) (by decide +kernel)) (fun _ _ _ _ _ => pg_name (i := 1) nd rfl (Or.inl rfl))
          (fun _ _ _ _ _ => pts_one (pt_cmpR op_gt (pe_callB (r := rLen K) call_len_seq (by rfl) B0.len boot_len (pa_cons (pv 1) pa_nil)) (pe_gi (by rfl) N0.bytes) (nomark _)))
          (fun _ _ _ _ _ => pv 1)) (pe_lst pa_nil) (nomark _))))), ?_⟩
    obtain ⟨p, d, rfl, ⟨as, hp, ls⟩, k⟩ := h
    have el : as.length = d.length := ls.length
    refine ⟨_, rfl, p, _, rfl, .inl (SqL.of hp), _, _, rfl, rfl, _, rfl, iteB (fun hc => ?_) (fun hc => ?_)⟩
    · rw [decide_eq_true_eq, refs_len, el] at hc
      have hd : d.length ≤ 64 := by omega
      refine ⟨_, rfl, p, rfl, ⟨_, SqL.of hp⟩, fun D hD => ?_⟩
      refine lc_list (K := K) (a := p) (xs := refs as) (fun i H' => Same H H' ∧ ∃ bs, H' D = some (.lst (refs bs)) ∧ bs.length ≤ i ∧ LnsAt H bs ((d.take i).filter (fun l => decide (64 < l.length))))
        ⟨same_new hD, [], upd_same, Nat.le_refl _, .nil⟩ (fun i H' _ ⟨s5, _⟩ => SqL.of (s5 _ _ hp)) ?_ ?_
      · rintro i x H' hx ⟨s5, bs, hDb, hbl, hbs⟩
        obtain ⟨a, ha, rfl⟩ := refs_of hx
        obtain ⟨l, hl, la⟩ := pair_getL ls ha
        have hi : i < as.length := (List.getElem?_eq_some_iff.mp ha).1
        have e1 := take_more hl
        refine ⟨rfl, _, rfl, a, _, rfl, .inl (SqL.of (s5 _ _ la)), _, _, rfl, rfl, _, rfl, iteB (fun hb => ?_) (fun hb => ?_)⟩
        · rw [decide_eq_true_eq, nums_len] at hb
          refine ⟨_, rfl, _, hDb, by rw [refs_len]; exact ltline (by omega), ?_, bs ++ [a], ?_, ?_, ?_⟩
          · intro c o z
            rw [upd_ne (ne_of_none z hD)]
            exact s5 c o z
          · rw [upd_same, refs_app]
            rfl
          · rw [List.length_append, List.length_singleton]
            omega
          · rw [e1, List.filter_append]
            refine pair_app hbs ?_
            rw [List.filter_cons, if_pos (decide_eq_true (by omega))]
            exact .cons la .nil
        · rw [decide_eq_false_iff_not, nums_len] at hb
          refine ⟨s5, bs, hDb, by omega, ?_⟩
          rw [e1, List.filter_append, List.filter_cons, if_neg (by rw [decide_eq_true_eq]; omega), List.filter_nil, List.append_nil]
          exact hbs
      · rintro H1 ⟨s1, bs, hDb, _, hbs⟩
        rw [refs_len, el, List.take_length] at hbs
        refine ⟨Nat.zero_le _, fun e he => ?_⟩
        have s2 : Same H1 (upd H1 e (.lst [])) := same_new he
        refine ⟨_, _, dp_doc (s2 _ _ hDb) (lns_mono (s1.trans s2) hbs), dp_doc (as := []) (d := []) upd_same .nil, shaped_doc _, shaped_doc _, ?_⟩
        rw [eqv_doc]
        have q := k _ (s1.trans s2)
        rw [fits_eq, decide_eq_true hd, Bool.true_and] at q
        exact q
    · rw [decide_eq_false_iff_not, refs_len, el] at hc
      have q := k H (Same.refl _)
      rw [fits_eq, decide_eq_false (show ¬ d.length ≤ 64 by omega), Bool.false_and] at q
      exact q

theorem put2 {a b : V} : putF "parents" b (putF "document" a []) = [(("document" : Str), a), (("parents" : Str), b)] := (put_past (by decide +kernel)).trans rfl
theorem put3 {a b c : V} : putF "forebears" c [(("document" : Str), a), (("parents" : Str), b)] = [(("document" : Str), a), (("parents" : Str), b), (("forebears" : Str), c)] := (put_past (by decide +kernel)).trans (congrArg _ ((put_past (by decide +kernel)).trans rfl))
theorem put4 {a b c d : V} : putF "origins" d [(("document" : Str), a), (("parents" : Str), b), (("forebears" : Str), c)] = [(("document" : Str), a), (("parents" : Str), b), (("forebears" : Str), c), (("origins" : Str), d)] := (put_past (by decide +kernel)).trans (congrArg _ ((put_past (by decide +kernel)).trans (congrArg _ ((put_past (by decide +kernel)).trans rfl))))
abbrev sVersionInit : Stmt := inClass (top 19) 0
theorem scVI : FnScope ["self", "document", "parents", "forebears", "origins"] ["self", "document", "parents", "forebears", "origins"] (defScope sVersionInit) := ⟨rfl, rfl, rfl, by decide +kernel, rfl, by decide +kernel, by decide +kernel⟩
theorem ok_versionInit {C : Par} {f : Addr} {fd : FuncData} (F : Fun K "__init__" "Version.__init__" sVersionInit f fd) (T : VerT K C) : FnOk P w K mg base CX0 1 f fd ["self", "document", "parents", "forebears", "origins"] (spNew C.c ["document", "parents", "forebears", "origins"]) := by
  refine F.ok scVI (fun vs H Q E h => ?_) (fun cdv A outer s H vs Q E hr h => ?_)
  · obtain ⟨p, dx, args, rfl, hl, _⟩ := h
    simpa using hl
  · refine ⟨_, pss_cons (ps_fld (pv 0) (pv 1) rfl) (pss_cons (ps_fld (pv 0) (pv 2) rfl) (pss_cons (ps_fld (pv 0) (pv 3) rfl) (pss_one (ps_fld (pv 0) (pv 4) rfl)))), ?_⟩
    obtain ⟨p, dx, args, rfl, hl, hp, k⟩ := h
    match args, hl with
    | [x1, x2, x3, x4], _ =>
    refine ⟨_, rfl, _, rfl, p, C.c, dx, [], rfl, hp, T.cl, T.nD, (by show 0 < 1000; decide), ?_⟩
    refine ⟨_, rfl, _, rfl, p, C.c, dx, _, rfl, upd_same, T.cl, T.nP, (by show 1 < 1000; decide), ?_⟩
    refine ⟨_, rfl, _, rfl, p, C.c, dx, _, rfl, upd_same, T.cl, T.nF, (by rw [put2]; show 2 < 1000; decide), ?_⟩
    rw [put2, put3]
    refine ⟨_, rfl, _, rfl, p, C.c, dx, _, rfl, upd_same, T.cl, T.nO, (by show 3 < 1000; decide), ?_⟩
    rw [put4]
    exact k _ upd_same fun b o e hb => by rw [upd_ne hb, upd_ne hb, upd_ne hb, upd_ne hb]; exact e
abbrev sHistInit : Stmt := inClass (top 20) 0
def spHistInit (C : Addr) : Sp := fun vs H Q _ => ∃ (p dx : Addr), vs = [.ref p] ∧ H p = some (.ins C dx []) ∧
  ∀ (H' : Hp) (d c : Addr), H d = none → H c = none → d ≠ c → H' p = some (.ins C dx [("versions", .ref d), ("branches", .ref c)]) → H' d = some (.lst []) → H' c = some (.lst (List.replicate 8 (.int (-1)))) → (∀ b o, H b = some o → b ≠ p → H' b = some o) → Q .non H'
theorem scHI : FnScope ["self"] ["self"] (defScope sHistInit) := ⟨rfl, rfl, rfl, by decide +kernel, rfl, by decide +kernel, by decide +kernel⟩
theorem ok_histInit {C f : Addr} {fd : FuncData} (F : Fun K "__init__" "History.__init__" sHistInit f fd) (T : HisT K C) (N0 : NumT mg) : FnOk P w K mg base CX0 1 f fd ["self"] (spHistInit C) := by
  refine F.ok scHI (fun vs H Q E h => ?_) (fun cdv A outer s H vs Q E hr h => ?_)
  · obtain ⟨p, dx, rfl, _⟩ := h
    rfl
  · refine ⟨_, pss_cons (ps_fld (pv 0) (pe_lst pa_nil) rfl) (pss_one (ps_fld (pv 0) (pe_op op_rep (pe_lst (pa_cons (pe_gi (by rfl) N0.nowhere) pa_nil)) (pe_gi (by rfl) N0.brs)) rfl)), ?_⟩
    obtain ⟨p, dx, rfl, hp, k⟩ := h
    refine ⟨Nat.zero_le _, fun d hd => ?_⟩
    have npd : p ≠ d := ne_of_none hp hd
    refine ⟨_, rfl, p, C, dx, [], rfl, (by rw [upd_ne npd]; exact hp), T.cl, T.nV, (by show 0 < 1000; decide), ?_⟩
    refine ⟨(by show 1 ≤ sizeLine; decide), fun t ht => ?_⟩
    refine ⟨t, 8, _, rfl, rfl, upd_same, by decide, by decide, (by show 1 * 8 ≤ sizeLine; decide), fun c hc => ?_⟩
    have hdd : upd (upd H d (.lst [])) p (.ins C dx (putF "versions" (.ref d) [])) d = some (.lst []) := by rw [upd_ne (Ne.symm npd)]; exact upd_same
    have npt : p ≠ t := ne_of_none upd_same ht
    have ndt : d ≠ t := ne_of_none hdd ht
    have ntc : t ≠ c := ne_of_none (o := .lst [V.int (-1)]) upd_same hc
    have npc : p ≠ c := ne_of_none (H := upd (upd (upd H d (.lst [])) p (.ins C dx (putF "versions" (.ref d) []))) t (.lst [V.int (-1)])) (o := .ins C dx (putF "versions" (.ref d) [])) (by rw [upd_ne npt]; exact upd_same) hc
    have ndc : d ≠ c := ne_of_none (H := upd (upd (upd H d (.lst [])) p (.ins C dx (putF "versions" (.ref d) []))) t (.lst [V.int (-1)])) (o := .lst []) (by rw [upd_ne ndt]; exact hdd) hc
    have hc' : H c = none := by
      rw [upd_ne (Ne.symm ntc), upd_ne (Ne.symm npc), upd_ne (Ne.symm ndc)] at hc
      exact hc
    have ht' : H t = none := by
      rw [upd_ne (Ne.symm npt), upd_ne (Ne.symm ndt)] at ht
      exact ht
    refine ⟨_, rfl, p, C, dx, _, rfl, (by rw [upd_ne npc, upd_ne npt]; exact upd_same), T.cl, T.nB, (by show 1 < 1000; decide), ?_⟩
    refine k _ d c hd hc' ndc (Eq.trans upd_same ?_) ?_ ?_ fun b o e hb => ?_
    · rw [put_nil, put_past (by decide +kernel), put_nil]
    · rw [upd_ne (Ne.symm npd), upd_ne ndc, upd_ne ndt]
      exact hdd
    · rw [upd_ne (Ne.symm npc)]
      exact upd_same
    · rw [upd_ne hb, upd_ne (ne_of_none e hc'), upd_ne (ne_of_none e ht'), upd_ne hb, upd_ne (ne_of_none e hd)]
      exact e
end
end Wb
namespace Wb
open PySem PySem.Spec PyProof.Rows L2

def spFull (CH : Addr) (CV : Par) : Sp := fun vs H Q _ => ∃ (a av ab : Addr) (s : Hist.State), vs = [.ref a] ∧ HistAt CH CV H a av ab s ∧ Q (.bl (decide (s.book.length = 128))) H
def spHas (CH : Addr) (CV : Par) : Sp := fun vs H Q _ => ∃ (a av ab : Addr) (s : Hist.State) (n : Nat), vs = [.ref a, .int (n : Int)] ∧ HistAt CH CV H a av ab s ∧ Q (.bl (decide (n < s.book.length))) H
def spDocOf (CH : Addr) (CV : Par) : Sp := fun vs H Q _ => ∃ (a av ab : Addr) (s : Hist.State) (n : Nat), vs = [.ref a, .int (n : Int)] ∧ HistAt CH CV H a av ab s ∧ n < s.book.length ∧ ∀ p, DcAt (wo CV.x av ab H) p (Hist.docOf s.book n) → Q (.ref p) H
def spIsF (CH : Addr) (CV : Par) : Sp := fun vs H Q _ => ∃ (a av ab : Addr) (s : Hist.State) (u v : Nat), vs = [.ref a, .int (u : Int), .int (v : Int)] ∧ HistAt CH CV H a av ab s ∧ v < s.book.length ∧ Q (.bl (Hist.isForebear s.book u v)) H
def spFirst (CH : Addr) (CV : Par) : Sp := fun vs H Q _ => ∃ (a av ab : Addr) (s : Hist.State) (n : Nat), vs = [.ref a, .int (n : Int)] ∧ HistAt CH CV H a av ab s ∧ n < s.book.length ∧ ∀ (H' : Hp) p, Same H H' → DcAt (wo CV.x av ab H') p (Hist.beforeOf s.book n) → Q (.ref p) H'
def spNearest (CH : Addr) (CV : Par) : Sp := fun vs H Q _ => ∃ (a av ab : Addr) (s : Hist.State) (u v : Nat), vs = [.ref a, .int (u : Int), .int (v : Int)] ∧ HistAt CH CV H a av ab s ∧ u < s.book.length ∧ v < s.book.length ∧ ∀ (H' : Hp) q, Same H H' → H q = none → H' q = some (.lst (nums (Hist.nearest s.book u v))) → Q (.ref q) H'
abbrev sFull : Stmt := inClass (top 20) 1
abbrev sHas : Stmt := inClass (top 20) 2
abbrev sDocOf : Stmt := inClass (top 20) 3
abbrev sOrig : Stmt := inClass (top 20) 4
abbrev sFore : Stmt := inClass (top 20) 5
abbrev sMake : Stmt := inClass (top 20) 6
abbrev sIsF : Stmt := inClass (top 20) 7
abbrev sNearest : Stmt := inClass (top 20) 8
abbrev sFirst : Stmt := inClass (top 20) 9
theorem inV_nums (n : Nat) (l : List Nat) : inV (.int (n : Int)) (nums l) = l.contains n := by
  unfold inV nums
  rw [List.any_map, List.contains_eq_any_beq]
  congr 1
  funext m
  show (eqV (.int (m : Int)) (.int (n : Int))) = (n == m)
  show ((m : Int) == (n : Int)) = (n == m)
  by_cases e : m = n
  · subst e
    rw [beq_self_eq_true, beq_self_eq_true]
  · have e' : ¬ (m : Int) = n := by omega
    have e2 : ¬ n = m := fun z => e z.symm
    rw [beq_eq_false_iff_ne.mpr e', beq_eq_false_iff_ne.mpr e2]
theorem flat_nums (l : List Nat) : (nums l).all flatV = true := by
  unfold nums
  rw [List.all_map, List.all_eq_true]
  intro x _
  rfl
section
variable {P : Program} {w : World} {K : PySem.W.Frag} {mg : Str → Option Value} {base : Heap}
theorem scFull : FnScope ["self"] ["self"] (defScope sFull) := ⟨rfl, rfl, rfl, by decide +kernel, rfl, by decide +kernel, by decide +kernel⟩
theorem ok_full {f CH : Addr} {CV : Par} {fd : FuncData} (F : Fun K "is_full" "History.is_full" sFull f fd) (B0 : BltT mg) (N0 : NumT mg) (T : HisT K CH) : FnOk P w K mg base CX0 1 f fd ["self"] (spFull CH CV) := by
  refine F.ok scFull (fun vs H Q E h => ?_) (fun cdv A outer s H vs Q E hr h => ?_)
  · obtain ⟨a, av, ab, st, rfl, _⟩ := h
    rfl
  · refine ⟨_, pss_one (ps_ret (pe_cmpR op_eq (pe_callB call_len_seq (by rfl) B0.len boot_len (pa_cons (pe_fld (pv 0) rfl) pa_nil)) (pe_gi (by rfl) N0.vers) (nomark _))), ?_⟩
    obtain ⟨a, av, ab, st, rfl, hi, k⟩ := h
    obtain ⟨dx, h1⟩ := hi.inst
    obtain ⟨vs, h3, h4, h5⟩ := hi.vers
    refine ⟨_, rfl, a, CH, dx, _, _, rfl, h1, T.cl, T.nV, lkHv, av, _, rfl, .inl (SqL.of h3), rfl, ?_⟩
    rw [refs_len, h4]
    have e : decide (V.int (st.book.length : Int) = V.int 128) = decide (st.book.length = 128) := by
      by_cases c : st.book.length = 128
      · rw [decide_eq_true c, c]
        rfl
      · rw [decide_eq_false c]
        exact decide_eq_false fun z => c (by have := V.int.inj z; omega)
    show Q (.bl (decide (V.int (st.book.length : Int) = V.int 128))) H
    rw [e]
    exact k
theorem scHas : FnScope ["self", "number"] ["self", "number"] (defScope sHas) := ⟨rfl, rfl, rfl, by decide +kernel, rfl, by decide +kernel, by decide +kernel⟩
theorem ok_has {f CH : Addr} {CV : Par} {fd : FuncData} (F : Fun K "has" "History.has" sHas f fd) (B0 : BltT mg) (T : HisT K CH) : FnOk P w K mg base CX0 1 f fd ["self", "number"] (spHas CH CV) := by
  refine F.ok scHas (fun vs H Q E h => ?_) (fun cdv A outer s H vs Q E hr h => ?_)
  · obtain ⟨a, av, ab, st, n, rfl, _⟩ := h
    rfl
  · refine ⟨_, pss_one (ps_ret (pe_chain op_le op_lt pe_int (pv 1) (pe_callB call_len_seq (by rfl) B0.len boot_len (pa_cons (pe_fld (pv 0) rfl) pa_nil)))), ?_⟩
    obtain ⟨a, av, ab, st, n, rfl, hi, k⟩ := h
    obtain ⟨dx, h1⟩ := hi.inst
    obtain ⟨vs, h3, h4, h5⟩ := hi.vers
    refine ⟨_, rfl, _, _, rfl, rfl, _, rfl, ?_⟩
    rw [decide_eq_true (show (0 : Int) ≤ (n : Int) by omega)]
    refine iteT ?_
    refine ⟨_, rfl, a, CH, dx, _, _, rfl, h1, T.cl, T.nV, lkHv, av, _, rfl, .inl (SqL.of h3), _, _, rfl, rfl, ?_⟩
    rw [refs_len, h4]
    have e : decide ((n : Int) < (st.book.length : Int)) = decide (n < st.book.length) := by
      by_cases c : n < st.book.length
      · rw [decide_eq_true c]; exact decide_eq_true (by omega)
      · rw [decide_eq_false c]; exact decide_eq_false (by omega)
    show Q (.bl (decide ((n : Int) < (st.book.length : Int)))) H
    rw [e]
    exact k
theorem scDocOf : FnScope ["self", "number"] ["self", "number"] (defScope sDocOf) := ⟨rfl, rfl, rfl, by decide +kernel, rfl, by decide +kernel, by decide +kernel⟩
theorem ok_docOf {f CH : Addr} {CV : Par} {fd : FuncData} (F : Fun K "document_of" "History.document_of" sDocOf f fd) (T : HisT K CH) (TV : VerT K CV) : FnOk P w K mg base CX0 1 f fd ["self", "number"] (spDocOf CH CV) := by
  refine F.ok scDocOf (fun vs H Q E h => ?_) (fun cdv A outer s H vs Q E hr h => ?_)
  · obtain ⟨a, av, ab, st, n, rfl, _⟩ := h
    rfl
  · refine ⟨_, pss_one (ps_ret (pe_fld (pe_ix ix_list (pe_fld (pv 0) rfl) (pv 1) (fun _ _ => rfl)) rfl)), ?_⟩
    obtain ⟨a, av, ab, st, n, rfl, hi, hn, k⟩ := h
    obtain ⟨dx, h1⟩ := hi.inst
    obtain ⟨vs, h3, h4, h5⟩ := hi.vers
    have hv : vs[n]? = some vs[n] := List.getElem?_eq_getElem (by omega)
    obtain ⟨dy, pd, pp, pf, po, v1, v2, _⟩ := h5 _ _ hv
    refine ⟨_, rfl, a, CH, dx, _, _, rfl, h1, T.cl, T.nV, lkHv, _, rfl, av, _, _, _, rfl, rfl, SqL.of h3, atI_nat (refs_at hv), vs[n], CV.c, dy, _, _, rfl, wo_sub _ _ v1, TV.cl, TV.nD, lk4a, k pd v2⟩
theorem scIsF : FnScope ["self", "one", "other"] ["self", "one", "other"] (defScope sIsF) := ⟨rfl, rfl, rfl, by decide +kernel, rfl, by decide +kernel, by decide +kernel⟩
theorem ok_isF {f CH : Addr} {CV : Par} {fd : FuncData} (F : Fun K "is_forebear" "History.is_forebear" sIsF f fd) (T : HisT K CH) (TV : VerT K CV) : FnOk P w K mg base CX0 1 f fd ["self", "one", "other"] (spIsF CH CV) := by
  refine F.ok scIsF (fun vs H Q E h => ?_) (fun cdv A outer s H vs Q E hr h => ?_)
  · obtain ⟨a, av, ab, st, u, v, rfl, _⟩ := h
    rfl
  · refine ⟨_, pss_one (ps_ret (pe_cmpR op_in_seq (pv 1) (pe_fld (pe_ix ix_list (pe_fld (pv 0) rfl) (pv 2) (fun _ _ => rfl)) rfl) (by rfl))), ?_⟩
    obtain ⟨a, av, ab, st, u, v, rfl, hi, hn, k⟩ := h
    obtain ⟨dx, h1⟩ := hi.inst
    obtain ⟨vs, h3, h4, h5⟩ := hi.vers
    have hv : vs[v]? = some vs[v] := List.getElem?_eq_getElem (by omega)
    obtain ⟨dy, pd, pp, pf, po, v1, v2, v3, v4, v5⟩ := h5 _ _ hv
    refine ⟨_, rfl, _, rfl, a, CH, dx, _, _, rfl, h1, T.cl, T.nV, lkHv, _, rfl, av, _, _, _, rfl, rfl, SqL.of h3, atI_nat (refs_at hv), vs[v], CV.c, dy, _, _, rfl, wo_sub _ _ v1, TV.cl, TV.nF, lk4c, pf, _, rfl, .inl (SqL.of (wo_sub _ _ v4)), rfl, flat_nums _, ?_⟩
    show Q (.bl (inV (.int (u : Int)) (nums (Hist.forebears st.book v).reverse))) H
    rw [inV_nums]
    have e : (Hist.forebears st.book v).reverse.contains u = Hist.isForebear st.book u v := by
      unfold Hist.isForebear
      rw [Bool.eq_iff_iff, List.contains_iff_mem, List.contains_iff_mem, List.mem_reverse]
    rw [e]
    exact k
theorem scFirst : FnScope ["self", "number", "parents"] ["self", "number"] (defScope sFirst) := ⟨rfl, rfl, rfl, by decide +kernel, rfl, by decide +kernel, by decide +kernel⟩
theorem ok_first {f CH : Addr} {CV : Par} {fd : FuncData} (F : Fun K "first_parent" "History.first_parent" sFirst f fd) (T : HisT K CH) (TV : VerT K CV) (GD : HasM P w K mg base CX0 1 CH "document_of" ["self", "number"] (spDocOf CH CV)) : FnOk P w K mg base CX0 2 f fd ["self", "number"] (spFirst CH CV) := by
  obtain ⟨fD, fdD, GD, MD, bD⟩ := GD
  refine F.ok scFirst (fun vs H Q E h => ?_) (fun cdv A outer s H vs Q E hr h => ?_)
  · obtain ⟨a, av, ab, st, n, rfl, _⟩ := h
    rfl
  · have nd := scFirst.nd
    refine ⟨_, pss_cons (ps_set (i := 2) nd rfl (.inl rfl) (pe_fld (pe_ix ix_list (pe_fld (pv 0) rfl) (pv 1) (fun _ _ => rfl)) rfl))
      (pss_one (ps_ret (pe_ifExp (pt_cmpR (op_neD hr.units) (pv 2) (pe_lst pa_nil) (nomark _)) (pe_meth (pv 0) T.cl MD GD hr bD .nil pass0 (pa_cons (pe_ix ix_list (pv 2) pe_int (fun _ _ => rfl)) pa_nil)) (pe_lst pa_nil)))), ?_⟩
    obtain ⟨a, av, ab, st, n, rfl, hi, hn, k⟩ := h
    obtain ⟨dx, h1⟩ := id hi.inst
    obtain ⟨vs, h3, h4, h5⟩ := id hi.vers
    have hv : vs[n]? = some vs[n] := List.getElem?_eq_getElem (by omega)
    obtain ⟨dy, pd, pp, pf, po, v1, v2, v3, v4, v5⟩ := h5 _ _ hv
    have q3 : H pp = some (.lst (nums (Hist.parentsOf st.book n))) := wo_sub _ _ v3
    refine ⟨_, rfl, a, CH, dx, _, _, rfl, h1, T.cl, T.nV, lkHv, _, rfl, av, _, _, _, rfl, rfl, SqL.of h3, atI_nat (refs_at hv), vs[n], CV.c, dy, _, _, rfl, wo_sub _ _ v1, TV.cl, TV.nP, lk4b, ?_⟩
    refine ⟨_, rfl, Nat.zero_le _, fun e he => ?_⟩
    have s1 : Same H (upd H e (.lst [])) := same_new he
    refine ⟨_, _, dp_line (show LnAt _ pp _ from s1 _ _ q3), dp_line (l := []) (show LnAt _ e [] from upd_same), shaped_line _, shaped_line _, _, rfl, ?_⟩
    rw [eqv_line]
    refine iteB (fun hb => ?_) (fun hb => ?_)
    · rw [Bool.not_eq_true', decide_eq_false_iff_not] at hb
      cases ep : Hist.parentsOf st.book n with
      | nil => exact absurd ep hb
      | cons p0 r =>
        have hlt : p0 < st.book.length := Nat.lt_trans (hi.wf.low n p0 (by rw [ep]; exact List.mem_cons_self)) hn
        refine ⟨_, rfl, a, dx, _, rfl, s1 _ _ h1, lkHno (by decide +kernel) (by decide +kernel), _, rfl, pp, _, _, _, rfl, rfl, SqL.of (s1 _ _ q3), at_of (j := 0) rfl (nums_at (by rw [ep]; rfl)), ?_⟩
        refine ⟨a, av, ab, st, p0, rfl, hi.mono s1, hlt, fun p hp => k _ p s1 ?_⟩
        have e1 : Hist.beforeOf st.book n = Hist.docOf st.book p0 := by
          unfold Hist.beforeOf
          rw [ep]
        rw [e1]
        exact hp
    · rw [Bool.not_eq_false', decide_eq_true_eq] at hb
      refine ⟨Nat.zero_le _, fun p hp => ?_⟩
      have s2 : Same H (upd (upd H e (.lst [])) p (.lst [])) := fun b o z => same_new hp _ _ (s1 b o z)
      have hpH : H p = none := s1.free hp
      refine k _ p s2 ⟨[], wo_at upd_same (new_ne hpH h3) (new_ne hpH hi.brs) (new_ne hpH hi.ext), ?_⟩
      have e1 : Hist.beforeOf st.book n = [] := by
        unfold Hist.beforeOf
        rw [hb]
      rw [e1]
      exact .nil

theorem scNearest : FnScope ["self", "one", "other", "number", "both", "found", "high"] ["self", "one", "other"] (defScope sNearest) := ⟨rfl, rfl, rfl, by decide +kernel, rfl, by decide +kernel, by decide +kernel⟩
theorem ok_nearest {f CH : Addr} {CV : Par} {fd : FuncData} (F : Fun K "nearest" "History.nearest" sNearest f fd) (B0 : BltT mg) (T : HisT K CH) (TV : VerT K CV) (GF : HasM P w K mg base CX0 1 CH "is_forebear" ["self", "one", "other"] (spIsF CH CV)) : FnOk P w K mg base CX0 2 f fd ["self", "one", "other"] (spNearest CH CV) := by
  obtain ⟨fF, fdF, GF, MF, bF⟩ := GF
  refine F.ok scNearest (fun vs H Q E h => ?_) (fun cdv A outer s H vs Q E hr h => ?_)
  · obtain ⟨a, av, ab, st, u, v, rfl, _⟩ := h
    rfl
  · have nd := scNearest.nd
    refine ⟨_, pss_cons (ps_setLc (i := 4) (own := [("number", 3)]) (g := gName 3) rfl nd rfl rfl (sw_true rfl rfl rfl (by decide +kernel))
          (pi_list (pe_fld (pe_ix ix_list (pe_fld (pv 0) rfl) (pv 1) (fun _ _ => rfl)) rfl)) (blkOk_by (N := ["self", "one", "other", "number", "both", "found", "high"]) (sc := defScope sNearest) (by decide +kernel)) (fun _ _ _ _ _ => pg_name (i := 3) nd rfl (Or.inl rfl))
          (fun _ _ _ _ _ => pts_one (pt_val (pe_meth (pv 0) T.cl MF GF hr bF .nil pass0 (pa_cons (pv 3) (pa_cons (pv 2) pa_nil)))))
          (fun _ _ _ _ _ => pv 3))
      (pss_cons (ps_set (i := 5) nd rfl (.inl rfl) (pe_lst pa_nil))
      (pss_cons (ps_for PassesOwn.never rfl (pi_reversed (by rfl) B0.reversed (pa_cons (pv 4) pa_nil)) (pg_name (i := 3) nd rfl (Or.inr rfl))
        (pss_one (ps_if (pt_cmpR (op_eqD hr.units) (pe_lc (own := [("high", 6)]) (g := gName 6) rfl nd (pi_list (pv 5)) (blkOk_by (N := ["self", "one", "other", "number", "both", "found", "high"]) (sc := defScope sNearest) (by decide +kernel)) (fun _ _ _ _ _ => pg_name (i := 6) nd rfl (Or.inl rfl))
            (fun _ _ _ _ _ => pts_one (pt_val (pe_meth (pv 0) T.cl MF GF hr bF .nil pass0 (pa_cons (pv 3) (pa_cons (pv 6) pa_nil)))))
            (fun _ _ _ _ _ => pv 6)) (pe_lst pa_nil) (nomark _))
          (pss_one (ps_expr (pe_bm PySem.F.plainAttrs_list PySem.F.slot_list_append PySem.F.type_list_append mt_append (pv 5) (pa_cons (pv 3) pa_nil)))) pss_nil)))
      (pss_one (ps_ret (pv 5))))), ?_⟩
    obtain ⟨a, av, ab, st, u, v, rfl, hi, hu, hv, k⟩ := h
    obtain ⟨dx, h1⟩ := id hi.inst
    obtain ⟨vs, h3, h4, h5⟩ := id hi.vers
    have gu : vs[u]? = some vs[u] := List.getElem?_eq_getElem (by omega)
    obtain ⟨dy, pd, pp, pf, po, v1, v2, v3, v4, v5⟩ := h5 _ _ gu
    have q4 : H pf = some (.lst (nums (Hist.forebears st.book u).reverse)) := wo_sub _ _ v4
    have hfl := fb_len st.book u
    have hmany := hi.wf.many
    refine ⟨_, rfl, a, CH, dx, _, _, rfl, h1, T.cl, T.nV, lkHv, _, rfl, av, _, _, _, rfl, rfl, SqL.of h3, atI_nat (refs_at gu), vs[u], CV.c, dy, _, _, rfl, wo_sub _ _ v1, TV.cl, TV.nF, lk4c, pf, rfl, ⟨_, SqL.of q4⟩, fun D hD => ?_⟩
    have hal : (Hist.forebears st.book u).reverse.length ≤ 128 := by rw [List.length_reverse]; omega
    refine lc_list (K := K) (a := pf) (xs := nums (Hist.forebears st.book u).reverse) (fun i H' => Same H H' ∧ H' D = some (.lst (nums (((Hist.forebears st.book u).reverse.take i).filter fun x => Hist.isForebear st.book x v))))
      ⟨same_new hD, upd_same⟩ (fun i H' _ ⟨s5, _⟩ => SqL.of (s5 _ _ q4)) ?_ ?_
    · rintro i x H' hx ⟨s5, hDb⟩
      obtain ⟨n, hn, rfl⟩ := nums_of hx
      have e1 := take_more hn
      have hil : i < 128 := by have := (List.getElem?_eq_some_iff.mp hn).1; omega
      refine ⟨rfl, _, rfl, a, dx, _, rfl, s5 _ _ h1, lkHno (by decide +kernel) (by decide +kernel), _, rfl, _, rfl, ?_⟩
      refine ⟨a, av, ab, st, n, v, rfl, hi.mono s5, hv, _, rfl, iteB (fun hb => ?_) (fun hb => ?_)⟩
      · refine ⟨_, rfl, _, hDb, ?_, ?_, ?_⟩
        · rw [nums_len]
          have := List.length_filter_le (fun x => Hist.isForebear st.book x v) ((Hist.forebears st.book u).reverse.take i)
          have := List.length_take_le i (Hist.forebears st.book u).reverse
          exact ltline (by omega)
        · intro c o z
          rw [upd_ne (ne_of_none z hD)]
          exact s5 c o z
        · rw [upd_same, e1, List.filter_append, List.filter_cons, if_pos hb, nums_app]
          rfl
      · refine ⟨s5, ?_⟩
        rw [e1, List.filter_append, List.filter_cons, if_neg (by rw [hb]; decide), List.filter_nil, List.append_nil]
        exact hDb
    · rintro H1 ⟨s1, hDb⟩
      rw [nums_len, List.take_length] at hDb
      have erev : ((Hist.forebears st.book u).reverse.filter fun x => Hist.isForebear st.book x v) = (inBoth st.book u v).reverse := by unfold inBoth; rw [List.filter_reverse]
      rw [erev] at hDb
      refine ⟨Nat.zero_le _, fun fnd hf => ?_⟩
      have hfH : H fnd = none := s1.free hf
      have hDf : D ≠ fnd := ne_of_none hDb hf
      have hil : (inBoth st.book u v).length ≤ 128 := by
        have : (inBoth st.book u v).length ≤ (Hist.forebears st.book u).length := List.length_filter_le _ _
        omega
      refine ⟨_, rfl, D, _, rfl, SqL.of (by rw [upd_ne hDf]; exact hDb), ?_⟩
      refine RT.for_Itv (K := K) (a := D) (xs := nums (inBoth st.book u v).reverse) (fun i σ H' => Keep fnd H1 H' ∧ ∃ v3 : Option V, σ = [some (.ref a), some (.int (u : Int)), some (.int (v : Int)), v3, some (.ref D), some (.ref fnd), none] ∧ H' fnd = some (.lst (nums (nearLoop st.book ((inBoth st.book u v).take i) []))))
        ⟨fun b o e n => same_new hf _ _ e, none, rfl, upd_same⟩ (fun i σ H' ⟨s5, _⟩ => SqL.of (s5 _ _ hDb hDf)) ?_ ?_
      · rintro i x σ H' hi' hx ⟨s5, v3', rfl, hfd⟩
        rw [nums_len, List.length_reverse] at hi' hx
        obtain ⟨n, hn, rfl⟩ := nums_of hx
        have hn' : (inBoth st.book u v)[i]? = some n := by
          rw [List.getElem?_reverse (by omega)] at hn
          rw [← hn]
          congr 1
          omega
        have e1 : nearLoop st.book ((inBoth st.book u v).take (i + 1)) [] = nearStep st.book (nearLoop st.book ((inBoth st.book u v).take i) []) n := by
          rw [take_more hn']
          unfold nearLoop
          rw [List.foldl_append]
          rfl
        have hll := nearLoop_len st.book ((inBoth st.book u v).take i) []
        rw [List.length_take, List.length_nil] at hll
        have hmem : ∀ y ∈ nearLoop st.book ((inBoth st.book u v).take i) [], y < st.book.length := by
          have gen : ∀ (l acc : List Nat), (∀ y ∈ acc, y < st.book.length) → (∀ y ∈ l, y < st.book.length) → ∀ y ∈ nearLoop st.book l acc, y < st.book.length := by
            intro l
            induction l with
            | nil => intro acc h1 _; exact h1
            | cons x l ih =>
              intro acc h1 h2
              show ∀ y ∈ nearLoop st.book l (nearStep st.book acc x), _
              refine ih _ (fun y hy => ?_) (fun y hy => h2 y (List.mem_cons_of_mem _ hy))
              unfold nearStep at hy
              split at hy
              · rcases List.mem_append.mp hy with hy | hy
                · exact h1 y hy
                · rw [List.mem_singleton.mp hy]
                  exact h2 x List.mem_cons_self
              · exact h1 y hy
          refine gen _ [] (fun y hy => by cases hy) fun y hy => ?_
          exact fb_lt st.book u y (List.mem_filter.mp (List.mem_of_mem_take hy)).1
        generalize nearLoop st.book ((inBoth st.book u v).take i) [] = acc at *
        have kH : ∀ {H4 : Hp}, Keep fnd H1 H4 → Same H H4 := fun s => s.same s1 hfH
        refine ⟨_, rfl, fnd, rfl, ⟨_, SqL.of hfd⟩, fun D2 hD2 => ?_⟩
        have hfd2 : fnd ≠ D2 := ne_of_none hfd hD2
        refine lc_list (K := K) (a := fnd) (xs := nums acc) (fun j H4 => Keep D2 H' H4 ∧ H4 D2 = some (.lst (nums ((acc.take j).filter fun y => Hist.isForebear st.book n y))))
          ⟨fun b o e nn => same_new hD2 _ _ e, upd_same⟩ (fun j H4 _ ⟨s6, _⟩ => SqL.of (s6 _ _ hfd hfd2)) ?_ ?_
        · rintro j y H4 hy ⟨s6, hD4⟩
          obtain ⟨m, hm, rfl⟩ := nums_of hy
          have e2 := take_more hm
          have hjl : j < acc.length := (List.getElem?_eq_some_iff.mp hm).1
          have s64 : Same H H4 := fun b o e => s6 b o (kH s5 b o e) (ne_of_none (kH s5 b o e) hD2)
          refine ⟨rfl, _, rfl, a, dx, _, rfl, s64 _ _ h1, lkHno (by decide +kernel) (by decide +kernel), _, rfl, _, rfl, ?_⟩
          refine ⟨a, av, ab, st, n, m, rfl, hi.mono s64, hmem m (List.mem_of_getElem? hm), _, rfl, iteB (fun hb => ?_) (fun hb => ?_)⟩
          · refine ⟨_, rfl, _, hD4, ?_, s6.upd, ?_⟩
            · rw [nums_len]
              have := List.length_filter_le (fun y => Hist.isForebear st.book n y) (acc.take j)
              have := List.length_take_le j acc
              exact ltline (by omega)
            · rw [upd_same, e2, List.filter_append, List.filter_cons, if_pos hb, nums_app]
              rfl
          · refine ⟨s6, ?_⟩
            rw [e2, List.filter_append, List.filter_cons, if_neg (by rw [hb]; decide), List.filter_nil, List.append_nil]
            exact hD4
        · rintro H4 ⟨s6, hD4⟩
          rw [nums_len, List.take_length] at hD4
          refine ⟨Nat.zero_le _, fun e0 he0 => ?_⟩
          have s7 : Same H4 (upd H4 e0 (.lst [])) := same_new he0
          refine ⟨_, _, dp_line (show LnAt _ D2 _ from s7 _ _ hD4), dp_line (l := []) (show LnAt _ e0 [] from upd_same), shaped_line _, shaped_line _, _, rfl, ?_⟩
          rw [eqv_line]
          have hfd7 := s7 _ _ (s6 _ _ hfd hfd2)
          have k7 : Keep fnd H1 (upd H4 e0 (.lst [])) := fun b o e nn => s7 _ _ (s6 _ _ (s5 _ _ e nn) (ne_of_none (s5 _ _ e nn) hD2))
          refine iteB (fun hb => ?_) (fun hb => ?_)
          · have hb' := of_decide_eq_true hb
            refine ⟨_, rfl, .inl ⟨rfl, _, SqL.of hfd7⟩, _, rfl, fnd, _, _, rfl, rfl, hfd7, by rw [nums_len]; exact ltline (by omega), ?_⟩
            refine ⟨k7.upd, some (.int (n : Int)), rfl, ?_⟩
            rw [upd_same, e1]
            unfold nearStep
            rw [if_pos hb', nums_app]
            rfl
          · have hb' := of_decide_eq_false hb
            refine ⟨k7, some (.int (n : Int)), rfl, ?_⟩
            rw [hfd7, e1]
            unfold nearStep
            rw [if_neg hb']
      · rintro σ H' ⟨s5, v3', rfl, hfd⟩
        rw [nums_len, List.length_reverse, List.take_length, nearest_eq hi.wf.low] at hfd
        exact ⟨_, rfl, k H' fnd (s5.same s1 hfH) hfH hfd⟩
end
end Wb
namespace Wb
open PySem PySem.Spec PyProof.Rows L2

def addK (ks : List Nat) (n : Nat) : List Nat := if n ∈ ks then ks else ks ++ [n]
def dkv (ks : List Nat) : List (Key × V) := ks.map fun (n : Nat) => ((Sum.inl (n : Int) : Key), V.bl true)
theorem dkv_put (ks : List Nat) (n : Nat) : putK (dkv ks) (Sum.inl (n : Int)) (V.bl true) = dkv (addK ks n) := by
  unfold putK addK
  by_cases c : n ∈ ks
  · rw [if_pos c, if_pos]
    · unfold dkv
      rw [List.map_map]
      refine List.map_congr_left fun m _ => ?_
      show (if (Sum.inl (m : Int) : Key) = Sum.inl (n : Int) then ((Sum.inl (m : Int) : Key), V.bl true) else (Sum.inl (m : Int), V.bl true)) = _
      split <;> rfl
    · rw [List.any_eq_true]
      exact ⟨(Sum.inl (n : Int), V.bl true), List.mem_map.mpr ⟨n, c, rfl⟩, decide_eq_true rfl⟩
  · rw [if_neg c, if_neg]
    · unfold dkv
      rw [List.map_append]
      rfl
    · intro z
      rw [List.any_eq_true] at z
      obtain ⟨p, hp, e⟩ := z
      obtain ⟨m, hm, rfl⟩ := List.mem_map.mp hp
      have e' : (Sum.inl (m : Int) : Key) = Sum.inl (n : Int) := of_decide_eq_true e
      have e2 : (m : Int) = n := Sum.inl.inj e'
      exact c (by rw [← show m = n by omega]; exact hm)
theorem addK_mem {ks : List Nat} {n k : Nat} : k ∈ addK ks n ↔ k ∈ ks ∨ k = n := by
  unfold addK
  by_cases c : n ∈ ks
  · rw [if_pos c]
    constructor
    · exact .inl
    · rintro (h | h)
      · exact h
      · rw [h]; exact c
  · rw [if_neg c, List.mem_append, List.mem_singleton]
theorem addK_nodup {ks : List Nat} {n : Nat} (h : ks.Nodup) : (addK ks n).Nodup := by
  unfold addK
  by_cases c : n ∈ ks
  · rw [if_pos c]; exact h
  · rw [if_neg c]
    refine List.nodup_append.mpr ⟨h, by simp, fun a ha b hb => ?_⟩
    rw [List.mem_singleton.mp hb]
    exact fun e => c (e ▸ ha)
theorem addAll : ∀ (l ks : List Nat), ks.Nodup → (l.foldl addK ks).Nodup ∧ (∀ k, k ∈ l.foldl addK ks ↔ k ∈ ks ∨ k ∈ l) ∧ (l.foldl addK ks).length ≤ ks.length + l.length
  | [], ks, h => ⟨h, fun k => by simp, Nat.le_refl _⟩
  | n :: l, ks, h => by
    obtain ⟨h1, h2, h3⟩ := addAll l (addK ks n) (addK_nodup h)
    refine ⟨h1, fun k => ?_, ?_⟩
    · show k ∈ l.foldl addK (addK ks n) ↔ _
      rw [h2, addK_mem, List.mem_cons, or_assoc]
    · show (l.foldl addK (addK ks n)).length ≤ _
      have : (addK ks n).length ≤ ks.length + 1 := by
        unfold addK
        split
        · exact Nat.le_succ _
        · rw [List.length_append]; exact Nat.le_refl _
      rw [List.length_cons]
      omega
theorem sorted_of {ks : List Nat} {ys : List Int} (hn : ks.Nodup) (hp : ys.Perm (ks.map fun (n : Nat) => (n : Int))) (hs : ys.Pairwise (· ≤ ·)) : ∃ ns : List Nat, ys = ns.map (fun (n : Nat) => (n : Int)) ∧ ns.Pairwise (· < ·) ∧ ∀ k, k ∈ ns ↔ k ∈ ks := by
  have hnat : ∀ y ∈ ys, ∃ n : Nat, y = n := fun y hy => by
    obtain ⟨n, _, e⟩ := List.mem_map.mp (hp.mem_iff.mp hy)
    exact ⟨n, e.symm⟩
  have e1 : ys = (ys.map Int.toNat).map (fun (n : Nat) => (n : Int)) := by
    rw [List.map_map]
    conv => lhs; rw [← List.map_id ys]
    refine List.map_congr_left fun y hy => ?_
    obtain ⟨n, e⟩ := hnat y hy
    rw [e]
    rfl
  have hmem : ∀ k, k ∈ ys.map Int.toNat ↔ k ∈ ks := fun k => by
    constructor
    · intro h
      obtain ⟨y, hy, e⟩ := List.mem_map.mp h
      obtain ⟨n, hn', e'⟩ := List.mem_map.mp (hp.mem_iff.mp hy)
      rw [← e, ← e']
      exact hn'
    · intro h
      exact List.mem_map.mpr ⟨(k : Int), hp.mem_iff.mpr (List.mem_map.mpr ⟨k, h, rfl⟩), rfl⟩
  refine ⟨ys.map Int.toNat, e1, ?_, hmem⟩
  have nd : ys.Nodup := by
    refine hp.nodup_iff.mpr ?_
    unfold List.Nodup
    rw [List.pairwise_map]
    exact hn.imp fun {a b} h e => h (by omega)
  have lt : ys.Pairwise (· < ·) := by
    have both := hs.and nd
    exact both.imp fun {a b} h => by
      obtain ⟨h1, h2⟩ := h
      have : a ≠ b := h2
      omega
  rw [List.pairwise_map]
  refine List.Pairwise.imp_of_mem (fun {a b} ha hb h => ?_) lt
  obtain ⟨n, en⟩ := hnat a ha
  obtain ⟨m, em⟩ := hnat b hb
  rw [en, em] at h ⊢
  show n < m
  omega
def spFore (CH : Addr) (CV : Par) : Sp := fun vs H Q _ => ∃ (a pp av ab : Addr) (s : Hist.State) (ps : List Nat) (d : Doc), vs = [.ref a, .ref pp, .int (s.book.length : Int)] ∧ HistAt CH CV H a av ab s ∧ LnAt H pp ps ∧ ps.length ≤ 2 ∧ (∀ p ∈ ps, p < s.book.length) ∧
  ∀ (H' : Hp) q, Same H H' → H q = none → H' q = some (.lst (nums (Hist.forebears (s.book ++ [⟨ps, d⟩]) s.book.length).reverse)) → Q (.ref q) H'
def seenOf (h : Hist.Book) (ps : List Nat) : List Nat := (ps.flatMap fun p => (Hist.forebears h p).reverse).foldl addK []
theorem flat_len (h : Hist.Book) : ∀ ps : List Nat, (ps.flatMap fun p => (Hist.forebears h p).reverse).length ≤ ps.length * h.length
  | [] => by simp
  | p :: ps => by
    have ih := flat_len h ps
    have := fb_len h p
    rw [List.flatMap_cons, List.length_append, List.length_reverse, List.length_cons, Nat.succ_mul]
    omega
section
variable {P : Program} {w : World} {K : PySem.W.Frag} {mg : Str → Option Value} {base : Heap}
theorem scFore : FnScope ["self", "parents", "number", "some", "parent", "forebear"] ["self", "parents", "number"] (defScope sFore) := ⟨rfl, rfl, rfl, by decide +kernel, rfl, by decide +kernel, by decide +kernel⟩
theorem ok_fore {f CH : Addr} {CV : Par} {fd : FuncData} (F : Fun K "forebears_of" "History.forebears_of" sFore f fd) (B0 : BltT mg) (T : HisT K CH) (TV : VerT K CV) : FnOk P w K mg base CX0 1 f fd ["self", "parents", "number"] (spFore CH CV) := by
  refine F.ok scFore (fun vs H Q E h => ?_) (fun cdv A outer s H vs Q E hr h => ?_)
  · obtain ⟨a, pp, av, ab, st, ps, d, rfl, _⟩ := h
    rfl
  · have nd := scFore.nd
    have hu := hu_of hr
    refine ⟨_, pss_cons (ps_set (i := 3) nd rfl (.inl rfl) pe_dnewK)
      (pss_cons (ps_for PassesOwn.never rfl (pi_list (pv 1)) (pg_name (i := 4) nd rfl (.inl rfl))
        (pss_one (ps_for PassesOwn.never rfl (pi_list (pe_fld (pe_ix ix_list (pe_fld (pv 0) rfl) (pv 4) (fun _ _ => rfl)) rfl)) (pg_name (i := 5) nd rfl (.inl rfl))
          (pss_one (ps_dput hu (pv 3) (pv 5) pe_bl rfl)))))
      (pss_one (ps_ret (pe_op op_cat (pe_callB (cr_sortedDI rfl) (by rfl) B0.sorted boot_sorted (pa_cons (pv 3) pa_nil)) (pe_lst (pa_cons (pv 2) pa_nil)))))), ?_⟩
    obtain ⟨a, pp, av, ab, st, ps, d, rfl, hi, hpp, hp2, hlt, k⟩ := h
    obtain ⟨dx, h1⟩ := id hi.inst
    obtain ⟨vs, h3, h4, h5⟩ := id hi.vers
    have hmany := hi.wf.many
    intro sd hsd
    have kH : ∀ {H' : Hp}, Keep sd (upd H sd (.dK [])) H' → Same H H' := fun s => s.same (same_new hsd) hsd
    have npp : ∀ {b : Addr} {o : HO}, H b = some o → b ≠ sd := fun e => ne_of_none e hsd
    refine ⟨_, rfl, pp, rfl, ⟨_, SqL.of (show upd H sd (.dK []) pp = some (.lst (nums ps)) from same_new hsd _ _ hpp)⟩, ?_⟩
    refine for_list (K := K) (a := pp) (xs := nums ps) (fun i σ H' => Keep sd (upd H sd (.dK [])) H' ∧ ∃ v4 v5 : Option V, σ = [some (.ref a), some (.ref pp), some (.int (st.book.length : Int)), some (.ref sd), v4, v5] ∧ H' sd = some (.dK (dkv (seenOf st.book (ps.take i)))))
      ⟨fun _ _ e _ => e, none, none, rfl, upd_same⟩ (fun i σ H' _ ⟨s5, _⟩ => SqL.of (kH s5 _ _ hpp)) ?_ ?_
    · rintro i x σ H' hx ⟨s5, v4, v5, rfl, hd5⟩
      obtain ⟨p, hp, rfl⟩ := nums_of hx
      have hpl : p < st.book.length := hlt p (List.mem_of_getElem? hp)
      have gv : vs[p]? = some vs[p] := List.getElem?_eq_getElem (by omega)
      obtain ⟨dy, pd, pq, pf, po, w1, w2, w3, w4, w5⟩ := h5 _ _ gv
      have w1' := wo_sub _ _ w1
      have w4' : H pf = some (.lst (nums (Hist.forebears st.book p).reverse)) := wo_sub _ _ w4
      have sH := kH s5
      have e1 : seenOf st.book (ps.take (i + 1)) = (Hist.forebears st.book p).reverse.foldl addK (seenOf st.book (ps.take i)) := by
        unfold seenOf
        rw [take_more hp, List.flatMap_append, List.foldl_append, List.flatMap_cons, List.flatMap_nil, List.append_nil]
      have l1 := flat_len st.book (ps.take i)
      have l2 : (ps.take i).length ≤ 2 := by rw [List.length_take]; omega
      have l3 : (ps.take i).length * st.book.length ≤ 2 * 128 := Nat.mul_le_mul l2 hmany
      obtain ⟨a1, a2, a3⟩ := addAll ((ps.take i).flatMap fun p => (Hist.forebears st.book p).reverse) [] List.nodup_nil
      have lfb := fb_len st.book p
      refine ⟨_, rfl, a, CH, dx, _, _, rfl, sH _ _ h1, T.cl, T.nV, lkHv, _, rfl, av, _, _, _, rfl, rfl, SqL.of (sH _ _ h3), atI_nat (refs_at gv), vs[p], CV.c, dy, _, _, rfl, sH _ _ w1', TV.cl, TV.nF, lk4c, pf, rfl, ⟨_, SqL.of (sH _ _ w4')⟩, ?_⟩
      refine for_list (K := K) (a := pf) (xs := nums (Hist.forebears st.book p).reverse) (fun j σ H2 => Keep sd (upd H sd (.dK [])) H2 ∧ ∃ v5 : Option V, σ = [some (.ref a), some (.ref pp), some (.int (st.book.length : Int)), some (.ref sd), some (.int (p : Int)), v5] ∧ H2 sd = some (.dK (dkv (((Hist.forebears st.book p).reverse.take j).foldl addK (seenOf st.book (ps.take i))))))
        ⟨s5, v5, rfl, hd5⟩ (fun j σ H2 _ ⟨s6, _⟩ => SqL.of (kH s6 _ _ w4')) ?_ ?_
      · rintro j y σ H2 hy ⟨s6, v5', rfl, hd6⟩
        obtain ⟨m, hm, rfl⟩ := nums_of hy
        have hlen : (dkv (((Hist.forebears st.book p).reverse.take j).foldl addK (seenOf st.book (ps.take i)))).length < sizeLine := by
          unfold dkv
          rw [List.length_map]
          have b3 := (addAll ((Hist.forebears st.book p).reverse.take j) (seenOf st.book (ps.take i)) a1).2.2
          have b4 : ((Hist.forebears st.book p).reverse.take j).length ≤ 128 := by rw [List.length_take, List.length_reverse]; omega
          simp only [List.length_nil] at a3
          have a3' : (seenOf st.book (ps.take i)).length ≤ 256 := by unfold seenOf; omega
          exact ltline (by omega)
        refine ⟨_, rfl, _, rfl, sd, _, rfl, DPut.k (k := Sum.inl (m : Int)) hd6 hlen, ?_⟩
        refine ⟨s6.upd, some (.int (m : Int)), rfl, ?_⟩
        rw [upd_same, dkv_put, take_more hm, List.foldl_append]
        rfl
      · rintro σ H2 ⟨s6, v5', rfl, hd6⟩
        rw [nums_len, List.take_length, ← e1] at hd6
        exact ⟨s6, _, _, rfl, hd6⟩
    · rintro σ H' ⟨s5, v4, v5, rfl, hd5⟩
      rw [nums_len, List.take_length] at hd5
      obtain ⟨a1, a2, a3⟩ := addAll (ps.flatMap fun p => (Hist.forebears st.book p).reverse) [] List.nodup_nil
      have sH := kH s5
      have ekeys : (dkv (seenOf st.book ps)).map (·.1) = ((seenOf st.book ps).map fun (n : Nat) => (n : Int)).map Sum.inl := by
        unfold dkv
        rw [List.map_map, List.map_map]
        rfl
      refine ⟨_, rfl, sd, _, _, rfl, .inl hd5, ekeys, fun ys q hperm hsort hq => ?_⟩
      obtain ⟨ns, rfl, hns, hmem⟩ := sorted_of a1 hperm hsort
      have s6 : Same H (upd H' q (.lst (List.map V.int (ns.map fun (n : Nat) => (n : Int))))) := fun b o e => same_new hq _ _ (sH b o e)
      refine ⟨_, rfl, (by show 1 ≤ sizeLine; decide), fun l hl => ?_⟩
      have hql : q ≠ l := ne_of_none (o := .lst (List.map V.int (ns.map fun (n : Nat) => (n : Int)))) upd_same hl
      have e2 : (List.map V.int (ns.map fun (n : Nat) => (n : Int))) = nums ns := by
        unfold nums
        rw [List.map_map]
        rfl
      have hfb := fb_new (h := st.book) (x := ⟨ps, d⟩) hi.wf.low hlt hns (fun k => by
        rw [hmem, a2]
        constructor
        · rintro (z | z)
          · cases z
          · obtain ⟨p, hp, hk⟩ := List.mem_flatMap.mp z
            exact ⟨p, hp, List.mem_reverse.mp hk⟩
        · rintro ⟨p, hp, hk⟩
          exact .inr (List.mem_flatMap.mpr ⟨p, hp, List.mem_reverse.mpr hk⟩))
      have hlen : ns.length ≤ 128 := by
        have q1 := fb_len (st.book ++ [⟨ps, d⟩]) st.book.length
        have q2 := congrArg List.length hfb
        rw [List.length_reverse, List.length_append, List.length_singleton] at q2
        rw [List.length_append, List.length_singleton] at q1
        omega
      refine ⟨q, l, _, _, rfl, rfl, (by rw [upd_ne hql]; exact upd_same), upd_same, ?_, fun r hr => ?_⟩
      · rw [e2, nums_len]
        exact line1000 (by show ns.length + 1 ≤ _; omega)
      · have s7 : Same H (upd (upd (upd H' q (.lst (List.map V.int (ns.map fun (n : Nat) => (n : Int))))) l (.lst [V.int (st.book.length : Int)])) r (.lst (List.map V.int (ns.map fun (n : Nat) => (n : Int)) ++ [V.int (st.book.length : Int)]))) := fun b o e => same_new hr _ _ (same_new hl _ _ (s6 b o e))
        refine k _ r s7 ?_ ?_
        · exact s6.free (Same.free (same_new hl) hr)
        · rw [upd_same, e2, hfb, nums_app]
          rfl
end
end Wb
namespace Wb
open PySem PySem.Spec PyProof.Rows L2

theorem getD_some {l : List Nat} {j : Nat} (h : j < l.length) : l[j]? = some (l.getD j 0) := by
  rw [List.getD_eq_getElem?_getD, List.getElem?_eq_getElem h]
  rfl
def spOrig (CH : Addr) (CV : Par) : Sp := fun vs H Q _ => ∃ (a pd pp av ab : Addr) (s : Hist.State) (d : Doc) (ps : List Nat) (n : Nat), vs = [.ref a, .ref pd, .ref pp, .int (n : Int)] ∧ HistAt CH CV H a av ab s ∧ DcAt H pd d ∧ d.length ≤ 64 ∧ LnAt H pp ps ∧ (∀ p ∈ ps, p < s.book.length) ∧
  ∀ (H' : Hp) q, Same H H' → H q = none → H' q = some (.lst (nums (origP s.book d ps n))) → Q (.ref q) H'
section
variable {P : Program} {w : World} {K : PySem.W.Frag} {mg : Str → Option Value} {base : Heap}
theorem scOrig : FnScope ["self", "document", "parents", "number", "found", "parent", "place", "kept"] ["self", "document", "parents", "number"] (defScope sOrig) := ⟨rfl, rfl, rfl, by decide +kernel, rfl, by decide +kernel, by decide +kernel⟩
theorem ok_orig {f CH : Addr} {CV : Par} {fd : FuncData} (F : Fun K "origins_of" "History.origins_of" sOrig f fd) (B0 : BltT mg) (T : HisT K CH) (TV : VerT K CV) (GD : HasM P w K mg base CX0 1 CH "document_of" ["self", "number"] (spDocOf CH CV)) (GK : Has P w K mg base CX0 3 "kept_as" ["a", "b"] spKept) :
    FnOk P w K mg base CX0 4 f fd ["self", "document", "parents", "number"] (spOrig CH CV) := by
  obtain ⟨fD, fdD, GD, MD, bD⟩ := GD
  obtain ⟨fK, fdK, GK, mK, kK, bK⟩ := GK
  refine F.ok scOrig (fun vs H Q E h => ?_) (fun cdv A outer s H vs Q E hr h => ?_)
  · obtain ⟨a, pd, pp, av, ab, st, d, ps, n, rfl, _⟩ := h
    rfl
  · have nd := scOrig.nd
    have hr1 : Room 1 _ := hr.mono (by decide)
    refine ⟨_, pss_cons (ps_set (i := 4) nd rfl (.inl rfl) (pe_op op_rep (pe_lst (pa_cons (pv 3) pa_nil)) (pe_callB call_len_seq (by rfl) B0.len boot_len (pa_cons (pv 1) pa_nil))))
      (pss_cons (ps_for PassesOwn.never rfl (pi_reversed (by rfl) B0.reversed (pa_cons (pv 2) pa_nil)) (pg_name (i := 5) nd rfl (.inl rfl))
        (pss_one (ps_for PassesOwn.never rfl (pi_enum (by rfl) B0.enumerate (pa_cons (pe_call GK hr (by rfl) mK kK bK .nil pass0 (pa_cons (pe_meth (pv 0) T.cl MD GD hr1 bD .nil pass0 (pa_cons (pv 5) pa_nil)) (pa_cons (pv 1) pa_nil))) pa_nil))
          (pg_tup rfl (pgs_cons (pg_name (i := 6) nd rfl (.inl rfl)) (pgs_cons (pg_name (i := 7) nd rfl (.inl rfl)) pgs_nil)))
          (pss_one (ps_if (pt_cmpR op_ge (pv 7) pe_int (nomark _))
            (pss_one (ps_asg (pe_ix ix_list (pe_fld (pe_ix ix_list (pe_fld (pv 0) rfl) (pv 5) (fun _ _ => rfl)) rfl) (pv 6) (fun _ _ => rfl)) (pg_sub (pv 4) (pv 7) set_list))) pss_nil)))))
      (pss_one (ps_ret (pv 4)))), ?_⟩
    obtain ⟨a, pd, pp, av, ab, st, d, ps, n, rfl, hi, hd, hd64, hpp, hlt, k⟩ := h
    obtain ⟨dx, h1⟩ := id hi.inst
    obtain ⟨vs, h3, h4, h5⟩ := id hi.vers
    obtain ⟨ds, hds, lds⟩ := id hd
    have eds : ds.length = d.length := lds.length
    refine ⟨_, rfl, (by show 1 ≤ sizeLine; decide), fun l hl => ?_⟩
    have s1 : Same H (upd H l (.lst [V.int (n : Int)])) := same_new hl
    refine ⟨_, rfl, pd, _, rfl, .inl (SqL.of (s1 _ _ hds)), l, _, _, rfl, rfl, upd_same, (by omega), (by rw [refs_len]; omega), ?_, fun fnd hf => ?_⟩
    · rw [refs_len]
      exact line1000 (by show 1 * _ ≤ _; omega)
    have hfH : H fnd = none := s1.free hf
    have e0 : ∀ m : Nat, (List.replicate m [V.int (n : Int)]).flatten = nums (List.replicate m n) := by
      intro m
      induction m with
      | zero => rfl
      | succ m ih =>
        rw [List.replicate_succ, List.flatten_cons, ih, List.replicate_succ]
        rfl
    have e1 : (List.replicate (((refs ds).length : Nat) : Int).toNat [V.int (n : Int)]).flatten = nums (List.replicate d.length n) := by
      rw [refs_len, eds, Int.toNat_natCast, e0]
    show tSeq _ _ _ _ (upd _ fnd (.lst (List.replicate (((refs ds).length : Nat) : Int).toNat [V.int (n : Int)]).flatten))
    rw [e1]
    have s2 : Same H (upd (upd H l (.lst [V.int (n : Int)])) fnd (.lst (nums (List.replicate d.length n)))) := fun b o e => same_new hf _ _ (s1 b o e)
    have hppf : pp ≠ fnd := ne_of_none hpp hfH
    refine ⟨_, rfl, pp, _, rfl, SqL.of (s2 _ _ hpp), ?_⟩
    rw [show (nums ps).length = (nums ps).length from rfl]
    refine RT.for_Itv (K := K) (a := pp) (xs := nums ps) (fun i σ H' => Keep fnd H H' ∧ ∃ v5 v6 v7 : Option V, σ = [some (.ref a), some (.ref pd), some (.ref pp), some (.int (n : Int)), some (.ref fnd), v5, v6, v7] ∧ H' fnd = some (.lst (nums ((ps.reverse.take i).foldl (origStep st.book d) (List.replicate d.length n)))))
      ⟨fun b o e _ => s2 b o e, none, none, none, rfl, upd_same⟩ (fun i σ H' ⟨s5, _⟩ => SqL.of (s5 _ _ hpp hppf)) ?_ ?_
    · rintro i x σ H' hi' hx ⟨s5, v5, v6, v7, rfl, hfd⟩
      obtain ⟨p, hp, rfl⟩ := nums_of hx
      rw [nums_len] at hi' hp
      have hpl : p < st.book.length := hlt p (List.mem_of_getElem? hp)
      have hp' : ps.reverse[i]? = some p := by rw [List.getElem?_reverse hi', hp]
      have e2 : (ps.reverse.take (i + 1)).foldl (origStep st.book d) (List.replicate d.length n) = origStep st.book d ((ps.reverse.take i).foldl (origStep st.book d) (List.replicate d.length n)) p := by
        rw [take_more hp', List.foldl_append]
        rfl
      have elen : ((ps.reverse.take i).foldl (origStep st.book d) (List.replicate d.length n)).length = d.length := by rw [orig_foldl_len, List.length_replicate]
      generalize (ps.reverse.take i).foldl (origStep st.book d) (List.replicate d.length n) = Fd at *
      have kH : ∀ {H4 : Hp}, Keep fnd H H4 → Same H H4 := fun s b o e => s b o e (ne_of_none e hfH)
      have gv : vs[p]? = some vs[p] := List.getElem?_eq_getElem (by omega)
      obtain ⟨dy, pd2, pq, pf, po, w1, w2, w3, w4, w5⟩ := h5 _ _ gv
      have w1' := wo_sub _ _ w1
      have w5' : H po = some (.lst (nums ((Hist.origins st.book).getD p []))) := wo_sub _ _ w5
      have fitp := hi.wf.fits hpl
      have olen := origins_at_len st.book hi.wf.low hpl
      refine ⟨_, rfl, a, dx, _, rfl, kH s5 _ _ h1, lkHno (by decide +kernel) (by decide +kernel), _, rfl, ?_⟩
      refine ⟨a, av, ab, st, p, rfl, hi.mono (kH s5), hpl, fun pz hpz => ?_⟩
      refine ⟨_, rfl, pz, pd, Hist.docOf st.book p, d, rfl, hpz.mono wo_sub, hd.mono (kH s5), fits_len fitp, hd64, fun H2 q s6 hq hq2 => ?_⟩
      have hqf : q ≠ fnd := new_ne hq hfd
      have pl := places_len (Hist.docOf st.book p) d
      refine ⟨q, _, rfl, SqL.of hq2, ?_⟩
      refine for_it (walk_enum (K := K) (a := q) (xs := zs ((Hist.places (Hist.docOf st.book p) d).map encP))) (fun j σ H4 => Keep fnd H2 H4 ∧ ∃ v6 v7 : Option V, σ = [some (.ref a), some (.ref pd), some (.ref pp), some (.int (n : Int)), some (.ref fnd), some (.int (p : Int)), v6, v7] ∧ H4 fnd = some (.lst (nums (putO ((Hist.places (Hist.docOf st.book p) d).take j) ((Hist.origins st.book).getD p []) 0 Fd))))
        ⟨fun _ _ e _ => e, v6, v7, rfl, s6 _ _ hfd⟩ (fun j σ H4 _ ⟨s7, _⟩ => SqL.of (s7 _ _ hq2 hqf)) ?_ ?_
      · rintro j y σ H4 H5 hj ⟨s7, v6', v7', rfl, hfd4⟩ ⟨Tp, y1, y2, rfl, hT, rfl, ey1, ey2⟩
        rw [zs_len, List.length_map] at hj
        cases ey1
        obtain ⟨z, hz, rfl⟩ := zs_of ey2
        rw [List.getElem?_map] at hz
        obtain ⟨x, hx0, rfl⟩ : ∃ x, (Hist.places (Hist.docOf st.book p) d)[j]? = some x ∧ encP x = z := by
          cases e : (Hist.places (Hist.docOf st.book p) d)[j]? with
          | none => rw [e] at hz; cases hz
          | some x => rw [e] at hz; exact ⟨x, rfl, Option.some.inj hz⟩
        have s8 : Keep fnd H2 (upd H4 Tp (.tup [V.int (j : Nat), V.int (encP x)])) := s7.trans (same_new hT)
        have kH8 : Same H (upd H4 Tp (.tup [V.int (j : Nat), V.int (encP x)])) := fun b o e => s8 _ _ (s6 _ _ (kH s5 _ _ e)) (ne_of_none e hfH)
        have hfd8 : upd H4 Tp (.tup [V.int (j : Nat), V.int (encP x)]) fnd = some (.lst (nums (putO ((Hist.places (Hist.docOf st.book p) d).take j) ((Hist.origins st.book).getD p []) 0 Fd))) := same_new hT _ _ hfd4
        have e3 : putO ((Hist.places (Hist.docOf st.book p) d).take (j + 1)) ((Hist.origins st.book).getD p []) 0 Fd = putO [x] ((Hist.origins st.book).getD p []) j (putO ((Hist.places (Hist.docOf st.book p) d).take j) ((Hist.origins st.book).getD p []) 0 Fd) := by
          rw [take_more hx0, putO_app, List.length_take, Nat.min_eq_left (by omega), Nat.zero_add]
        refine ⟨Tp, _, rfl, SqT.of upd_same, rfl, _, _, rfl, _, _, rfl, rfl, ?_⟩
        refine ⟨_, rfl, _, _, rfl, rfl, _, rfl, iteB (fun hb => ?_) (fun hb => ?_)⟩
        · obtain ⟨m, rfl⟩ := enc_nonneg (of_decide_eq_true hb)
          have hm : m < d.length := places_lt _ _ hx0
          have hjo : j < ((Hist.origins st.book).getD p []).length := by rw [olen]; omega
          have go := getD_some hjo
          refine ⟨_, rfl, a, CH, dx, _, _, rfl, kH8 _ _ h1, T.cl, T.nV, lkHv, _, rfl, av, _, _, _, rfl, rfl, SqL.of (kH8 _ _ h3), atI_nat (refs_at gv), vs[p], CV.c, dy, _, _, rfl, kH8 _ _ w1', TV.cl, TV.nO, lk4d, _, rfl, po, _, _, _, rfl, rfl, SqL.of (kH8 _ _ w5'), atI_nat (nums_at go), ?_⟩
          refine ⟨_, rfl, _, rfl, fnd, _, _, m, rfl, rfl, hfd8, ?_, ?_⟩
          · unfold ixN
            rw [nums_len, putO_len, elen, show encP (some m) = (m : Int) from rfl, if_pos (by omega), if_pos (by omega)]
            rfl
          · refine ⟨s8.upd, _, _, rfl, ?_⟩
            rw [upd_same, e3]
            show some (HO.lst _) = some (HO.lst (nums ((putO ((Hist.places (Hist.docOf st.book p) d).take j) ((Hist.origins st.book).getD p []) 0 Fd).set m (((Hist.origins st.book).getD p []).getD j 0))))
            unfold nums
            rw [List.map_set]
        · have hx' : x = none := by
            cases x with
            | none => rfl
            | some m => exact absurd (of_decide_eq_false hb) (fun z => z (by show (0 : Int) ≤ (m : Int); omega))
          subst hx'
          refine ⟨s8, _, _, rfl, ?_⟩
          rw [e3]
          exact hfd8
      · rintro σ H4 ⟨s7, v6', v7', rfl, hfd4⟩
        rw [zs_len, List.length_map, List.take_length] at hfd4
        refine ⟨fun b o e nn => s7 _ _ (s6 _ _ (s5 _ _ e nn)) nn, _, _, _, rfl, ?_⟩
        rw [hfd4, e2]
        rfl
    · rintro σ H' ⟨s5, v5, v6, v7, rfl, hfd⟩
      rw [nums_len, ← List.length_reverse (as := ps), List.take_length] at hfd
      exact ⟨_, rfl, k H' fnd (fun b o e => s5 b o e (ne_of_none e hfH)) hfH hfd⟩

def spMake (CH : Addr) (CV : Par) : Sp := fun vs H Q _ => ∃ (a pd pp av ab : Addr) (s : Hist.State) (d : Doc) (ps : List Nat), vs = [.ref a, .ref pd, .ref pp] ∧ HistAt CH CV H a av ab s ∧ s.book.length < 128 ∧ DcAt (wo CV.x av ab H) pd d ∧ Hist.fits d = true ∧ LnAt (wo CV.x av ab H) pp ps ∧ ps.length ≤ 2 ∧ (∀ p ∈ ps, p < s.book.length) ∧
  ∀ (H' : Hp), Same (wo CV.x av ab H) (wo CV.x av ab H') → HistAt CH CV H' a av ab ⟨s.book ++ [⟨ps, d⟩], s.heads⟩ → Q (.int (s.book.length : Int)) H'
theorem scMake : FnScope ["self", "document", "parents", "number", "forebears", "origins"] ["self", "document", "parents"] (defScope sMake) := ⟨rfl, rfl, rfl, by decide +kernel, rfl, by decide +kernel, by decide +kernel⟩
theorem wf_more {s : Hist.State} (W : WF s) {ps : List Nat} {d : Doc} (hl : s.book.length < 128) (hd : Hist.fits d = true) (hp2 : ps.length ≤ 2) (hlt : ∀ p ∈ ps, p < s.book.length) : WF ⟨s.book ++ [⟨ps, d⟩], s.heads⟩ where
  low := low_more W.low hlt
  docs := fun x hx => by
    rcases List.mem_append.mp hx with h | h
    · exact W.docs x h
    · rw [List.mem_singleton.mp h]
      exact hd
  many := by
    show (s.book ++ [_]).length ≤ 128
    rw [List.length_append, List.length_singleton]
    omega
  two := fun x hx => by
    rcases List.mem_append.mp hx with h | h
    · exact W.two x h
    · rw [List.mem_singleton.mp h]
      exact hp2
  heads := W.heads
  at_ := fun k v h => by
    show v < (s.book ++ [_]).length
    rw [List.length_append, List.length_singleton]
    exact Nat.lt_succ_of_lt (W.at_ k v h)
theorem ok_make {f CH : Addr} {CV : Par} {fd : FuncData} (F : Fun K "make" "History.make" sMake f fd) (B0 : BltT mg) (T : HisT K CH) (TV : VerT K CV) (GF : HasM P w K mg base CX0 1 CH "forebears_of" ["self", "parents", "number"] (spFore CH CV)) (GO : HasM P w K mg base CX0 4 CH "origins_of" ["self", "document", "parents", "number"] (spOrig CH CV))
    (GV : HasC P w K mg base CX0 1 CV.c "Version" ["self", "document", "parents", "forebears", "origins"] (spNew CV.c ["document", "parents", "forebears", "origins"])) : FnOk P w K mg base CX0 5 f fd ["self", "document", "parents"] (spMake CH CV) := by
  obtain ⟨fF, fdF, GF, MF, bF⟩ := GF
  obtain ⟨fO, fdO, GO, MO, bO⟩ := GO
  obtain ⟨fV, fdV, GV, MV, mV, bV⟩ := GV
  refine F.ok scMake (fun vs H Q E h => ?_) (fun cdv A outer s H vs Q E hr h => ?_)
  · obtain ⟨a, pd, pp, av, ab, st, d, ps, rfl, _⟩ := h
    rfl
  · have nd := scMake.nd
    have hr1 : Room 1 _ := hr.mono (by decide)
    have hr2 : Room 2 _ := hr.mono (by decide)
    refine ⟨_, pss_cons (ps_set (i := 3) nd rfl (.inl rfl) (pe_callB call_len_seq (by rfl) B0.len boot_len (pa_cons (pe_fld (pv 0) rfl) pa_nil)))
      (pss_cons (ps_set (i := 4) nd rfl (.inl rfl) (pe_meth (pv 0) T.cl MF GF hr1 bF .nil pass0 (pa_cons (pv 2) (pa_cons (pv 3) pa_nil))))
      (pss_cons (ps_set (i := 5) nd rfl (.inl rfl) (pe_meth (pv 0) T.cl MO GO hr bO .nil pass0 (pa_cons (pv 1) (pa_cons (pv 2) (pa_cons (pv 3) pa_nil)))))
      (pss_cons (ps_expr (pe_bm PySem.F.plainAttrs_list PySem.F.slot_list_append PySem.F.type_list_append mt_append (pe_fld (pv 0) rfl) (pa_cons (pe_make MV GV hr2 (by rfl) mV bV .nil pass0 (pa_cons (pv 1) (pa_cons (pv 2) (pa_cons (pv 4) (pa_cons (pv 5) pa_nil))))) pa_nil)))
      (pss_one (ps_ret (pv 3)))))), ?_⟩
    obtain ⟨a, pd, pp, av, ab, st, d, ps, rfl, hi, h128, hd, hfit, hpp, hp2, hlt, k⟩ := h
    obtain ⟨dx, h1⟩ := id hi.inst
    obtain ⟨vs, h3, h4, h5⟩ := id hi.vers
    refine ⟨_, rfl, a, CH, dx, _, _, rfl, h1, T.cl, T.nV, lkHv, av, _, rfl, .inl (SqL.of h3), ?_⟩
    rw [refs_len, h4]
    refine ⟨_, rfl, a, dx, _, rfl, h1, lkHno (by decide +kernel) (by decide +kernel), _, rfl, _, rfl, ?_⟩
    refine ⟨a, pp, av, ab, st, ps, d, rfl, hi, hpp.mono wo_sub, hp2, hlt, fun H1 qf s1 hqf hqf1 => ?_⟩
    refine ⟨_, rfl, a, dx, _, rfl, s1 _ _ h1, lkHno (by decide +kernel) (by decide +kernel), _, rfl, _, rfl, _, rfl, ?_⟩
    refine ⟨a, pd, pp, av, ab, st, d, ps, st.book.length, rfl, hi.mono s1, (hd.mono wo_sub).mono s1, fits_len hfit, (hpp.mono wo_sub).mono s1, hlt, fun H2 qo s2 hqo hqo2 => ?_⟩
    have s12 := s1.trans s2
    have hqf2 := s2 _ _ hqf1
    refine ⟨_, rfl, a, CH, dx, _, _, rfl, s12 _ _ h1, T.cl, T.nV, lkHv, .inl ⟨rfl, _, SqL.of (s12 _ _ h3)⟩, _, rfl, _, rfl, _, rfl, _, rfl, ?_⟩
    intro x dz hx hdz nx
    refine ⟨x, dz, [.ref pd, .ref pp, .ref qf, .ref qo], rfl, rfl, upd_same, fun H3 hx3 k3 => ⟨rfl, ?_⟩⟩
    have s3 : Same H2 H3 := Same.made hx hdz k3
    have s13 := s12.trans s3
    have hxH : H x = none := s12.free hx
    have hqoH : H qo = none := s1.free hqo
    have h3' := s13 _ _ h3
    have h6' := s13 _ _ hi.brs
    refine ⟨av, _, _, rfl, rfl, h3', by rw [refs_len, h4]; exact ltline (by omega), ?_⟩
    have ewo : wo CV.x av ab (upd H3 av (.lst (refs vs ++ [V.ref x]))) = wo CV.x av ab H3 := wo_upd (.inr (.inl rfl))
    refine ⟨_, rfl, k _ (by rw [ewo]; exact wo_mono s13) ?_⟩
    have nax : a ≠ av := ne_of h1 h3 (by intro z; cases z)
    refine ⟨⟨dx, by rw [upd_ne nax]; exact s13 _ _ h1⟩, hi.ne, by rw [upd_ne hi.nx.1]; exact s13 _ _ hi.ext, hi.nx, ⟨vs ++ [x], by rw [upd_same, refs_app]; rfl, by rw [List.length_append, List.length_append, h4]; rfl, fun i v hv => ?_⟩, by rw [upd_ne (Ne.symm hi.ne)]; exact h6', wf_more hi.wf h128 hfit hp2 hlt⟩
    rw [ewo]
    have swo : Same (wo CV.x av ab H) (wo CV.x av ab H3) := wo_mono s13
    by_cases c : i < vs.length
    · rw [List.getElem?_append_left c] at hv
      have hil : i < st.book.length := by omega
      obtain ⟨dy, q1, q2, q3, q4, z1, z2, z3, z4, z5⟩ := (h5 i v hv).mono swo
      refine ⟨dy, q1, q2, q3, q4, z1, ?_, ?_, ?_, ?_⟩
      · show DcAt _ _ (Hist.docOf (st.book ++ [_]) i)
        rw [doc_old hil]
        exact z2
      · show LnAt _ _ (Hist.parentsOf (st.book ++ [_]) i)
        rw [par_old hil]
        exact z3
      · show LnAt _ _ (Hist.forebears (st.book ++ [_]) i).reverse
        rw [fb_old hil]
        exact z4
      · show LnAt _ _ ((Hist.origins (st.book ++ [_])).getD i [])
        rw [origins_old hi.wf.low hil]
        exact z5
    · rw [List.getElem?_append_right (by omega)] at hv
      have e0 : i - vs.length = 0 := by
        have := (List.getElem?_eq_some_iff.mp hv).1
        simp only [List.length_singleton] at this
        omega
      rw [e0] at hv
      have e1 : x = v := Option.some.inj hv
      subst e1
      have ei : i = st.book.length := by omega
      subst ei
      refine ⟨dz, pd, pp, qf, qo, wo_at hx3 (new_ne hxH h3) (new_ne hxH hi.brs) (new_ne hxH hi.ext), ?_, ?_, ?_, ?_⟩
      · show DcAt _ _ (Hist.docOf (st.book ++ [_]) st.book.length)
        rw [doc_new]
        exact hd.mono swo
      · show LnAt _ _ (Hist.parentsOf (st.book ++ [_]) st.book.length)
        rw [par_new]
        exact hpp.mono swo
      · exact wo_at (s3 _ _ hqf2) (new_ne hqf h3) (new_ne hqf hi.brs) (new_ne hqf hi.ext)
      · show LnAt _ _ ((Hist.origins (st.book ++ [_])).getD st.book.length [])
        rw [origins_new hi.wf.low, orig_eq (x := ⟨ps, d⟩) hi.wf.low hlt]
        exact wo_at (s3 _ _ hqo2) (new_ne hqoH h3) (new_ne hqoH hi.brs) (new_ne hqoH hi.ext)
end
end Wb
namespace Wb
open PySem PySem.Spec PyProof.Rows L2

structure CodeT (mg : Str → Option Value) : Prop where
  notSo : ∃ t, mg "NOT_SO" = some (.int (-1) t)
  clashes : ∃ t, mg "CLASHES" = some (.int (-3) t)
  noneSuch : ∃ t, mg "NONE_SUCH" = some (.int (-4) t)
  full : ∃ t, mg "FULL" = some (.int (-6) t)
def spRefuse (CR : Addr) : Sp := fun vs H Q E => ∃ (t : Bool) (c : Int), vs = [.bl t, .int c] ∧ (t = true → RefW CR H E [c]) ∧ (t = false → Q .non H)
def spListed : Sp := fun vs H Q _ => ∃ (p : Addr) (xs : List V), vs = [.ref p] ∧ H p = some (.lst xs) ∧ xs.length ≤ 90000 ∧ ∀ (H' : Hp) q, Same H H' → H q = none → H' q = some (.lst (V.int xs.length :: xs)) → Q (.ref q) H'
def toldL (d : Doc) : List Int := d.flatMap fun l => (l.length : Int) :: l.map fun (n : Nat) => (n : Int)
def spLinesTold : Sp := fun vs H Q _ => ∃ (p : Addr) (d : Doc), vs = [.ref p] ∧ DcAt H p d ∧ d.length ≤ 64 ∧ (∀ l ∈ d, l.length ≤ 64) ∧ ∀ (H' : Hp) q, Same H H' → H q = none → H' q = some (.lst (zs (toldL d))) → Q (.ref q) H'
def spCounted : Sp := fun vs H Q _ => ∃ (p : Addr) (xs : List V), vs = [.ref p] ∧ H p = some (.lst xs) ∧ xs.length ≤ 80000 ∧ ∀ (H' : Hp) q, Same H H' → H q = none → H' q = some (.lst (V.int xs.length :: V.int xs.length :: xs)) → Q (.ref q) H'
def spAskB (CR : Addr) : Sp := fun vs H Q E => ∃ (b : Nat), vs = [.int (b : Int)] ∧ (b < 8 → Q .non H) ∧ (¬ b < 8 → RefW CR H E [-1])
def spAskV (CH : Addr) (CV : Par) (CR : Addr) : Sp := fun vs H Q E => ∃ (a av ab : Addr) (s : Hist.State) (n : Nat), vs = [.ref a, .int (n : Int)] ∧ HistAt CH CV H a av ab s ∧ (n < s.book.length → Q .non H) ∧ (¬ n < s.book.length → RefW CR H E [-4])
def spHeadOf (CH : Addr) (CV : Par) (CR : Addr) : Sp := fun vs H Q E => ∃ (a av ab : Addr) (s : Hist.State) (b : Nat), vs = [.ref a, .int (b : Int)] ∧ HistAt CH CV H a av ab s ∧ b < 8 ∧ (∀ v, s.head b = some v → Q (.int (v : Int)) H) ∧ (s.head b = none → RefW CR H E [-4])
abbrev sRefuse : Stmt := top 43
abbrev sListed : Stmt := top 44
abbrev sLinesTold : Stmt := top 45
abbrev sAskB : Stmt := top 46
abbrev sAskV : Stmt := top 47
abbrev sHeadOf : Stmt := top 48
abbrev sCounted : Stmt := top 54
theorem head_at {s : Hist.State} (W : WF s) {b : Nat} (hb : b < 8) : s.heads[b]? = some (s.head b) := by
  unfold Hist.State.head
  rw [List.getD_eq_getElem?_getD, List.getElem?_eq_getElem (by rw [W.heads]; exact hb)]
  rfl
theorem headV_none (o : Option Nat) : decide (headV o = V.int (-1)) = o.isNone := by
  cases o with
  | none => rfl
  | some v =>
    refine decide_eq_false fun z => ?_
    have e : (v : Int) = -1 := V.int.inj z
    omega
section
variable {P : Program} {w : World} {K : PySem.W.Frag} {mg : Str → Option Value} {base : Heap} {CH : Addr} {CV : Par} {CR fI : Addr}
theorem scRefuse : FnScope ["truth", "code"] ["truth", "code"] (defScope sRefuse) := ⟨rfl, rfl, rfl, by decide +kernel, rfl, by decide +kernel, by decide +kernel⟩
theorem ok_refuse {f : Addr} {fd : FuncData} (F : Fun K "refuse_where" "refuse_where" sRefuse f fd) (TR : PySem.RefX.RefTxt K mg CR fI) : FnOk P w K mg base (L2.CX P w) 1 f fd ["truth", "code"] (spRefuse CR) := by
  refine F.okX scRefuse (fun vs H Q E h => ?_) (fun cdv A outer s H vs Q E hr h => ?_)
  · obtain ⟨t, c, rfl, _⟩ := h
    rfl
  · refine ⟨_, pss_one (ps_if (pt_val (pv 0)) (pss_one (ps_raiseRef rfl TR hr (takes_of rfl rfl rfl rfl) (by exact (pa_cons (pe_lst (pa_cons (pv 1) pa_nil)) pa_nil)))) pss_nil), ?_⟩
    obtain ⟨t, c, rfl, kT, kF⟩ := h
    refine ⟨_, rfl, t, rfl, iteB (fun e => ?_) (fun e => kF e)⟩
    refine ⟨_, rfl, (by show 1 ≤ sizeLine; decide), fun p hp => ⟨_, rfl, fun d hd => ?_⟩⟩
    refine kT e _ d p (fun b o z => same_new hd _ _ (same_new hp _ _ z)) upd_same hp ?_
    rw [upd_ne (ne_of_none (o := .lst [V.int c]) upd_same hd), upd_same]
    rfl
theorem scListed : FnScope ["numbers"] ["numbers"] (defScope sListed) := ⟨rfl, rfl, rfl, by decide +kernel, rfl, by decide +kernel, by decide +kernel⟩
theorem ok_listed {f : Addr} {fd : FuncData} (F : Fun K "listed" "listed" sListed f fd) (B0 : BltT mg) : FnOk P w K mg base CX0 1 f fd ["numbers"] spListed := by
  refine F.ok scListed (fun vs H Q E h => ?_) (fun cdv A outer s H vs Q E hr h => ?_)
  · obtain ⟨p, xs, rfl, _⟩ := h
    rfl
  · refine ⟨_, pss_one (ps_ret (pe_op op_cat (pe_lst (pa_cons (pe_callB call_len_seq (by rfl) B0.len boot_len (pa_cons (pv 0) pa_nil)) pa_nil)) (pv 0))), ?_⟩
    obtain ⟨p, xs, rfl, hp, hl, k⟩ := h
    refine ⟨_, rfl, p, _, rfl, .inl (SqL.of hp), (by show 1 ≤ sizeLine; decide), fun l hl0 => ?_⟩
    have s1 : Same H (upd H l (.lst [V.int xs.length])) := same_new hl0
    refine ⟨_, rfl, l, p, _, _, rfl, rfl, upd_same, s1 _ _ hp, line1000 (by show 1 + xs.length ≤ _; omega), fun q hq => ?_⟩
    exact k _ q (fun b o z => same_new hq _ _ (s1 b o z)) (s1.free hq) (by rw [upd_same]; rfl)
theorem scCounted : FnScope ["numbers"] ["numbers"] (defScope sCounted) := ⟨rfl, rfl, rfl, by decide +kernel, rfl, by decide +kernel, by decide +kernel⟩
theorem ok_counted {f : Addr} {fd : FuncData} (F : Fun K "counted" "counted" sCounted f fd) (B0 : BltT mg) (GL : Has P w K mg base CX0 1 "listed" ["numbers"] spListed) : FnOk P w K mg base CX0 2 f fd ["numbers"] spCounted := by
  obtain ⟨fL, fdL, GL, mL, kL, bL⟩ := GL
  refine F.ok scCounted (fun vs H Q E h => ?_) (fun cdv A outer s H vs Q E hr h => ?_)
  · obtain ⟨p, xs, rfl, _⟩ := h
    rfl
  · refine ⟨_, pss_one (ps_ret (pe_op op_cat (pe_lst (pa_cons (pe_callB call_len_seq (by rfl) B0.len boot_len (pa_cons (pv 0) pa_nil)) pa_nil)) (pe_call GL hr (by rfl) mL kL bL .nil pass0 (pa_cons (pv 0) pa_nil)))), ?_⟩
    obtain ⟨p, xs, rfl, hp, hl, k⟩ := h
    refine ⟨_, rfl, p, _, rfl, .inl (SqL.of hp), (by show 1 ≤ sizeLine; decide), fun l hl0 => ?_⟩
    have s1 : Same H (upd H l (.lst [V.int xs.length])) := same_new hl0
    refine ⟨_, rfl, p, xs, rfl, s1 _ _ hp, by omega, fun H1 r s2 hr0 hr1 => ?_⟩
    refine ⟨l, r, _, _, rfl, rfl, s2 _ _ upd_same, hr1, line1000 (by show 1 + (xs.length + 1) ≤ _; omega), fun q hq => ?_⟩
    exact k _ q (fun b o z => same_new hq _ _ (s2 _ _ (s1 b o z))) (s1.free (s2.free hq)) (by rw [upd_same]; rfl)
theorem toldL_len : ∀ (d : Doc), (∀ l ∈ d, l.length ≤ 64) → (toldL d).length ≤ 65 * d.length
  | [], _ => Nat.le_refl _
  | l :: d, h => by
    have ih := toldL_len d fun x hx => h x (List.mem_cons_of_mem _ hx)
    have := h l List.mem_cons_self
    unfold toldL at ih ⊢
    rw [List.flatMap_cons, List.length_append, List.length_cons, List.length_map, List.length_cons]
    omega
theorem scLT : FnScope ["lines", "found", "line"] ["lines"] (defScope sLinesTold) := ⟨rfl, rfl, rfl, by decide +kernel, rfl, by decide +kernel, by decide +kernel⟩
theorem ok_linesTold {f : Addr} {fd : FuncData} (F : Fun K "lines_told" "lines_told" sLinesTold f fd) (GL : Has P w K mg base CX0 1 "listed" ["numbers"] spListed) : FnOk P w K mg base CX0 2 f fd ["lines"] spLinesTold := by
  obtain ⟨fL, fdL, GL, mL, kL, bL⟩ := GL
  refine F.ok scLT (fun vs H Q E h => ?_) (fun cdv A outer s H vs Q E hr h => ?_)
  · obtain ⟨p, d, rfl, _⟩ := h
    rfl
  · have nd := scLT.nd
    refine ⟨_, pss_cons (ps_set (i := 1) nd rfl (.inl rfl) (pe_lst pa_nil))
      (pss_cons (ps_for PassesOwn.never rfl (pi_list (pv 0)) (pg_name (i := 2) nd rfl (.inl rfl))
        (pss_one (ps_expr (pe_bm PySem.F.plainAttrs_list PySem.F.slot_list_extend PySem.F.type_list_extend mt_extend (pv 1) (pa_cons (pe_call GL hr (by rfl) mL kL bL .nil pass0 (pa_cons (pv 2) pa_nil)) pa_nil)))))
      (pss_one (ps_ret (pv 1)))), ?_⟩
    obtain ⟨p, d, rfl, ⟨as, hp, ls⟩, h64, hl64, k⟩ := h
    have el : as.length = d.length := ls.length
    refine ⟨Nat.zero_le _, fun fnd hf => ?_⟩
    have s0 : Same H (upd H fnd (.lst [])) := same_new hf
    have hpf : p ≠ fnd := ne_of_none hp hf
    refine ⟨_, rfl, p, rfl, ⟨_, SqL.of (s0 _ _ hp)⟩, for_list (K := K) (a := p) (xs := refs as) (fun i σ H' => Keep fnd H H' ∧ ∃ v2 : Option V, σ = [some (.ref p), some (.ref fnd), v2] ∧ H' fnd = some (.lst (zs (toldL (d.take i)))))
      ⟨fun b o e _ => s0 b o e, none, rfl, upd_same⟩ (fun i σ H' _ ⟨s5, _⟩ => SqL.of (s5 _ _ hp hpf)) ?_ ?_⟩
    · rintro i x σ H' hx ⟨s5, v2, rfl, hfd⟩
      obtain ⟨a, ha, rfl⟩ := refs_of hx
      obtain ⟨l, hl, la⟩ := pair_getL ls ha
      have kH : ∀ {H4 : Hp}, Keep fnd H H4 → Same H H4 := fun s b o e => s b o e (ne_of_none e hf)
      have hll := hl64 l (List.mem_of_getElem? hl)
      have hil : i < as.length := (List.getElem?_eq_some_iff.mp ha).1
      refine ⟨_, rfl, .inl ⟨rfl, _, SqL.of hfd⟩, _, rfl, a, nums l, rfl, kH s5 _ _ la, by rw [nums_len]; omega, fun H1 r s6 hr0 hr1 => ?_⟩
      have hfd1 := s6 _ _ hfd
      have tl := toldL_len (d.take i) fun x hx => hl64 x (List.mem_of_mem_take hx)
      rw [List.length_take] at tl
      refine ⟨fnd, r, _, _, rfl, rfl, hfd1, hr1, ?_, ?_⟩
      · rw [zs_len, List.length_cons, nums_len]
        exact line1000 (by omega)
      · refine ⟨(s5.trans s6).upd, some (.ref a), rfl, ?_⟩
        rw [upd_same, take_more hl]
        have e1 : toldL (d.take i ++ [l]) = toldL (d.take i) ++ ((l.length : Int) :: l.map fun (n : Nat) => (n : Int)) := by
          unfold toldL
          rw [List.flatMap_append, List.flatMap_cons, List.flatMap_nil, List.append_nil]
        rw [e1, zs_app, nums_len, nums_zs]
        rfl
    · rintro σ H' ⟨s5, v2, rfl, hfd⟩
      rw [refs_len, el, List.take_length] at hfd
      exact ⟨_, rfl, k H' fnd (fun b o e => s5 b o e (ne_of_none e hf)) hf hfd⟩
theorem scAskB : FnScope ["branch"] ["branch"] (defScope sAskB) := ⟨rfl, rfl, rfl, by decide +kernel, rfl, by decide +kernel, by decide +kernel⟩
theorem ok_askB {f : Addr} {fd : FuncData} (F : Fun K "ask_branch" "ask_branch" sAskB f fd) (N0 : NumT mg) (C0 : CodeT mg) (GR : Has P w K mg base (L2.CX P w) 1 "refuse_where" ["truth", "code"] (spRefuse CR)) : FnOk P w K mg base (L2.CX P w) 2 f fd ["branch"] (spAskB CR) := by
  obtain ⟨fR, fdR, GR, mR, kR, bR⟩ := GR
  refine F.okX scAskB (fun vs H Q E h => ?_) (fun cdv A outer s H vs Q E hr h => ?_)
  · obtain ⟨b, rfl, _⟩ := h
    rfl
  · refine ⟨_, pss_one (ps_expr (pe_call GR hr (by rfl) mR kR bR .nil (passes_call (takes_of rfl rfl rfl rfl) (fun _ _ _ _ h => h)) (pa_cons (pe_cmpR op_ge (pv 0) (pe_gi (by rfl) N0.brs) (nomark _)) (pa_cons (pe_gi (by rfl) C0.notSo) pa_nil)))), ?_⟩
    obtain ⟨b, rfl, kT, kF⟩ := h
    refine ⟨_, rfl, _, _, rfl, rfl, _, _, rfl, fun e => ?_, fun e => ?_⟩
    · exact kF (by have := of_decide_eq_true e; omega)
    · exact kT (by have := of_decide_eq_false e; omega)
theorem scAskV : FnScope ["history", "number"] ["history", "number"] (defScope sAskV) := ⟨rfl, rfl, rfl, by decide +kernel, rfl, by decide +kernel, by decide +kernel⟩
theorem ok_askV {f : Addr} {fd : FuncData} (F : Fun K "ask_version" "ask_version" sAskV f fd) (C0 : CodeT mg) (T : HisT K CH) (GR : Has P w K mg base (L2.CX P w) 1 "refuse_where" ["truth", "code"] (spRefuse CR)) (GH : HasM P w K mg base CX0 1 CH "has" ["self", "number"] (spHas CH CV)) : FnOk P w K mg base (L2.CX P w) 2 f fd ["history", "number"] (spAskV CH CV CR) := by
  obtain ⟨fR, fdR, GR, mR, kR, bR⟩ := GR
  obtain ⟨fH, fdH, GH, MH, bH⟩ := GH
  refine F.okX scAskV (fun vs H Q E h => ?_) (fun cdv A outer s H vs Q E hr h => ?_)
  · obtain ⟨a, av, ab, st, n, rfl, _⟩ := h
    rfl
  · refine ⟨_, pss_one (ps_expr (pe_call GR hr (by rfl) mR kR bR .nil (passes_call (takes_of rfl rfl rfl rfl) (fun _ _ _ _ h => h)) (pa_cons (pe_not (pe_meth (pv 0) T.cl MH GH hr bH .nil pass0 (pa_cons (pv 1) pa_nil))) (pa_cons (pe_gi (by rfl) C0.noneSuch) pa_nil)))), ?_⟩
    obtain ⟨a, av, ab, st, n, rfl, hi, kT, kF⟩ := h
    obtain ⟨dx, h1⟩ := id hi.inst
    refine ⟨_, rfl, a, dx, _, rfl, h1, lkHno (by decide +kernel) (by decide +kernel), _, rfl, a, av, ab, st, n, rfl, hi, _, rfl, _, _, rfl, fun e => ?_, fun e => ?_⟩
    · rw [Bool.not_eq_true', decide_eq_false_iff_not] at e
      exact kF e
    · rw [Bool.not_eq_false', decide_eq_true_eq] at e
      exact kT e
theorem scHeadOf : FnScope ["history", "branch"] ["history", "branch"] (defScope sHeadOf) := ⟨rfl, rfl, rfl, by decide +kernel, rfl, by decide +kernel, by decide +kernel⟩
theorem ok_headOf {f : Addr} {fd : FuncData} (F : Fun K "head_of" "head_of" sHeadOf f fd) (N0 : NumT mg) (C0 : CodeT mg) (T : HisT K CH) (GR : Has P w K mg base (L2.CX P w) 1 "refuse_where" ["truth", "code"] (spRefuse CR)) : FnOk P w K mg base (L2.CX P w) 2 f fd ["history", "branch"] (spHeadOf CH CV CR) := by
  obtain ⟨fR, fdR, GR, mR, kR, bR⟩ := GR
  refine F.okX scHeadOf (fun vs H Q E h => ?_) (fun cdv A outer s H vs Q E hr h => ?_)
  · obtain ⟨a, av, ab, st, b, rfl, _⟩ := h
    rfl
  · refine ⟨_, pss_cons (ps_expr (pe_call GR hr (by rfl) mR kR bR .nil (passes_call (takes_of rfl rfl rfl rfl) (fun _ _ _ _ h => h)) (pa_cons (pe_cmpR op_eq (pe_ix ix_list (pe_fld (pv 0) rfl) (pv 1) (fun _ _ => rfl)) (pe_gi (by rfl) N0.nowhere) (nomark _)) (pa_cons (pe_gi (by rfl) C0.noneSuch) pa_nil))))
      (pss_one (ps_ret (pe_ix ix_list (pe_fld (pv 0) rfl) (pv 1) (fun _ _ => rfl)))), ?_⟩
    obtain ⟨a, av, ab, st, b, rfl, hi, hb, kT, kF⟩ := h
    obtain ⟨dx, h1⟩ := id hi.inst
    have hh := head_at hi.wf hb
    have hx : (st.heads.map headV)[b]? = some (headV (st.head b)) := by rw [List.getElem?_map, hh]; rfl
    refine ⟨_, rfl, a, CH, dx, _, _, rfl, h1, T.cl, T.nB, lkHb, _, rfl, ab, _, _, _, rfl, rfl, SqL.of hi.brs, atI_nat hx, ?_, _, _, rfl, fun e => ?_, fun e => ?_⟩
    · cases st.head b <;> rfl
    · rw [headV_none] at e
      exact kF (Option.isNone_iff_eq_none.mp e)
    · rw [headV_none] at e
      cases eo : st.head b with
      | none => rw [eo] at e; cases e
      | some v =>
        rw [eo] at hx
        exact ⟨_, rfl, a, CH, dx, _, _, rfl, h1, T.cl, T.nB, lkHb, _, rfl, ab, _, _, _, rfl, rfl, SqL.of hi.brs, atI_nat hx, kT v eo⟩
end
end Wb
namespace Wb
open PySem PySem.Spec PyProof.Rows L2

def Outc (CH : Addr) (CV : Par) (CR : Addr) (H : Hp) (a av ab : Addr) (Q : VK) (E : XK) (r : Hist.State × Hist.Answer) : Prop :=
  (∀ (H' : Hp) (p : Addr), Same (wo CV.x av ab H) (wo CV.x av ab H') → HistAt CH CV H' a av ab r.1 → H p = none → H' p = some (.lst (zs (HistNeutral.shown r.2))) → Q (.ref p) H') ∧
  (∀ (H' : Hp) (d p : Addr), Same (wo CV.x av ab H) (wo CV.x av ab H') → HistAt CH CV H' a av ab r.1 → H' d = some (.xd [(("some" : Str), .ref p)]) → H p = none → H' p = some (.lst (zs (HistNeutral.shown r.2))) → E (.ref CR) (some d) H')
theorem Outc.later {CH : Addr} {CV : Par} {CR : Addr} {H H1 : Hp} {a av ab : Addr} {Q : VK} {E : XK} {r : Hist.State × Hist.Answer} (o : Outc CH CV CR H a av ab Q E r) (k : Same H H1) : Outc CH CV CR H1 a av ab Q E r :=
  ⟨fun H' p s hi hp => o.1 H' p (fun b u e => s b u (wo_mono k b u e)) hi (k.free hp), fun H' d p s hi hd hp => o.2 H' d p (fun b u e => s b u (wo_mono k b u e)) hi hd (k.free hp)⟩
theorem shown_says (z : Int) : HistNeutral.shown (Hist.says z) = [z] := rfl
theorem Outc.ref {CH : Addr} {CV : Par} {CR : Addr} {H : Hp} {a av ab : Addr} {Q : VK} {E : XK} {s : Hist.State} {c : Int} (o : Outc CH CV CR H a av ab Q E (s, Hist.says c)) (hi : HistAt CH CV H a av ab s) : RefW CR H E [c] :=
  fun H' d p k hd hp hp' => o.2 H' d p (wo_mono k) (hi.mono k) hd hp hp'
theorem Outc.refL {CH : Addr} {CV : Par} {CR : Addr} {H : Hp} {a av ab : Addr} {Q : VK} {E : XK} {s : Hist.State} {ans : Hist.Answer} {l : List Int} (o : Outc CH CV CR H a av ab Q E (s, ans)) (hi : HistAt CH CV H a av ab s) (e : HistNeutral.shown ans = l) : RefW CR H E l :=
  fun H' d p k hd hp hp' => o.2 H' d p (wo_mono k) (hi.mono k) hd hp (by rw [hp', ← e])
theorem HistAt.move {CH : Addr} {CV : Par} {H : Hp} {a av ab : Addr} {s : Hist.State} (hi : HistAt CH CV H a av ab s) {k : Nat} {o : Option Nat} (ho : ∀ n, o = some n → n < s.book.length) :
    HistAt CH CV (upd H ab (.lst ((s.heads.map headV).set k (headV o)))) a av ab ⟨s.book, s.heads.set k o⟩ := by
  obtain ⟨dx, h1⟩ := hi.inst
  obtain ⟨vs, h3, h4, h5⟩ := hi.vers
  have na : a ≠ ab := ne_of h1 hi.brs (by intro z; cases z)
  refine ⟨⟨dx, by rw [upd_ne na]; exact h1⟩, hi.ne, by rw [upd_ne hi.nx.2]; exact hi.ext, hi.nx, ⟨vs, by rw [upd_ne hi.ne]; exact h3, h4, fun i v e => ?_⟩, by rw [upd_same, ← List.map_set], ?_⟩
  · rw [wo_upd (.inr (.inr rfl))]
    exact h5 i v e
  · refine ⟨hi.wf.low, hi.wf.docs, hi.wf.many, hi.wf.two, (by show (s.heads.set k o).length = 8; rw [List.length_set]; exact hi.wf.heads), fun j v e => ?_⟩
    have e' : (s.heads.set k o)[j]? = some (some v) := e
    by_cases c : k = j
    · subst c
      by_cases hk : k < s.heads.length
      · rw [List.getElem?_set_self hk] at e'
        exact ho v (Option.some.inj e')
      · rw [List.getElem?_eq_none (by rw [List.length_set]; omega)] at e'
        cases e'
    · rw [List.getElem?_set_ne c] at e'
      exact hi.wf.at_ j v e'
theorem wo_store {x av ab : Addr} {H : Hp} {o : HO} : wo x av ab (upd H ab o) = wo x av ab H := wo_upd (.inr (.inr rfl))

theorem free_wo {CH : Addr} {CV : Par} {H H2 : Hp} {a av ab p : Addr} {s : Hist.State} (k : Same (wo CV.x av ab H) (wo CV.x av ab H2)) (hi : HistAt CH CV H2 a av ab s) (hp : H2 p = none) : H p = none := by
  cases q : H p with
  | none => rfl
  | some u =>
    by_cases c : p = CV.x ∨ p = av ∨ p = ab
    · rcases c with c | c | c
      · have h8 := hi.ext
        rw [← c, hp] at h8
        cases h8
      · obtain ⟨vs, h3, _⟩ := hi.vers
        rw [← c, hp] at h3
        cases h3
      · have h6 := hi.brs
        rw [← c, hp] at h6
        cases h6
    · have z : wo CV.x av ab H p = some u := by unfold wo; rw [if_neg c]; exact q
      have z2 := wo_sub _ _ (k _ _ z)
      rw [hp] at z2
      cases z2

def spPutNew (CH : Addr) (CV : Par) (CR : Addr) : Sp := fun vs H Q E => ∃ (a pd pp av ab : Addr) (s : Hist.State) (b : Nat) (d : Doc) (ps : List Nat), vs = [.ref a, .int (b : Int), .ref pd, .ref pp] ∧ HistAt CH CV H a av ab s ∧ b < 8 ∧ DcAt (wo CV.x av ab H) pd d ∧ Hist.fits d = true ∧ LnAt (wo CV.x av ab H) pp ps ∧ ps.length ≤ 2 ∧ (∀ p ∈ ps, p < s.book.length) ∧
  Outc CH CV CR H a av ab Q E (s.grow b ps d)
def spCommit (CH : Addr) (CV : Par) (CR : Addr) : Sp := fun vs H Q E => ∃ (a pd av ab : Addr) (s : Hist.State) (b : Nat) (d : Doc), vs = [.ref a, .int (b : Int), .ref pd] ∧ HistAt CH CV H a av ab s ∧ DcAt (wo CV.x av ab H) pd d ∧ Outc CH CV CR H a av ab Q E (Hist.step s (.commit b d))
def spSetB (CH : Addr) (CV : Par) (CR : Addr) : Sp := fun vs H Q E => ∃ (a av ab : Addr) (s : Hist.State) (b v : Nat), vs = [.ref a, .int (b : Int), .int (v : Int)] ∧ HistAt CH CV H a av ab s ∧ Outc CH CV CR H a av ab Q E (Hist.step s (.branch b v))
def spDrop (CH : Addr) (CV : Par) (CR : Addr) : Sp := fun vs H Q E => ∃ (a av ab : Addr) (s : Hist.State) (b : Nat), vs = [.ref a, .int (b : Int)] ∧ HistAt CH CV H a av ab s ∧ Outc CH CV CR H a av ab Q E (Hist.step s (.drop b))
def spHead (CH : Addr) (CV : Par) (CR : Addr) : Sp := fun vs H Q E => ∃ (a av ab : Addr) (s : Hist.State) (b : Nat), vs = [.ref a, .int (b : Int)] ∧ HistAt CH CV H a av ab s ∧ Outc CH CV CR H a av ab Q E (Hist.step s (.head b))
abbrev sPutNew : Stmt := top 49
abbrev sCommit : Stmt := top 50
abbrev sSetB : Stmt := top 51
abbrev sDrop : Stmt := top 52
abbrev sHead : Stmt := top 53
theorem isBranch_t {b : Nat} (h : b < 8) : Hist.isBranch b = true := decide_eq_true h
theorem isBranch_f {b : Nat} (h : ¬ b < 8) : Hist.isBranch b = false := decide_eq_false h
theorem has_t {s : Hist.State} {v : Nat} (h : v < s.book.length) : s.has v = true := decide_eq_true h
theorem has_f {s : Hist.State} {v : Nat} (h : ¬ v < s.book.length) : s.has v = false := decide_eq_false h
section
variable {P : Program} {w : World} {K : PySem.W.Frag} {mg : Str → Option Value} {base : Heap} {CH : Addr} {CV : Par} {CR fI : Addr}
theorem scPutNew : FnScope ["history", "branch", "document", "parents", "number"] ["history", "branch", "document", "parents"] (defScope sPutNew) := ⟨rfl, rfl, rfl, by decide +kernel, rfl, by decide +kernel, by decide +kernel⟩
theorem ok_putNew {f : Addr} {fd : FuncData} (F : Fun K "put_new" "put_new" sPutNew f fd) (C0 : CodeT mg) (T : HisT K CH) (GR : Has P w K mg base (L2.CX P w) 1 "refuse_where" ["truth", "code"] (spRefuse CR)) (GU : HasM P w K mg base CX0 1 CH "is_full" ["self"] (spFull CH CV)) (GM : HasM P w K mg base CX0 5 CH "make" ["self", "document", "parents"] (spMake CH CV)) :
    FnOk P w K mg base (L2.CX P w) 6 f fd ["history", "branch", "document", "parents"] (spPutNew CH CV CR) := by
  obtain ⟨fR, fdR, GR, mR, kR, bR⟩ := GR
  obtain ⟨fU, fdU, GU, MU, bU⟩ := GU
  obtain ⟨fM, fdM, GM, MM, bM⟩ := GM
  refine F.okX scPutNew (fun vs H Q E h => ?_) (fun cdv A outer s H vs Q E hr h => ?_)
  · obtain ⟨a, pd, pp, av, ab, st, b, d, ps, rfl, _⟩ := h
    rfl
  · have nd := scPutNew.nd
    have hr1 : Room 1 _ := hr.mono (by decide)
    refine ⟨_, pss_cons (ps_expr (pe_call GR hr1 (by rfl) mR kR bR .nil (passes_call (takes_of rfl rfl rfl rfl) (fun _ _ _ _ h => h)) (pa_cons (pe_meth0 (pv 0) T.cl MU GU hr1 bU .nil pass0) (pa_cons (pe_gi (by rfl) C0.full) pa_nil))))
      (pss_cons (ps_set (i := 4) nd rfl (.inl rfl) (pe_meth (pv 0) T.cl MM GM hr bM .nil pass0 (pa_cons (pv 2) (pa_cons (pv 3) pa_nil))))
      (pss_cons (ps_asg (pv 4) (pg_sub (pe_fld (pv 0) rfl) (pv 1) set_list))
      (pss_one (ps_ret (pe_lst (pa_cons (pv 4) pa_nil)))))), ?_⟩
    obtain ⟨a, pd, pp, av, ab, st, b, d, ps, rfl, hi, hb, hd, hfit, hpp, hp2, hlt, o⟩ := h
    obtain ⟨dx, h1⟩ := id hi.inst
    have hmany := hi.wf.many
    refine ⟨_, rfl, a, dx, _, rfl, h1, lkHno (by decide +kernel) (by decide +kernel), a, av, ab, st, rfl, hi, _, _, rfl, fun e => ?_, fun e => ?_⟩
    · have e' := of_decide_eq_true e
      have eg : st.grow b ps d = (st, Hist.says (-6)) := by
        unfold Hist.State.grow
        rw [if_pos (.inl (by show 128 ≤ st.book.length; omega))]
      rw [eg] at o
      exact o.ref hi
    · have e' := of_decide_eq_false e
      have hl : st.book.length < 128 := by omega
      have eg : st.grow b ps d = (⟨st.book ++ [⟨ps, d⟩], st.heads.set b (some st.book.length)⟩, Hist.says (st.book.length : Nat)) := by
        unfold Hist.State.grow
        rw [if_neg]
        rintro (z | z)
        · have z' : 128 ≤ st.book.length := z
          omega
        · rw [hfit] at z
          cases z
      rw [eg] at o
      refine ⟨_, rfl, a, dx, _, rfl, h1, lkHno (by decide +kernel) (by decide +kernel), _, rfl, _, rfl, a, pd, pp, av, ab, st, d, ps, rfl, hi, hl, hd, hfit, hpp, hp2, hlt, fun H1 s1 hi1 => ?_⟩
      obtain ⟨dx1, h11⟩ := id hi1.inst
      refine ⟨_, rfl, _, rfl, a, CH, dx1, _, _, rfl, h11, T.cl, T.nB, lkHb, _, rfl, ab, _, _, b, rfl, rfl, hi1.brs, ?_, ?_⟩
      · unfold ixN
        rw [List.length_map, hi1.wf.heads, if_pos (by omega), if_pos (by omega)]
        rfl
      · have hi2 := hi1.move (k := b) (o := some st.book.length) (fun n e => by
          have := Option.some.inj e
          show n < (st.book ++ [_]).length
          rw [List.length_append, List.length_singleton]
          omega)
        refine ⟨_, rfl, (by show 1 ≤ sizeLine; decide), fun p hp => ?_⟩
        have s2 : Same (upd H1 ab (.lst ((st.heads.map headV).set b (headV (some st.book.length))))) (upd (upd H1 ab (.lst ((st.heads.map headV).set b (headV (some st.book.length))))) p (.lst [V.int (st.book.length : Int)])) := same_new hp
        refine o.1 _ p (fun c u z => wo_mono s2 _ _ (by rw [wo_store]; exact s1 c u z)) (hi2.mono s2) ?_ ?_
        · exact free_wo (fun c u z => by rw [wo_store]; exact s1 c u z) hi2 hp
        · rw [upd_same]
          rfl
theorem scCommit : FnScope ["history", "branch", "document", "here"] ["history", "branch", "document"] (defScope sCommit) := ⟨rfl, rfl, rfl, by decide +kernel, rfl, by decide +kernel, by decide +kernel⟩
theorem ok_commit {f : Addr} {fd : FuncData} (F : Fun K "commit" "commit" sCommit f fd) (N0 : NumT mg) (C0 : CodeT mg) (T : HisT K CH) (GR : Has P w K mg base (L2.CX P w) 1 "refuse_where" ["truth", "code"] (spRefuse CR)) (GA : Has P w K mg base (L2.CX P w) 2 "ask_branch" ["branch"] (spAskB CR)) (GF : Has P w K mg base CX0 1 "fits" ["document"] spFits)
    (GP : Has P w K mg base (L2.CX P w) 6 "put_new" ["history", "branch", "document", "parents"] (spPutNew CH CV CR)) : FnOk P w K mg base (L2.CX P w) 7 f fd ["history", "branch", "document"] (spCommit CH CV CR) := by
  obtain ⟨fR, fdR, GR, mR, kR, bR⟩ := GR
  obtain ⟨fA, fdA, GA, mA, kA, bA⟩ := GA
  obtain ⟨fF, fdF, GF, mF, kF, bF⟩ := GF
  obtain ⟨fP, fdP, GP, mP, kP, bP⟩ := GP
  refine F.okX scCommit (fun vs H Q E h => ?_) (fun cdv A outer s H vs Q E hr h => ?_)
  · obtain ⟨a, pd, av, ab, st, b, d, rfl, _⟩ := h
    rfl
  · have nd := scCommit.nd
    have hr1 : Room 1 _ := hr.mono (by decide)
    have hr2 : Room 2 _ := hr.mono (by decide)
    refine ⟨_, pss_cons (ps_expr (pe_call GA hr2 (by rfl) mA kA bA .nil (passes_call (takes_of rfl rfl rfl rfl) (fun _ _ _ _ h => h)) (pa_cons (pv 1) pa_nil)))
      (pss_cons (ps_expr (pe_call GR hr1 (by rfl) mR kR bR .nil (passes_call (takes_of rfl rfl rfl rfl) (fun _ _ _ _ h => h)) (pa_cons (pe_not (pe_call GF hr1 (by rfl) mF kF bF .nil pass0 (pa_cons (pv 2) pa_nil))) (pa_cons (pe_gi (by rfl) C0.notSo) pa_nil))))
      (pss_cons (ps_set (i := 3) nd rfl (.inl rfl) (pe_ix ix_list (pe_fld (pv 0) rfl) (pv 1) (fun _ _ => rfl)))
      (pss_one (ps_ret (pe_call GP hr (by rfl) mP kP bP .nil (passes_call (takes_of rfl rfl rfl rfl) (fun _ _ _ _ h => h)) (pa_cons (pv 0) (pa_cons (pv 1) (pa_cons (pv 2) (pa_cons (pe_ifExp (pt_cmpR op_ne (pv 3) (pe_gi (by rfl) N0.nowhere) (nomark _)) (pe_lst (pa_cons (pv 3) pa_nil)) (pe_lst pa_nil)) pa_nil))))))))), ?_⟩
    obtain ⟨a, pd, av, ab, st, b, d, rfl, hi, hd, o⟩ := h
    obtain ⟨dx, h1⟩ := id hi.inst
    have estep : Hist.step st (.commit b d) = if Hist.isBranch b = false ∨ Hist.fits d = false then (st, Hist.says (-1)) else st.grow b (match st.head b with
      | none => []
      | some u => [u]) d := rfl
    rw [estep] at o
    refine ⟨_, rfl, b, rfl, fun hb => ?_, fun hb => ?_⟩
    · refine ⟨_, rfl, pd, d, rfl, hd.mono wo_sub, fun H1 s1 => ?_⟩
      refine ⟨_, rfl, _, _, rfl, fun e => ?_, fun e => ?_⟩
      · rw [Bool.not_eq_true'] at e
        rw [if_pos (.inr e)] at o
        exact (o.later s1).ref (hi.mono s1)
      · rw [Bool.not_eq_false'] at e
        rw [if_neg (by rw [isBranch_t hb, e]; rintro (z | z) <;> cases z)] at o
        have hi1 := hi.mono s1
        have o1 := o.later s1
        obtain ⟨dx1, h11⟩ := id hi1.inst
        have hh := head_at hi.wf hb
        have hx : (st.heads.map headV)[b]? = some (headV (st.head b)) := by rw [List.getElem?_map, hh]; rfl
        refine ⟨_, rfl, a, CH, dx1, _, _, rfl, h11, T.cl, T.nB, lkHb, _, rfl, ab, _, _, _, rfl, rfl, SqL.of hi1.brs, atI_nat hx, ?_⟩
        refine ⟨_, rfl, _, rfl, _, rfl, _, rfl, ?_, _, rfl, ?_⟩
        · show scal (headV (st.head b)) (V.int (-1)) = true
          cases st.head b <;> rfl
        rw [headV_none]
        cases eo : st.head b with
        | none =>
          refine iteF ⟨Nat.zero_le _, fun p hp => ?_⟩
          rw [eo] at o1
          have s2 : Same H1 (upd H1 p (.lst [])) := same_new hp
          have hi2 := hi1.mono s2
          obtain ⟨vs, h3, _⟩ := id hi1.vers
          exact ⟨a, pd, p, av, ab, st, b, d, [], rfl, hi2, hb, (hd.mono (wo_mono s1)).mono (wo_mono s2), e, wo_at upd_same (new_ne hp h3) (new_ne hp hi1.brs) (new_ne hp hi1.ext), Nat.zero_le _, fun x hx => (by cases hx), o1.later s2⟩
        | some u =>
          refine iteT ⟨_, rfl, (by show 1 ≤ sizeLine; decide), fun p hp => ?_⟩
          rw [eo] at o1 hh
          have s2 : Same H1 (upd H1 p (.lst [V.int (u : Int)])) := same_new hp
          have hi2 := hi1.mono s2
          obtain ⟨vs, h3, _⟩ := id hi1.vers
          refine ⟨a, pd, p, av, ab, st, b, d, [u], rfl, hi2, hb, (hd.mono (wo_mono s1)).mono (wo_mono s2), e, wo_at upd_same (new_ne hp h3) (new_ne hp hi1.brs) (new_ne hp hi1.ext), (by show 1 ≤ 2; decide), fun x hx => ?_, o1.later s2⟩
          rw [List.mem_singleton.mp hx]
          exact hi.wf.at_ b u hh
    · rw [if_pos (.inl (isBranch_f hb))] at o
      exact o.ref hi
theorem scSetB : FnScope ["history", "branch", "number"] ["history", "branch", "number"] (defScope sSetB) := ⟨rfl, rfl, rfl, by decide +kernel, rfl, by decide +kernel, by decide +kernel⟩
theorem ok_setB {f : Addr} {fd : FuncData} (F : Fun K "set_branch" "set_branch" sSetB f fd) (T : HisT K CH) (GA : Has P w K mg base (L2.CX P w) 2 "ask_branch" ["branch"] (spAskB CR)) (GV : Has P w K mg base (L2.CX P w) 2 "ask_version" ["history", "number"] (spAskV CH CV CR)) : FnOk P w K mg base (L2.CX P w) 3 f fd ["history", "branch", "number"] (spSetB CH CV CR) := by
  obtain ⟨fA, fdA, GA, mA, kA, bA⟩ := GA
  obtain ⟨fV, fdV, GV, mV, kV, bV⟩ := GV
  refine F.okX scSetB (fun vs H Q E h => ?_) (fun cdv A outer s H vs Q E hr h => ?_)
  · obtain ⟨a, av, ab, st, b, v, rfl, _⟩ := h
    rfl
  · refine ⟨_, pss_cons (ps_expr (pe_call GA hr (by rfl) mA kA bA .nil (passes_call (takes_of rfl rfl rfl rfl) (fun _ _ _ _ h => h)) (pa_cons (pv 1) pa_nil)))
      (pss_cons (ps_expr (pe_call GV hr (by rfl) mV kV bV .nil (passes_call (takes_of rfl rfl rfl rfl) (fun _ _ _ _ h => h)) (pa_cons (pv 0) (pa_cons (pv 2) pa_nil))))
      (pss_cons (ps_asg (pv 2) (pg_sub (pe_fld (pv 0) rfl) (pv 1) set_list))
      (pss_one (ps_ret (pe_lst (pa_cons pe_int pa_nil)))))), ?_⟩
    obtain ⟨a, av, ab, st, b, v, rfl, hi, o⟩ := h
    obtain ⟨dx, h1⟩ := id hi.inst
    have estep : Hist.step st (.branch b v) = if Hist.isBranch b = false then (st, Hist.says (-1)) else if st.has v = false then (st, Hist.says (-4)) else (st.move b (some v), Hist.says 0) := rfl
    rw [estep] at o
    refine ⟨_, rfl, b, rfl, fun hb => ?_, fun hb => ?_⟩
    · rw [if_neg (by rw [isBranch_t hb]; decide)] at o
      refine ⟨_, rfl, _, rfl, a, av, ab, st, v, rfl, hi, fun hv => ?_, fun hv => ?_⟩
      · rw [if_neg (by rw [has_t hv]; decide)] at o
        refine ⟨_, rfl, _, rfl, a, CH, dx, _, _, rfl, h1, T.cl, T.nB, lkHb, _, rfl, ab, _, _, b, rfl, rfl, hi.brs, ?_, ?_⟩
        · unfold ixN
          rw [List.length_map, hi.wf.heads, if_pos (by omega), if_pos (by omega)]
          rfl
        · have hi2 := hi.move (k := b) (o := some v) (fun n e => by cases e; exact hv)
          refine ⟨(by show 1 ≤ sizeLine; decide), fun p hp => ?_⟩
          have s2 : Same (upd H ab (.lst ((st.heads.map headV).set b (headV (some v))))) (upd (upd H ab (.lst ((st.heads.map headV).set b (headV (some v))))) p (.lst [V.int 0])) := same_new hp
          refine o.1 _ p (fun c u z => wo_mono s2 _ _ (by rw [wo_store]; exact z)) (hi2.mono s2) ?_ (by rw [upd_same]; rfl)
          by_cases c : p = ab
          · rw [c, upd_same] at hp
            cases hp
          · rw [upd_ne c] at hp
            exact hp
      · rw [if_pos (has_f hv)] at o
        exact o.ref hi
    · rw [if_pos (isBranch_f hb)] at o
      exact o.ref hi
theorem scDrop : FnScope ["history", "branch"] ["history", "branch"] (defScope sDrop) := ⟨rfl, rfl, rfl, by decide +kernel, rfl, by decide +kernel, by decide +kernel⟩
theorem ok_drop {f : Addr} {fd : FuncData} (F : Fun K "drop" "drop" sDrop f fd) (N0 : NumT mg) (T : HisT K CH) (GA : Has P w K mg base (L2.CX P w) 2 "ask_branch" ["branch"] (spAskB CR)) (GH : Has P w K mg base (L2.CX P w) 2 "head_of" ["history", "branch"] (spHeadOf CH CV CR)) : FnOk P w K mg base (L2.CX P w) 3 f fd ["history", "branch"] (spDrop CH CV CR) := by
  obtain ⟨fA, fdA, GA, mA, kA, bA⟩ := GA
  obtain ⟨fV, fdV, GV, mV, kV, bV⟩ := GH
  refine F.okX scDrop (fun vs H Q E h => ?_) (fun cdv A outer s H vs Q E hr h => ?_)
  · obtain ⟨a, av, ab, st, b, rfl, _⟩ := h
    rfl
  · refine ⟨_, pss_cons (ps_expr (pe_call GA hr (by rfl) mA kA bA .nil (passes_call (takes_of rfl rfl rfl rfl) (fun _ _ _ _ h => h)) (pa_cons (pv 1) pa_nil)))
      (pss_cons (ps_expr (pe_call GV hr (by rfl) mV kV bV .nil (passes_call (takes_of rfl rfl rfl rfl) (fun _ _ _ _ h => h)) (pa_cons (pv 0) (pa_cons (pv 1) pa_nil))))
      (pss_cons (ps_asg (pe_gi (by rfl) N0.nowhere) (pg_sub (pe_fld (pv 0) rfl) (pv 1) set_list))
      (pss_one (ps_ret (pe_lst (pa_cons pe_int pa_nil)))))), ?_⟩
    obtain ⟨a, av, ab, st, b, rfl, hi, o⟩ := h
    obtain ⟨dx, h1⟩ := id hi.inst
    have estep : Hist.step st (.drop b) = if Hist.isBranch b = false then (st, Hist.says (-1)) else match st.head b with
      | none => (st, Hist.says (-4))
      | some _ => (st.move b none, Hist.says 0) := rfl
    rw [estep] at o
    refine ⟨_, rfl, b, rfl, fun hb => ?_, fun hb => ?_⟩
    · rw [if_neg (by rw [isBranch_t hb]; decide)] at o
      refine ⟨_, rfl, _, rfl, a, av, ab, st, b, rfl, hi, hb, fun v ev => ?_, fun ev => ?_⟩
      · rw [ev] at o
        refine ⟨_, rfl, a, CH, dx, _, _, rfl, h1, T.cl, T.nB, lkHb, _, rfl, ab, _, _, b, rfl, rfl, hi.brs, ?_, ?_⟩
        · unfold ixN
          rw [List.length_map, hi.wf.heads, if_pos (by omega), if_pos (by omega)]
          rfl
        · have hi2 := hi.move (k := b) (o := none) (fun n e => by cases e)
          refine ⟨(by show 1 ≤ sizeLine; decide), fun p hp => ?_⟩
          have s2 : Same (upd H ab (.lst ((st.heads.map headV).set b (headV none)))) (upd (upd H ab (.lst ((st.heads.map headV).set b (headV none)))) p (.lst [V.int 0])) := same_new hp
          refine o.1 _ p (fun c u z => wo_mono s2 _ _ (by rw [wo_store]; exact z)) (hi2.mono s2) ?_ (by rw [upd_same]; rfl)
          by_cases c : p = ab
          · rw [c, upd_same] at hp
            cases hp
          · rw [upd_ne c] at hp
            exact hp
      · rw [ev] at o
        exact o.ref hi
    · rw [if_pos (isBranch_f hb)] at o
      exact o.ref hi
theorem scHead : FnScope ["history", "branch"] ["history", "branch"] (defScope sHead) := ⟨rfl, rfl, rfl, by decide +kernel, rfl, by decide +kernel, by decide +kernel⟩
theorem ok_head {f : Addr} {fd : FuncData} (F : Fun K "head" "head" sHead f fd) (GA : Has P w K mg base (L2.CX P w) 2 "ask_branch" ["branch"] (spAskB CR)) (GH : Has P w K mg base (L2.CX P w) 2 "head_of" ["history", "branch"] (spHeadOf CH CV CR)) : FnOk P w K mg base (L2.CX P w) 3 f fd ["history", "branch"] (spHead CH CV CR) := by
  obtain ⟨fA, fdA, GA, mA, kA, bA⟩ := GA
  obtain ⟨fV, fdV, GV, mV, kV, bV⟩ := GH
  refine F.okX scHead (fun vs H Q E h => ?_) (fun cdv A outer s H vs Q E hr h => ?_)
  · obtain ⟨a, av, ab, st, b, rfl, _⟩ := h
    rfl
  · refine ⟨_, pss_cons (ps_expr (pe_call GA hr (by rfl) mA kA bA .nil (passes_call (takes_of rfl rfl rfl rfl) (fun _ _ _ _ h => h)) (pa_cons (pv 1) pa_nil)))
      (pss_one (ps_ret (pe_lst (pa_cons (pe_call GV hr (by rfl) mV kV bV .nil (passes_call (takes_of rfl rfl rfl rfl) (fun _ _ _ _ h => h)) (pa_cons (pv 0) (pa_cons (pv 1) pa_nil))) pa_nil)))), ?_⟩
    obtain ⟨a, av, ab, st, b, rfl, hi, o⟩ := h
    have estep : Hist.step st (.head b) = if Hist.isBranch b = false then (st, Hist.says (-1)) else match st.head b with
      | none => (st, Hist.says (-4))
      | some u => (st, Hist.says (u : Nat)) := rfl
    rw [estep] at o
    refine ⟨_, rfl, b, rfl, fun hb => ?_, fun hb => ?_⟩
    · rw [if_neg (by rw [isBranch_t hb]; decide)] at o
      refine ⟨_, rfl, _, rfl, a, av, ab, st, b, rfl, hi, hb, fun v ev => ?_, fun ev => ?_⟩
      · rw [ev] at o
        refine ⟨(by show 1 ≤ sizeLine; decide), fun p hp => ?_⟩
        exact o.1 _ p (wo_mono (same_new hp)) (hi.mono (same_new hp)) hp (by rw [upd_same]; rfl)
      · rw [ev] at o
        exact o.ref hi
    · rw [if_pos (isBranch_f hb)] at o
      exact o.ref hi
end
end Wb
namespace Wb
open PySem PySem.Spec PyProof.Rows L2

theorem shown_one (z : Int) (l : List Nat) : HistNeutral.shown ⟨z, [l]⟩ = z :: (l.length : Int) :: l.map fun (n : Nat) => (n : Int) := by
  show z :: (((l.length : Int) :: l.map fun (n : Nat) => (n : Int)) ++ []) = _
  rw [List.append_nil]
theorem shown_doc (z : Int) (d : Doc) : HistNeutral.shown ⟨z, d⟩ = z :: toldL d := rfl
def spMergedDoc (CR : Addr) : Sp := fun vs H Q E => ∃ (po pa pb : Addr) (O A B : Doc) (G : Hp), vs = [.ref po, .ref pa, .ref pb] ∧ Same G H ∧ DcAt G po O ∧ DcAt G pa A ∧ DcAt G pb B ∧ O.length ≤ 64 ∧ A.length ≤ 64 ∧ B.length ≤ 64 ∧
  (∀ d, Hist.merge O A B = .ok d → ∀ (H' : Hp) (p : Addr) (ls : List Addr), Same H H' → H p = none → H' p = some (.lst (refs ls)) → LnsAt G ls d → Q (.ref p) H') ∧
  (∀ l, Hist.merge O A B = .error l → RefW CR H E (HistNeutral.shown ⟨-3, [l.flatMap Hist.Part.nums]⟩))
abbrev sMergedDoc : Stmt := top 58
theorem dpAll_zs {K : PySem.W.Frag} {H : Hp} : ∀ l : List Int, DpAll K H (zs l) (l.map PyData.int)
  | [] => .nil
  | _ :: l => .cons (.int _) (dpAll_zs l)
theorem lay_zs : ∀ l : List Int, PyData.canLayAll0 (l.map PyData.int) = true
  | [] => by simp only [List.map_nil, PyData.canLayAll0]
  | _ :: l => by simp only [List.map_cons, PyData.canLayAll0, PyData.canLay0, lay_zs l, Bool.and_self]
theorem depth_zs : ∀ l : List Int, PyData.depthAll (l.map PyData.int) = 0
  | [] => by simp only [List.map_nil, PyData.depthAll]
  | _ :: l => by
    simp only [List.map_cons, PyData.depthAll, PyData.depth, depth_zs l]
    rfl
theorem shaped_zs (l : List Int) : SeqAt.shaped (.list (l.map PyData.int)) = true := by
  unfold SeqAt.shaped
  simp only [PyData.canLay0, lay_zs, PyData.depth, depth_zs]
  decide
theorem eqv_nil (l : List PyData) : PyData.eqv (.list l) (.list []) = decide (l = []) := by
  cases l with
  | nil => simp [PyData.eqv, PyData.eqvAll]
  | cons x l => simp [PyData.eqv, PyData.eqvAll]
theorem mergedP_len {O A B : Doc} (hO : O.length ≤ 64) (hA : A.length ≤ 64) (hB : B.length ≤ 64) : (mergedP O A B).2.length ≤ 390 := by
  have h := (mLoop_len (O := O) hA hB (partsP O A B) ([], [])).2
  have := partsP_len O A B
  unfold mergedP
  simp only [List.length_nil] at h
  omega
section
variable {P : Program} {w : World} {K : PySem.W.Frag} {mg : Str → Option Value} {base : Heap} {CH : Addr} {CV : Par} {CR fI CM : Addr}
theorem scMergedDoc : FnScope ["o", "a", "b", "found"] ["o", "a", "b"] (defScope sMergedDoc) := ⟨rfl, rfl, rfl, by decide +kernel, rfl, by decide +kernel, by decide +kernel⟩
theorem ok_mergedDoc {f : Addr} {fd : FuncData} (F : Fun K "merged_document" "merged_document" sMergedDoc f fd) (C0 : CodeT mg) (TM : MergedT K CM) (TR : PySem.RefX.RefTxt K mg CR fI) (GM : Has P w K mg base CX0 5 "merged" ["o", "a", "b"] (spMerged CM)) (GL : Has P w K mg base CX0 1 "listed" ["numbers"] spListed) :
    FnOk P w K mg base (L2.CX P w) 6 f fd ["o", "a", "b"] (spMergedDoc CR) := by
  obtain ⟨fM, fdM, GM, mM, kM, bM⟩ := GM
  obtain ⟨fL, fdL, GL, mL, kL, bL⟩ := GL
  refine F.okX scMergedDoc (fun vs H Q E h => ?_) (fun cdv A outer s H vs Q E hr h => ?_)
  · obtain ⟨po, pa, pb, O, A, B, G, rfl, _⟩ := h
    rfl
  · have nd := scMergedDoc.nd
    have hr1 : Room 1 _ := hr.mono (by decide)
    refine ⟨_, pss_cons (ps_set (i := 3) nd rfl (.inl rfl) (pe_call GM hr (by rfl) mM kM bM .nil pass0 (pa_cons (pv 0) (pa_cons (pv 1) (pa_cons (pv 2) pa_nil)))))
      (pss_cons (ps_if (pt_cmpR (op_neD hr.units) (pe_fld (pv 3) rfl) (pe_lst pa_nil) (nomark _))
        (pss_one (ps_raiseRef rfl TR hr1 (takes_of rfl rfl rfl rfl) (by exact (pa_cons (pe_op op_cat (pe_lst (pa_cons (pe_gi (by rfl) C0.clashes) pa_nil)) (pe_call GL hr1 (by rfl) mL kL bL .nil pass0 (pa_cons (pe_fld (pv 3) rfl) pa_nil))) pa_nil)))) pss_nil)
      (pss_one (ps_ret (pe_fld (pv 3) rfl)))), ?_⟩
    obtain ⟨po, pa, pb, O, A, B, G, rfl, sG, dO, dA, dB, hO, hA, hB, kO, kE⟩ := h
    refine ⟨_, rfl, _, rfl, _, rfl, po, pa, pb, O, A, B, G, rfl, sG, dO, dA, dB, hO, hA, hB, fun H1 x dx d c ls s1 hx hd hc hd1 hls hc1 => ?_⟩
    have hlen := mergedP_len hO hA hB
    refine ⟨_, rfl, x, CM, dx, _, _, rfl, hx, TM.cl, TM.nC, lkC, Nat.zero_le _, fun e he => ?_⟩
    have s2 : Same H1 (upd H1 e (.lst [])) := same_new he
    refine ⟨_, _, .lst (SqL.of (s2 _ _ hc1)) (dpAll_zs _), .lst (SqL.of (xs := zs []) upd_same) (dpAll_zs []), shaped_zs _, shaped_zs _, _, rfl, ?_⟩
    rw [List.map_nil, eqv_nil]
    have hx2 := s2 _ _ hx
    have s12 : Same H (upd H1 e (.lst [])) := s1.trans s2
    refine iteB (fun hb => ?_) (fun hb => ?_)
    · rw [Bool.not_eq_true', decide_eq_false_iff_not] at hb
      have hb' : (mergedP O A B).2 ≠ [] := fun z => hb (by rw [z]; rfl)
      obtain ⟨l, el, en⟩ := merge_clash O A B hb'
      refine ⟨(by show 1 ≤ sizeLine; decide), fun q hq => ?_⟩
      have s3 : Same (upd H1 e (.lst [])) (upd (upd H1 e (.lst [])) q (.lst [V.int (-3)])) := same_new hq
      refine ⟨_, rfl, x, CM, dx, _, _, rfl, s3 _ _ hx2, TM.cl, TM.nC, lkC, c, _, rfl, s3 _ _ (s2 _ _ hc1), by rw [zs_len]; omega, fun H4 r s4 hr0 hr1' => ?_⟩
      refine ⟨q, r, _, _, rfl, rfl, s4 _ _ upd_same, hr1', line1000 (by show 1 + (_ + 1) ≤ _; rw [zs_len]; omega), fun p hp => ?_⟩
      refine ⟨_, rfl, fun dd hdd => ?_⟩
      have s5 : Same H (upd (upd H4 p (.lst ([V.int (-3)] ++ V.int ((zs (mergedP O A B).2).length : Nat) :: zs (mergedP O A B).2))) dd (.xd [(("some" : Str), .ref p)])) := fun b o z => same_new hdd _ _ (same_new hp _ _ (s4 _ _ (s3 _ _ (s12 b o z))))
      refine kE l el _ dd p s5 upd_same (s12.free (s3.free (s4.free hp))) ?_
      rw [upd_ne (ne_of_none (o := .lst ([V.int (-3)] ++ V.int ((zs (mergedP O A B).2).length : Nat) :: zs (mergedP O A B).2)) upd_same hdd), upd_same, shown_one]
      have e1 : (l.flatMap Hist.Part.nums).map (fun (n : Nat) => (n : Int)) = (mergedP O A B).2 := en
      have e2 : (l.flatMap Hist.Part.nums).length = (mergedP O A B).2.length := by rw [← e1, List.length_map]
      rw [e1, e2, zs_len]
      rfl
    · rw [Bool.not_eq_false', decide_eq_true_eq] at hb
      have hb' : (mergedP O A B).2 = [] := by simpa using hb
      exact ⟨_, rfl, x, CM, dx, _, _, rfl, hx2, TM.cl, TM.nD, lkD, kO _ (merge_ok O A B hb') _ d ls s12 hd (s2 _ _ hd1) hls⟩

def spPutMerged (CH : Addr) (CV : Par) (CR : Addr) : Sp := fun vs H Q E => ∃ (a pd pp av ab : Addr) (s : Hist.State) (b : Nat) (d : Doc) (ps : List Nat), vs = [.ref a, .int (b : Int), .ref pd, .ref pp] ∧ HistAt CH CV H a av ab s ∧ b < 8 ∧ DcAt (wo CV.x av ab H) pd d ∧ LnAt (wo CV.x av ab H) pp ps ∧ ps.length ≤ 2 ∧ (∀ p ∈ ps, p < s.book.length) ∧
  Outc CH CV CR H a av ab Q E (s.grow b ps d)
abbrev sPutMerged : Stmt := top 59
theorem scPutMerged : FnScope ["history", "branch", "document", "parents"] ["history", "branch", "document", "parents"] (defScope sPutMerged) := ⟨rfl, rfl, rfl, by decide +kernel, rfl, by decide +kernel, by decide +kernel⟩
theorem ok_putMerged {f : Addr} {fd : FuncData} (F : Fun K "put_merged" "put_merged" sPutMerged f fd) (C0 : CodeT mg) (GR : Has P w K mg base (L2.CX P w) 1 "refuse_where" ["truth", "code"] (spRefuse CR)) (GF : Has P w K mg base CX0 1 "fits" ["document"] spFits)
    (GP : Has P w K mg base (L2.CX P w) 6 "put_new" ["history", "branch", "document", "parents"] (spPutNew CH CV CR)) : FnOk P w K mg base (L2.CX P w) 7 f fd ["history", "branch", "document", "parents"] (spPutMerged CH CV CR) := by
  obtain ⟨fR, fdR, GR, mR, kR, bR⟩ := GR
  obtain ⟨fF, fdF, GF, mF, kF, bF⟩ := GF
  obtain ⟨fP, fdP, GP, mP, kP, bP⟩ := GP
  refine F.okX scPutMerged (fun vs H Q E h => ?_) (fun cdv A outer s H vs Q E hr h => ?_)
  · obtain ⟨a, pd, pp, av, ab, st, b, d, ps, rfl, _⟩ := h
    rfl
  · have hr1 : Room 1 _ := hr.mono (by decide)
    refine ⟨_, pss_cons (ps_expr (pe_call GR hr1 (by rfl) mR kR bR .nil (passes_call (takes_of rfl rfl rfl rfl) (fun _ _ _ _ h => h)) (pa_cons (pe_not (pe_call GF hr1 (by rfl) mF kF bF .nil pass0 (pa_cons (pv 2) pa_nil))) (pa_cons (pe_gi (by rfl) C0.full) pa_nil))))
      (pss_one (ps_ret (pe_call GP hr (by rfl) mP kP bP .nil (passes_call (takes_of rfl rfl rfl rfl) (fun _ _ _ _ h => h)) (pa_cons (pv 0) (pa_cons (pv 1) (pa_cons (pv 2) (pa_cons (pv 3) pa_nil))))))), ?_⟩
    obtain ⟨a, pd, pp, av, ab, st, b, d, ps, rfl, hi, hb, hd, hpp, hp2, hlt, o⟩ := h
    refine ⟨_, rfl, pd, d, rfl, hd.mono wo_sub, fun H1 s1 => ?_⟩
    refine ⟨_, rfl, _, _, rfl, fun e => ?_, fun e => ?_⟩
    · rw [Bool.not_eq_true'] at e
      have eg : st.grow b ps d = (st, Hist.says (-6)) := by
        unfold Hist.State.grow
        rw [if_pos (.inr e)]
      rw [eg] at o
      exact (o.later s1).ref (hi.mono s1)
    · rw [Bool.not_eq_false'] at e
      exact ⟨_, rfl, _, rfl, _, rfl, _, rfl, a, pd, pp, av, ab, st, b, d, ps, rfl, hi.mono s1, hb, hd.mono (wo_mono s1), e, hpp.mono (wo_mono s1), hp2, hlt, o.later s1⟩
def mergeStep (s : Hist.State) (b u v : Nat) : Hist.State × Hist.Answer := if Hist.isForebear s.book v u = true then (s, Hist.says (u : Nat)) else if Hist.isForebear s.book u v = true then (s.move b (some v), Hist.says (v : Nat)) else
      let o := match Hist.nearest s.book u v with
        | [] => []
        | x :: _ => Hist.docOf s.book x
      s.joined b [u, v] (Hist.merge o (Hist.docOf s.book u) (Hist.docOf s.book v))
def spMerge (CH : Addr) (CV : Par) (CR : Addr) : Sp := fun vs H Q E => ∃ (a av ab : Addr) (s : Hist.State) (b u v : Nat), vs = [.ref a, .int (b : Int), .int (u : Int), .int (v : Int)] ∧ HistAt CH CV H a av ab s ∧ b < 8 ∧ u < s.book.length ∧ v < s.book.length ∧ Outc CH CV CR H a av ab Q E (mergeStep s b u v)
abbrev sMerge : Stmt := top 60
theorem scMerge : FnScope ["history", "branch", "here", "number", "some", "base", "document"] ["history", "branch", "here", "number"] (defScope sMerge) := ⟨rfl, rfl, rfl, by decide +kernel, rfl, by decide +kernel, by decide +kernel⟩
theorem ok_merge {f : Addr} {fd : FuncData} (F : Fun K "merge" "merge" sMerge f fd) (T : HisT K CH) (GI : HasM P w K mg base CX0 1 CH "is_forebear" ["self", "one", "other"] (spIsF CH CV)) (GN : HasM P w K mg base CX0 2 CH "nearest" ["self", "one", "other"] (spNearest CH CV)) (GD : HasM P w K mg base CX0 1 CH "document_of" ["self", "number"] (spDocOf CH CV))
    (GM : Has P w K mg base (L2.CX P w) 6 "merged_document" ["o", "a", "b"] (spMergedDoc CR)) (GP : Has P w K mg base (L2.CX P w) 7 "put_merged" ["history", "branch", "document", "parents"] (spPutMerged CH CV CR)) : FnOk P w K mg base (L2.CX P w) 8 f fd ["history", "branch", "here", "number"] (spMerge CH CV CR) := by
  obtain ⟨fI, fdI, GI, MI, bI⟩ := GI
  obtain ⟨fN, fdN, GN, MN, bN⟩ := GN
  obtain ⟨fD, fdD, GD, MD, bD⟩ := GD
  obtain ⟨fM, fdM, GM, mM, kM, bM⟩ := GM
  obtain ⟨fP, fdP, GP, mP, kP, bP⟩ := GP
  refine F.okX scMerge (fun vs H Q E h => ?_) (fun cdv A outer s H vs Q E hr h => ?_)
  · obtain ⟨a, av, ab, st, b, u, v, rfl, _⟩ := h
    rfl
  · have nd := scMerge.nd
    have hr1 : Room 1 _ := hr.mono (by decide)
    have hr2 : Room 2 _ := hr.mono (by decide)
    have hr6 : Room 6 _ := hr.mono (by decide)
    refine ⟨_, pss_cons (ps_if (pt_val (pe_meth (pv 0) T.cl MI GI hr1 bI .nil pass0 (pa_cons (pv 3) (pa_cons (pv 2) pa_nil)))) (pss_one (ps_ret (pe_lst (pa_cons (pv 2) pa_nil)))) pss_nil)
      (pss_cons (ps_if (pt_val (pe_meth (pv 0) T.cl MI GI hr1 bI .nil pass0 (pa_cons (pv 2) (pa_cons (pv 3) pa_nil))))
        (pss_cons (ps_asg (pv 3) (pg_sub (pe_fld (pv 0) rfl) (pv 1) set_list)) (pss_one (ps_ret (pe_lst (pa_cons (pv 3) pa_nil))))) pss_nil)
      (pss_cons (ps_set (i := 4) nd rfl (.inl rfl) (pe_meth (pv 0) T.cl MN GN hr2 bN .nil pass0 (pa_cons (pv 2) (pa_cons (pv 3) pa_nil))))
      (pss_cons (ps_set (i := 5) nd rfl (.inl rfl) (pe_ifExp (pt_cmpR (op_neD hr.units) (pv 4) (pe_lst pa_nil) (nomark _)) (pe_meth (pv 0) T.cl MD GD hr1 bD .nil pass0 (pa_cons (pe_ix ix_list (pv 4) pe_int (fun _ _ => rfl)) pa_nil)) (pe_lst pa_nil)))
      (pss_cons (ps_set (i := 6) nd rfl (.inl rfl) (pe_call GM hr6 (by rfl) mM kM bM .nil (passes_call (takes_of rfl rfl rfl rfl) (fun _ _ _ _ h => h)) (pa_cons (pv 5) (pa_cons (pe_meth (pv 0) T.cl MD GD hr1 bD .nil pass0 (pa_cons (pv 2) pa_nil)) (pa_cons (pe_meth (pv 0) T.cl MD GD hr1 bD .nil pass0 (pa_cons (pv 3) pa_nil)) pa_nil)))))
      (pss_one (ps_ret (pe_call GP hr (by rfl) mP kP bP .nil (passes_call (takes_of rfl rfl rfl rfl) (fun _ _ _ _ h => h)) (pa_cons (pv 0) (pa_cons (pv 1) (pa_cons (pv 6) (pa_cons (pe_lst (pa_cons (pv 2) (pa_cons (pv 3) pa_nil))) pa_nil)))))))))))  , ?_⟩
    obtain ⟨a, av, ab, st, b, u, v, rfl, hi, hb, hu, hv, o⟩ := h
    obtain ⟨dx, h1⟩ := id hi.inst
    refine ⟨_, rfl, a, dx, _, rfl, h1, lkHno (by decide +kernel) (by decide +kernel), _, rfl, _, rfl, a, av, ab, st, v, u, rfl, hi, hu, _, rfl, iteB (fun e => ?_) (fun e => ?_)⟩
    · have em : mergeStep st b u v = (st, Hist.says (u : Nat)) := by unfold mergeStep; rw [if_pos e]
      rw [em] at o
      refine ⟨_, rfl, (by show 1 ≤ sizeLine; decide), fun p hp => ?_⟩
      exact o.1 _ p (wo_mono (same_new hp)) (hi.mono (same_new hp)) hp (by rw [upd_same]; rfl)
    refine ⟨_, rfl, a, dx, _, rfl, h1, lkHno (by decide +kernel) (by decide +kernel), _, rfl, _, rfl, a, av, ab, st, u, v, rfl, hi, hv, _, rfl, iteB (fun e2 => ?_) (fun e2 => ?_)⟩
    · have em : mergeStep st b u v = (st.move b (some v), Hist.says (v : Nat)) := by unfold mergeStep; rw [if_neg (by rw [e]; decide), if_pos e2]
      rw [em] at o
      refine ⟨_, rfl, _, rfl, a, CH, dx, _, _, rfl, h1, T.cl, T.nB, lkHb, _, rfl, ab, _, _, b, rfl, rfl, hi.brs, ?_, ?_⟩
      · unfold ixN
        rw [List.length_map, hi.wf.heads, if_pos (by omega), if_pos (by omega)]
        rfl
      · have hi2 := hi.move (k := b) (o := some v) (fun n e => by cases e; exact hv)
        refine ⟨_, rfl, (by show 1 ≤ sizeLine; decide), fun p hp => ?_⟩
        have s2 : Same (upd H ab (.lst ((st.heads.map headV).set b (headV (some v))))) (upd (upd H ab (.lst ((st.heads.map headV).set b (headV (some v))))) p (.lst [V.int (v : Int)])) := same_new hp
        refine o.1 _ p (fun c u z => wo_mono s2 _ _ (by rw [wo_store]; exact z)) (hi2.mono s2) ?_ (by rw [upd_same]; rfl)
        exact free_wo (H2 := upd H ab (.lst ((st.heads.map headV).set b (headV (some v))))) (fun c u z => by rw [wo_store]; exact z) hi2 hp
    · refine ⟨_, rfl, a, dx, _, rfl, h1, lkHno (by decide +kernel) (by decide +kernel), _, rfl, _, rfl, a, av, ab, st, u, v, rfl, hi, hu, hv, fun H1 q s1 hq hq1 => ?_⟩
      have em : ∀ O : Doc, (match Hist.nearest st.book u v with | [] => [] | x :: _ => Hist.docOf st.book x) = O → mergeStep st b u v = st.joined b [u, v] (Hist.merge O (Hist.docOf st.book u) (Hist.docOf st.book v)) := fun O eO => by
        unfold mergeStep
        rw [if_neg (by rw [e]; decide), if_neg (by rw [e2]; decide), ← eO]
      have go : ∀ (H2 : Hp) (pb : Addr) (O : Doc), Same H H2 → DcAt (wo CV.x av ab H2) pb O → O.length ≤ 64 → (match Hist.nearest st.book u v with | [] => [] | x :: _ => Hist.docOf st.book x) = O →
          tSeq (tAsg (tCall (spMergedDoc CR) [] E (tCons (tVar 5) (tCons (tMeth CH "document_of" (spDocOf CH CV) [] E0 (tVar 0) (tCons (tVar 2) tNil)) (tCons (tMeth CH "document_of" (spDocOf CH CV) [] E0 (tVar 0) (tCons (tVar 3) tNil)) tNil)))) (gName 6))
            (tRet (tCall (spPutMerged CH CV CR) [] E (tCons (tVar 0) (tCons (tVar 1) (tCons (tVar 6) (tCons (tLst (tCons (tVar 2) (tCons (tVar 3) tNil))) tNil))))))
            { nx := fun _ H' => Q .non H', rt := Q } [some (.ref a), some (.int (b : Int)), some (.int (u : Int)), some (.int (v : Int)), some (.ref q), some (.ref pb), none] H2 := by
        intro H2 pb O s2 hpb hO64 eO
        have hi2 := hi.mono s2
        obtain ⟨dx2, h12⟩ := id hi2.inst
        rw [em O eO] at o
        have o2 := o.later s2
        refine ⟨_, rfl, _, rfl, a, dx2, _, rfl, h12, lkHno (by decide +kernel) (by decide +kernel), _, rfl, a, av, ab, st, u, rfl, hi2, hu, fun pu hpu => ?_⟩
        refine ⟨_, rfl, a, dx2, _, rfl, h12, lkHno (by decide +kernel) (by decide +kernel), _, rfl, a, av, ab, st, v, rfl, hi2, hv, fun pw hpw => ?_⟩
        refine ⟨pb, pu, pw, O, _, _, wo CV.x av ab H2, rfl, wo_sub, hpb, hpu, hpw, hO64, fits_len (hi.wf.fits hu), fits_len (hi.wf.fits hv), fun d ed H3 p ls s3 hp hp3 hls => ?_, fun l el => ?_⟩
        · have ej : st.joined b [u, v] (Hist.merge O (Hist.docOf st.book u) (Hist.docOf st.book v)) = st.grow b [u, v] d := by
            unfold Hist.State.joined
            rw [ed]
          rw [ej] at o2
          have hi3 := hi2.mono s3
          obtain ⟨vs, h3, _⟩ := id hi2.vers
          refine ⟨_, rfl, _, rfl, _, rfl, _, rfl, _, rfl, (by show 2 ≤ sizeLine; decide), fun l hl => ?_⟩
          have s4 : Same H3 (upd H3 l (.lst [V.int (u : Int), V.int (v : Int)])) := same_new hl
          have hl2 : H2 l = none := s3.free hl
          refine ⟨a, p, l, av, ab, st, b, d, [u, v], rfl, hi3.mono s4, hb, ⟨ls, wo_mono s4 _ _ (wo_at hp3 (new_ne hp h3) (new_ne hp hi2.brs) (new_ne hp hi2.ext)), lns_mono (wo_mono (s3.trans s4)) hls⟩, wo_at upd_same (new_ne hl2 h3) (new_ne hl2 hi2.brs) (new_ne hl2 hi2.ext), (by show 2 ≤ 2; decide), fun x hx => ?_, (o2.later s3).later s4⟩
          rcases List.mem_cons.mp hx with z | hx
          · rw [z]; exact hu
          · rw [List.mem_singleton.mp hx]; exact hv
        · have ej : st.joined b [u, v] (Hist.merge O (Hist.docOf st.book u) (Hist.docOf st.book v)) = (st, ⟨-3, [l.flatMap Hist.Part.nums]⟩) := by
            unfold Hist.State.joined
            rw [el]
          rw [ej] at o2
          exact o2.refL hi2 rfl
      have hi1 := hi.mono s1
      obtain ⟨dx1, h11⟩ := id hi1.inst
      refine ⟨_, rfl, Nat.zero_le _, fun e0 he0 => ?_⟩
      have s2 : Same H1 (upd H1 e0 (.lst [])) := same_new he0
      refine ⟨_, _, dp_line (show LnAt _ q _ from s2 _ _ hq1), dp_line (l := []) (show LnAt _ e0 [] from upd_same), shaped_line _, shaped_line _, _, rfl, ?_⟩
      rw [eqv_line]
      have s12 := s1.trans s2
      have hi2 := hi.mono s12
      obtain ⟨dx2, h12⟩ := id hi2.inst
      refine iteB (fun hb' => ?_) (fun hb' => ?_)
      · rw [Bool.not_eq_true', decide_eq_false_iff_not] at hb'
        cases en : Hist.nearest st.book u v with
        | nil => exact absurd en hb'
        | cons x r =>
          have hx : x < st.book.length := nearest_lt (h := st.book) (u := u) (v := v) (by rw [en]; exact List.mem_cons_self)
          refine ⟨_, rfl, a, dx2, _, rfl, h12, lkHno (by decide +kernel) (by decide +kernel), _, rfl, q, _, _, _, rfl, rfl, SqL.of (s2 _ _ hq1), at_of (j := 0) rfl (nums_at (by rw [en]; rfl)), ?_⟩
          refine ⟨a, av, ab, st, x, rfl, hi2, hx, fun pb hpb => ?_⟩
          exact go _ pb _ s12 hpb (fits_len (hi.wf.fits hx)) (by rw [en])
      · rw [Bool.not_eq_false', decide_eq_true_eq] at hb'
        refine ⟨Nat.zero_le _, fun pb hpb => ?_⟩
        have s3 : Same (upd H1 e0 (.lst [])) (upd (upd H1 e0 (.lst [])) pb (.lst [])) := same_new hpb
        obtain ⟨vs, h3, _⟩ := id hi2.vers
        exact go _ pb [] (s12.trans s3) ⟨[], wo_at upd_same (new_ne hpb h3) (new_ne hpb hi2.brs) (new_ne hpb hi2.ext), .nil⟩ (Nat.zero_le _) (by rw [hb'])
end
end Wb
namespace Wb
open PySem PySem.Spec PyProof.Rows L2

structure KindT (mg : Str → Option Value) : Prop where
  commit : ∃ t, mg "COMMIT" = some (.int 0 t)
  branch : ∃ t, mg "BRANCH" = some (.int 1 t)
  drop : ∃ t, mg "DROP" = some (.int 2 t)
  head : ∃ t, mg "HEAD" = some (.int 3 t)
  doc : ∃ t, mg "DOC" = some (.int 4 t)
  parents : ∃ t, mg "PARENTS" = some (.int 5 t)
  log : ∃ t, mg "LOG" = some (.int 6 t)
  common : ∃ t, mg "COMMON" = some (.int 7 t)
  way : ∃ t, mg "WAY" = some (.int 8 t)
  merge : ∃ t, mg "MERGE" = some (.int 9 t)
  pick : ∃ t, mg "PICK" = some (.int 10 t)
  undo : ∃ t, mg "UNDO" = some (.int 11 t)
  try_ : ∃ t, mg "TRY" = some (.int 12 t)
  origins : ∃ t, mg "ORIGINS" = some (.int 13 t)

def kindCall (k b v : Nat) : Hist.Call := if k = 9 then .merge b v else if k = 10 then .pick b v else .undo b v
def spOfBranch (CH : Addr) (CV : Par) (CR : Addr) : Sp := fun vs H Q E => ∃ (a pn av ab : Addr) (s : Hist.State) (k b v : Nat), vs = [.ref a, .int (k : Int), .ref pn] ∧ HistAt CH CV H a av ab s ∧ LnAt H pn [b, v] ∧ Outc CH CV CR H a av ab Q E (Hist.step s (kindCall k b v))
abbrev sOfBranch : Stmt := top 61
theorem int_dec (i j : Nat) : decide (V.int (i : Int) = V.int (j : Int)) = decide (i = j) := by
  by_cases c : i = j
  · rw [decide_eq_true c, c]
    exact decide_eq_true rfl
  · rw [decide_eq_false c]
    exact decide_eq_false fun z => c (by have := V.int.inj z; omega)
section
variable {P : Program} {w : World} {K : PySem.W.Frag} {mg : Str → Option Value} {base : Heap} {CH : Addr} {CV : Par} {CR fI CM : Addr}
theorem scOfBranch : FnScope ["history", "kind", "numbers", "branch", "number", "here", "before", "behind", "document"] ["history", "kind", "numbers"] (defScope sOfBranch) := ⟨rfl, rfl, rfl, by decide +kernel, rfl, by decide +kernel, by decide +kernel⟩
theorem ok_ofBranch {f : Addr} {fd : FuncData} (F : Fun K "of_branch" "of_branch" sOfBranch f fd) (K0 : KindT mg) (T : HisT K CH) (GA : Has P w K mg base (L2.CX P w) 2 "ask_branch" ["branch"] (spAskB CR)) (GV : Has P w K mg base (L2.CX P w) 2 "ask_version" ["history", "number"] (spAskV CH CV CR)) (GH : Has P w K mg base (L2.CX P w) 2 "head_of" ["history", "branch"] (spHeadOf CH CV CR))
    (GG : Has P w K mg base (L2.CX P w) 8 "merge" ["history", "branch", "here", "number"] (spMerge CH CV CR)) (GF : HasM P w K mg base CX0 2 CH "first_parent" ["self", "number"] (spFirst CH CV)) (GD : HasM P w K mg base CX0 1 CH "document_of" ["self", "number"] (spDocOf CH CV))
    (GM : Has P w K mg base (L2.CX P w) 6 "merged_document" ["o", "a", "b"] (spMergedDoc CR)) (GP : Has P w K mg base (L2.CX P w) 7 "put_merged" ["history", "branch", "document", "parents"] (spPutMerged CH CV CR)) : FnOk P w K mg base (L2.CX P w) 9 f fd ["history", "kind", "numbers"] (spOfBranch CH CV CR) := by
  obtain ⟨fA, fdA, GA, mA, kA, bA⟩ := GA
  obtain ⟨fV, fdV, GV, mV, kV, bV⟩ := GV
  obtain ⟨fH, fdH, GH, mH, kH, bH⟩ := GH
  obtain ⟨fG, fdG, GG, mG, kG, bG⟩ := GG
  obtain ⟨fF, fdF, GF, MF, bF⟩ := GF
  obtain ⟨fD, fdD, GD, MD, bD⟩ := GD
  obtain ⟨fM, fdM, GM, mM, kM, bM⟩ := GM
  obtain ⟨fP, fdP, GP, mP, kP, bP⟩ := GP
  refine F.okX scOfBranch (fun vs H Q E h => ?_) (fun cdv A outer s H vs Q E hr h => ?_)
  · obtain ⟨a, pn, av, ab, st, k, b, v, rfl, _⟩ := h
    rfl
  · have nd := scOfBranch.nd
    have hr1 : Room 1 _ := hr.mono (by decide)
    have hr2 : Room 2 _ := hr.mono (by decide)
    have hr6 : Room 6 _ := hr.mono (by decide)
    have hr7 : Room 7 _ := hr.mono (by decide)
    refine ⟨_, pss_cons (ps_asg (pv 2) (pg_unl rfl (pgs_cons (pg_name (i := 3) nd rfl (.inl rfl)) (pgs_cons (pg_name (i := 4) nd rfl (.inl rfl)) pgs_nil))))
      (pss_cons (ps_expr (pe_call GA hr2 (by rfl) mA kA bA .nil (passes_call (takes_of rfl rfl rfl rfl) (fun _ _ _ _ h => h)) (pa_cons (pv 3) pa_nil)))
      (pss_cons (ps_expr (pe_call GV hr2 (by rfl) mV kV bV .nil (passes_call (takes_of rfl rfl rfl rfl) (fun _ _ _ _ h => h)) (pa_cons (pv 0) (pa_cons (pv 4) pa_nil))))
      (pss_cons (ps_set (i := 5) nd rfl (.inl rfl) (pe_call GH hr2 (by rfl) mH kH bH .nil (passes_call (takes_of rfl rfl rfl rfl) (fun _ _ _ _ h => h)) (pa_cons (pv 0) (pa_cons (pv 3) pa_nil))))
      (pss_cons (ps_if (pt_cmpR op_eq (pv 1) (pe_gi (by rfl) K0.merge) (nomark _)) (pss_one (ps_ret (pe_call GG hr (by rfl) mG kG bG .nil (passes_call (takes_of rfl rfl rfl rfl) (fun _ _ _ _ h => h)) (pa_cons (pv 0) (pa_cons (pv 3) (pa_cons (pv 5) (pa_cons (pv 4) pa_nil))))))) pss_nil)
      (pss_cons (ps_set (i := 6) nd rfl (.inl rfl) (pe_meth (pv 0) T.cl MF GF hr2 bF .nil pass0 (pa_cons (pv 4) pa_nil)))
      (pss_cons (ps_set (i := 7) nd rfl (.inl rfl) (pe_meth (pv 0) T.cl MD GD hr1 bD .nil pass0 (pa_cons (pv 4) pa_nil)))
      (pss_cons (ps_if (pt_cmpR op_eq (pv 1) (pe_gi (by rfl) K0.pick) (nomark _))
        (pss_one (ps_set (i := 8) nd rfl (.inl rfl) (pe_call GM hr6 (by rfl) mM kM bM .nil (passes_call (takes_of rfl rfl rfl rfl) (fun _ _ _ _ h => h)) (pa_cons (pv 6) (pa_cons (pe_meth (pv 0) T.cl MD GD hr1 bD .nil pass0 (pa_cons (pv 5) pa_nil)) (pa_cons (pv 7) pa_nil))))))
        (pss_one (ps_set (i := 8) nd rfl (.inl rfl) (pe_call GM hr6 (by rfl) mM kM bM .nil (passes_call (takes_of rfl rfl rfl rfl) (fun _ _ _ _ h => h)) (pa_cons (pv 7) (pa_cons (pe_meth (pv 0) T.cl MD GD hr1 bD .nil pass0 (pa_cons (pv 5) pa_nil)) (pa_cons (pv 6) pa_nil)))))))
      (pss_one (ps_ret (pe_call GP hr7 (by rfl) mP kP bP .nil (passes_call (takes_of rfl rfl rfl rfl) (fun _ _ _ _ h => h)) (pa_cons (pv 0) (pa_cons (pv 3) (pa_cons (pv 8) (pa_cons (pe_lst (pa_cons (pv 5) pa_nil)) pa_nil))))))))))))))  , ?_⟩
    obtain ⟨a, pn, av, ab, st, k, b, v, rfl, hi, hpn, o⟩ := h
    obtain ⟨dx, h1⟩ := id hi.inst
    refine ⟨_, rfl, pn, nums [b, v], rfl, SqL.of hpn, rfl, _, _, rfl, _, _, rfl, rfl, ?_⟩
    have estep : ∃ f : Nat → Hist.State × Hist.Answer, Hist.step st (kindCall k b v) = Hist.atBranch st b v f ∧ (k = 9 → ∀ u, f u = mergeStep st b u v) ∧ (k = 10 → ∀ u, f u = st.joined b [u] (Hist.merge (Hist.beforeOf st.book v) (Hist.docOf st.book u) (Hist.docOf st.book v))) ∧
        (k ≠ 9 → k ≠ 10 → ∀ u, f u = st.joined b [u] (Hist.merge (Hist.docOf st.book v) (Hist.docOf st.book u) (Hist.beforeOf st.book v))) := by
      unfold kindCall
      by_cases c9 : k = 9
      · rw [if_pos c9]
        exact ⟨_, rfl, fun _ u => rfl, fun z => absurd z (by omega), fun z => absurd c9 z⟩
      · rw [if_neg c9]
        by_cases c10 : k = 10
        · rw [if_pos c10]
          exact ⟨_, rfl, fun z => absurd z c9, fun _ u => rfl, fun _ z => absurd c10 z⟩
        · rw [if_neg c10]
          exact ⟨_, rfl, fun z => absurd z c9, fun z => absurd z c10, fun _ _ u => rfl⟩
    obtain ⟨f0, es, e9, e10, e11⟩ := estep
    rw [es] at o
    refine ⟨_, rfl, b, rfl, fun hb => ?_, fun hb => ?_⟩
    · have ea : Hist.atBranch st b v f0 = match st.head b with
          | none => (st, Hist.says (-4))
          | some u => if st.has v = false then (st, Hist.says (-4)) else f0 u := by
        unfold Hist.atBranch
        rw [if_neg (by rw [isBranch_t hb]; decide)]
        rfl
      rw [ea] at o
      refine ⟨_, rfl, _, rfl, a, av, ab, st, v, rfl, hi, fun hv => ?_, fun hv => ?_⟩
      · refine ⟨_, rfl, _, rfl, a, av, ab, st, b, rfl, hi, hb, fun u eu => ?_, fun eu => ?_⟩
        · rw [eu] at o
          have o' : Outc CH CV CR H a av ab Q E (f0 u) := by
            have e0 : (if st.has v = false then (st, Hist.says (-4)) else f0 u) = f0 u := if_neg (by rw [has_t hv]; decide)
            rw [← e0]
            exact o
          have hu : u < st.book.length := hi.wf.at_ b u (by rw [head_at hi.wf hb, eu])
          refine ⟨_, rfl, rfl, _, rfl, iteB (fun ek => ?_) (fun ek => ?_)⟩
          · have ek' : k = 9 := by have := V.int.inj (of_decide_eq_true ek); omega
            rw [e9 ek' u] at o'
            exact ⟨_, rfl, _, rfl, _, rfl, _, rfl, a, av, ab, st, b, u, v, rfl, hi, hb, hu, hv, o'⟩
          · have ek' : k ≠ 9 := fun z => of_decide_eq_false ek (by rw [z]; rfl)
            refine ⟨_, rfl, a, dx, _, rfl, h1, lkHno (by decide +kernel) (by decide +kernel), _, rfl, a, av, ab, st, v, rfl, hi, hv, fun H1 pbf s1 hbf => ?_⟩
            have hi1 := hi.mono s1
            obtain ⟨dx1, h11⟩ := id hi1.inst
            refine ⟨_, rfl, a, dx1, _, rfl, h11, lkHno (by decide +kernel) (by decide +kernel), _, rfl, a, av, ab, st, v, rfl, hi1, hv, fun pbh hbh => ?_⟩
            have o1 := o'.later s1
            have hbf64 : (Hist.beforeOf st.book v).length ≤ 64 := by
              unfold Hist.beforeOf
              cases ep : Hist.parentsOf st.book v with
              | nil => exact Nat.zero_le _
              | cons x r => exact fits_len (hi.wf.fits (Nat.lt_trans (hi.wf.low v x (by rw [ep]; exact List.mem_cons_self)) hv))
            have fin : ∀ (O B : Doc) (pz : V), Outc CH CV CR H1 a av ab Q E (st.joined b [u] (Hist.merge O (Hist.docOf st.book u) B)) → ∀ (d : Doc), Hist.merge O (Hist.docOf st.book u) B = .ok d → ∀ (H3 : Hp) (p : Addr) (ls : List Addr), Same H1 H3 → H1 p = none → H3 p = some (.lst (refs ls)) → LnsAt (wo CV.x av ab H1) ls d →
                tRet (tCall (spPutMerged CH CV CR) [] E (tCons (tVar 0) (tCons (tVar 3) (tCons (tVar 8) (tCons (tLst (tCons (tVar 5) tNil)) tNil)))))
                  { nx := fun _ H' => Q .non H', rt := Q } [some (.ref a), some (.int (k : Int)), some (.ref pn), some (.int (b : Int)), some (.int (v : Int)), some (.int (u : Int)), some (.ref pbf), some (.ref pbh), some (.ref p)] H3 := by
              intro O B pz oj d ed H3 p ls s3 hp hp3 hls
              have ej : st.joined b [u] (Hist.merge O (Hist.docOf st.book u) B) = st.grow b [u] d := by
                unfold Hist.State.joined
                rw [ed]
              rw [ej] at oj
              have hi3 := hi1.mono s3
              obtain ⟨vs, h3, _⟩ := id hi1.vers
              refine ⟨_, rfl, _, rfl, _, rfl, _, rfl, (by show 1 ≤ sizeLine; decide), fun l hl => ?_⟩
              have s4 : Same H3 (upd H3 l (.lst [V.int (u : Int)])) := same_new hl
              have hl1 : H1 l = none := s3.free hl
              refine ⟨a, p, l, av, ab, st, b, d, [u], rfl, hi3.mono s4, hb, ⟨ls, wo_mono s4 _ _ (wo_at hp3 (new_ne hp h3) (new_ne hp hi1.brs) (new_ne hp hi1.ext)), lns_mono (wo_mono (s3.trans s4)) hls⟩, wo_at upd_same (new_ne hl1 h3) (new_ne hl1 hi1.brs) (new_ne hl1 hi1.ext), (by show 1 ≤ 2; decide), fun x hx => ?_, (oj.later s3).later s4⟩
              rw [List.mem_singleton.mp hx]
              exact hu
            have bad : ∀ (O B : Doc), Outc CH CV CR H1 a av ab Q E (st.joined b [u] (Hist.merge O (Hist.docOf st.book u) B)) → ∀ l, Hist.merge O (Hist.docOf st.book u) B = .error l → RefW CR H1 E (HistNeutral.shown ⟨-3, [l.flatMap Hist.Part.nums]⟩) := by
              intro O B oj l el
              have ej : st.joined b [u] (Hist.merge O (Hist.docOf st.book u) B) = (st, ⟨-3, [l.flatMap Hist.Part.nums]⟩) := by
                unfold Hist.State.joined
                rw [el]
              rw [ej] at oj
              exact oj.refL hi1 rfl
            refine ⟨_, rfl, rfl, _, rfl, iteB (fun e => ?_) (fun e => ?_)⟩
            · have ek10 : k = 10 := by have := V.int.inj (of_decide_eq_true e); omega
              rw [e10 ek10 u] at o1
              refine ⟨_, rfl, _, rfl, a, dx1, _, rfl, h11, lkHno (by decide +kernel) (by decide +kernel), _, rfl, a, av, ab, st, u, rfl, hi1, hu, fun pu hpu => ?_⟩
              exact ⟨_, rfl, pbf, pu, pbh, _, _, _, wo CV.x av ab H1, rfl, wo_sub, hbf, hpu, hbh, hbf64, fits_len (hi.wf.fits hu), fits_len (hi.wf.fits hv), fin _ _ .non o1, bad _ _ o1⟩
            · have ek10 : k ≠ 10 := fun z => of_decide_eq_false e (by rw [z]; rfl)
              rw [e11 ek' ek10 u] at o1
              refine ⟨_, rfl, _, rfl, a, dx1, _, rfl, h11, lkHno (by decide +kernel) (by decide +kernel), _, rfl, a, av, ab, st, u, rfl, hi1, hu, fun pu hpu => ?_⟩
              exact ⟨_, rfl, pbh, pu, pbf, _, _, _, wo CV.x av ab H1, rfl, wo_sub, hbh, hpu, hbf, fits_len (hi.wf.fits hv), fits_len (hi.wf.fits hu), hbf64, fin _ _ .non o1, bad _ _ o1⟩
        · rw [eu] at o
          exact o.ref hi
      · cases eu : st.head b with
        | none =>
          rw [eu] at o
          exact o.ref hi
        | some u =>
          rw [eu] at o
          have e0 : (if st.has v = false then (st, Hist.says (-4)) else f0 u) = (st, Hist.says (-4)) := if_pos (has_f hv)
          have o' : Outc CH CV CR H a av ab Q E (st, Hist.says (-4)) := by
            rw [← e0]
            exact o
          exact o'.ref hi
    · have ea : Hist.atBranch st b v f0 = (st, Hist.says (-1)) := by
        unfold Hist.atBranch
        rw [if_pos (isBranch_f hb)]
      rw [ea] at o
      exact o.ref hi
end
end Wb
namespace Wb
open PySem PySem.Spec PyProof.Rows L2

def verCall (k v : Nat) : Hist.Call := if k = 4 then .doc v else if k = 5 then .parents v else if k = 6 then .log v else .origins v
def spOfVersion (CH : Addr) (CV : Par) (CR : Addr) : Sp := fun vs H Q E => ∃ (a av ab : Addr) (s : Hist.State) (k v : Nat), vs = [.ref a, .int (k : Int), .int (v : Int)] ∧ HistAt CH CV H a av ab s ∧ Outc CH CV CR H a av ab Q E (Hist.step s (verCall k v))
abbrev sOfVersion : Stmt := top 55
section
variable {P : Program} {w : World} {K : PySem.W.Frag} {mg : Str → Option Value} {base : Heap} {CH : Addr} {CV : Par} {CR fI CM : Addr}
theorem scOfVersion : FnScope ["history", "kind", "number", "version"] ["history", "kind", "number"] (defScope sOfVersion) := ⟨rfl, rfl, rfl, by decide +kernel, rfl, by decide +kernel, by decide +kernel⟩
theorem ok_ofVersion {f : Addr} {fd : FuncData} (F : Fun K "of_version" "of_version" sOfVersion f fd) (B0 : BltT mg) (K0 : KindT mg) (T : HisT K CH) (TV : VerT K CV) (GV : Has P w K mg base (L2.CX P w) 2 "ask_version" ["history", "number"] (spAskV CH CV CR)) (GL : Has P w K mg base CX0 2 "lines_told" ["lines"] spLinesTold) (GC : Has P w K mg base CX0 2 "counted" ["numbers"] spCounted) :
    FnOk P w K mg base (L2.CX P w) 3 f fd ["history", "kind", "number"] (spOfVersion CH CV CR) := by
  obtain ⟨fV, fdV, GV, mV, kV, bV⟩ := GV
  obtain ⟨fL, fdL, GL, mL, kL, bL⟩ := GL
  obtain ⟨fC, fdC, GC, mC, kC, bC⟩ := GC
  refine F.okX scOfVersion (fun vs H Q E h => ?_) (fun cdv A outer s H vs Q E hr h => ?_)
  · obtain ⟨a, av, ab, st, k, v, rfl, _⟩ := h
    rfl
  · have nd := scOfVersion.nd
    refine ⟨_, pss_cons (ps_expr (pe_call GV hr (by rfl) mV kV bV .nil (passes_call (takes_of rfl rfl rfl rfl) (fun _ _ _ _ h => h)) (pa_cons (pv 0) (pa_cons (pv 2) pa_nil))))
      (pss_cons (ps_set (i := 3) nd rfl (.inl rfl) (pe_ix ix_list (pe_fld (pv 0) rfl) (pv 2) (fun _ _ => rfl)))
      (pss_cons (ps_if (pt_cmpR op_eq (pv 1) (pe_gi (by rfl) K0.doc) (nomark _)) (pss_one (ps_ret (pe_op op_cat (pe_lst (pa_cons (pe_callB call_len_seq (by rfl) B0.len boot_len (pa_cons (pe_fld (pv 3) rfl) pa_nil)) pa_nil)) (pe_call GL hr (by rfl) mL kL bL .nil pass0 (pa_cons (pe_fld (pv 3) rfl) pa_nil))))) pss_nil)
      (pss_cons (ps_if (pt_cmpR op_eq (pv 1) (pe_gi (by rfl) K0.parents) (nomark _)) (pss_one (ps_ret (pe_call GC hr (by rfl) mC kC bC .nil pass0 (pa_cons (pe_fld (pv 3) rfl) pa_nil)))) pss_nil)
      (pss_cons (ps_if (pt_cmpR op_eq (pv 1) (pe_gi (by rfl) K0.log) (nomark _)) (pss_one (ps_ret (pe_call GC hr (by rfl) mC kC bC .nil pass0 (pa_cons (RT.pe_listRev rfl (by rfl) B0.list (by rfl) B0.reversed (by decide +kernel) (pe_fld (pv 3) rfl)) pa_nil)))) pss_nil)
      (pss_one (ps_ret (pe_call GC hr (by rfl) mC kC bC .nil pass0 (pa_cons (pe_fld (pv 3) rfl) pa_nil)))))))) , ?_⟩
    obtain ⟨a, av, ab, st, k, v, rfl, hi, o⟩ := h
    obtain ⟨dx, h1⟩ := id hi.inst
    obtain ⟨vs, h3, h4, h5⟩ := id hi.vers
    refine ⟨_, rfl, _, rfl, a, av, ab, st, v, rfl, hi, fun hv => ?_, fun hv => ?_⟩
    · have gv : vs[v]? = some vs[v] := List.getElem?_eq_getElem (by omega)
      obtain ⟨dy, pd, pp, pf, po, v1, v2, v3, v4, v5⟩ := h5 _ _ gv
      have w1 := wo_sub _ _ v1
      have nh : ¬ st.has v = false := by rw [has_t hv]; decide
      have wfd := hi.wf.fits hv
      refine ⟨_, rfl, a, CH, dx, _, _, rfl, h1, T.cl, T.nV, lkHv, _, rfl, av, _, _, _, rfl, rfl, SqL.of h3, atI_nat (refs_at gv), ?_⟩
      refine ⟨_, rfl, rfl, _, rfl, iteB (fun e => ?_) (fun e => ?_)⟩
      · -- doc
        have ek : k = 4 := by have := V.int.inj (of_decide_eq_true e); omega
        have es : Hist.step st (verCall k v) = (st, ⟨((Hist.docOf st.book v).length : Nat), Hist.docOf st.book v⟩) := by
          unfold verCall
          rw [if_pos ek]
          exact if_neg nh
        rw [es] at o
        obtain ⟨ds, hds, lds⟩ := id v2
        have eds : ds.length = (Hist.docOf st.book v).length := lds.length
        refine ⟨_, rfl, vs[v], CV.c, dy, _, _, rfl, w1, TV.cl, TV.nD, lk4a, pd, _, rfl, .inl (SqL.of (wo_sub _ _ hds)), (by show 1 ≤ sizeLine; decide), fun l hl => ?_⟩
        have s1 : Same H (upd H l (.lst [V.int ((refs ds).length : Nat)])) := same_new hl
        refine ⟨_, rfl, vs[v], CV.c, dy, _, _, rfl, s1 _ _ w1, TV.cl, TV.nD, lk4a, pd, _, rfl, (v2.mono wo_sub).mono s1, fits_len wfd, fits_line wfd, fun H2 q s2 hq hq2 => ?_⟩
        have tl := toldL_len _ (fits_line wfd)
        have fl := fits_len wfd
        refine ⟨l, q, _, _, rfl, rfl, s2 _ _ upd_same, hq2, line1000 (by rw [zs_len]; show 1 + _ ≤ _; omega), fun p hp => ?_⟩
        have s3 : Same H (upd H2 p (.lst ([V.int ((refs ds).length : Nat)] ++ zs (toldL (Hist.docOf st.book v))))) := fun b u z => same_new hp _ _ (s2 _ _ (s1 _ _ z))
        refine o.1 _ p (wo_mono s3) (hi.mono s3) (s1.free (s2.free hp)) ?_
        rw [upd_same, shown_doc, refs_len, eds]
        rfl
      · have ek : k ≠ 4 := fun z => of_decide_eq_false e (by rw [z]; rfl)
        have fin : ∀ (H1 : Hp) (p : Addr) (l : List Nat), Same H H1 → H1 p = some (.lst (nums l)) → l.length ≤ 128 → Hist.step st (verCall k v) = (st, ⟨(l.length : Nat), [l]⟩) → spCounted [.ref p] H1 Q E0 := by
          intro H1 p l s1 hp hl es
          rw [es] at o
          refine ⟨p, nums l, rfl, hp, by rw [nums_len]; omega, fun H2 q s2 hq hq2 => ?_⟩
          have s12 := s1.trans s2
          refine o.1 _ q (wo_mono s12) (hi.mono s12) (s1.free hq) ?_
          rw [hq2, shown_one, nums_len, nums_zs]
          rfl
        refine ⟨_, rfl, rfl, _, rfl, iteB (fun e5 => ?_) (fun e5 => ?_)⟩
        · have ek5 : k = 5 := by have := V.int.inj (of_decide_eq_true e5); omega
          refine ⟨_, rfl, vs[v], CV.c, dy, _, _, rfl, w1, TV.cl, TV.nP, lk4b, fin H pp _ (Same.refl _) (wo_sub _ _ v3) (by have := hi.wf.par hv; omega) ?_⟩
          unfold verCall
          rw [if_neg ek, if_pos ek5]
          exact if_neg nh
        · have ek5 : k ≠ 5 := fun z => of_decide_eq_false e5 (by rw [z]; rfl)
          refine ⟨_, rfl, rfl, _, rfl, iteB (fun e6 => ?_) (fun e6 => ?_)⟩
          · have ek6 : k = 6 := by have := V.int.inj (of_decide_eq_true e6); omega
            refine ⟨_, rfl, vs[v], CV.c, dy, _, _, rfl, w1, TV.cl, TV.nF, lk4c, pf, _, rfl, SqL.of (wo_sub _ _ v4), fun r hr0 => ?_⟩
            have er : (nums (Hist.forebears st.book v).reverse).reverse = nums (Hist.forebears st.book v) := by
              unfold nums
              rw [← List.map_reverse, List.reverse_reverse]
            rw [er]
            have hfl := fb_len st.book v
            have hmany := hi.wf.many
            refine fin _ r (Hist.forebears st.book v) (same_new hr0) upd_same (by omega) ?_
            unfold verCall
            rw [if_neg ek, if_neg ek5, if_pos ek6]
            exact if_neg nh
          · have ek6 : k ≠ 6 := fun z => of_decide_eq_false e6 (by rw [z]; rfl)
            refine ⟨_, rfl, vs[v], CV.c, dy, _, _, rfl, w1, TV.cl, TV.nO, lk4d, fin H po _ (Same.refl _) (wo_sub _ _ v5) (by rw [origins_at_len st.book hi.wf.low hv]; have := fits_len wfd; omega) ?_⟩
            unfold verCall
            rw [if_neg ek, if_neg ek5, if_neg ek6]
            exact if_neg nh
    · have es : Hist.step st (verCall k v) = (st, Hist.says (-4)) := by
        unfold verCall
        by_cases c4 : k = 4
        · rw [if_pos c4]; exact if_pos (has_f hv)
        · rw [if_neg c4]
          by_cases c5 : k = 5
          · rw [if_pos c5]; exact if_pos (has_f hv)
          · rw [if_neg c5]
            by_cases c6 : k = 6
            · rw [if_pos c6]; exact if_pos (has_f hv)
            · rw [if_neg c6]; exact if_pos (has_f hv)
      rw [es] at o
      exact o.ref hi

theorem addedAt_app : ∀ (u w : List Hist.Step) (b : Doc), addedAt (u ++ w) b = addedAt u b ++ addedAt w (b.drop (cntB u))
  | [], w, b => rfl
  | .keep :: u, w, b => by
    show addedAt (u ++ w) b.tail = addedAt u b.tail ++ _
    rw [addedAt_app u w b.tail, cntB_keep, List.drop_tail]
  | .drop :: u, w, b => addedAt_app u w b
  | .add l :: u, w, b => by
    show b.headD [] :: addedAt (u ++ w) b.tail = (b.headD [] :: addedAt u b.tail) ++ _
    rw [addedAt_app u w b.tail, cntB_add, List.drop_tail]
    rfl
def spAdded : Sp := fun vs H Q _ => ∃ (ps pd : Addr) (C D : Doc), vs = [.ref ps, .ref pd] ∧ H ps = some (.lst (zs ((Hist.way C D).map nStep))) ∧ DcAt H pd D ∧ C.length ≤ 64 ∧ D.length ≤ 64 ∧
  ∀ (H' : Hp) (q : Addr) (ls : List Addr), Same H H' → H q = none → H' q = some (.lst (refs ls)) → LnsAt H ls (addedAt (Hist.way C D) D) → Q (.ref q) H'
abbrev sAdded : Stmt := top 56
theorem scAdded : FnScope ["steps", "document", "found", "at", "step"] ["steps", "document"] (defScope sAdded) := ⟨rfl, rfl, rfl, by decide +kernel, rfl, by decide +kernel, by decide +kernel⟩
theorem ok_added {f : Addr} {fd : FuncData} (F : Fun K "added_lines" "added_lines" sAdded f fd) (B0 : BltT mg) (S0 : StepT mg) : FnOk P w K mg base CX0 1 f fd ["steps", "document"] spAdded := by
  refine F.ok scAdded (fun vs H Q E h => ?_) (fun cdv A outer s H vs Q E hr h => ?_)
  · obtain ⟨ps, pd, C, D, rfl, _⟩ := h
    rfl
  · have nd := scAdded.nd
    refine ⟨_, pss_cons (ps_set (i := 2) nd rfl (.inl rfl) (pe_lst pa_nil))
      (pss_cons (ps_set (i := 3) nd rfl (.inl rfl) pe_int)
      (pss_cons (ps_for PassesOwn.never rfl (pi_list (pv 0)) (pg_name (i := 4) nd rfl (.inl rfl))
        (pss_cons (ps_if (pt_cmpR op_eq (pv 4) (pe_gi (by rfl) S0.added) (nomark _)) (pss_one (ps_expr (pe_bm PySem.F.plainAttrs_list PySem.F.slot_list_append PySem.F.type_list_append mt_append (pv 2) (pa_cons (pe_ix ix_list (pv 1) (pv 3) (fun _ _ => rfl)) pa_nil)))) pss_nil)
        (pss_one (ps_aug (i := 3) nd rfl (.inl rfl) (pe_callTy call_int1 (by rfl) B0.int boot_int (pa_cons (pe_cmpR op_in_seq (pv 4) (pe_tup (pa_cons (pe_gi (by rfl) S0.kept) (pa_cons (pe_gi (by rfl) S0.added) pa_nil))) (by rfl)) pa_nil)) ip_add))))
      (pss_one (ps_ret (pv 2))))), ?_⟩
    obtain ⟨ps, pd, C, D, rfl, hps, ⟨ds, hds, lds⟩, hC, hD, k⟩ := h
    have eds : ds.length = D.length := lds.length
    refine ⟨Nat.zero_le _, fun fnd hf => ?_⟩
    have s0 : Same H (upd H fnd (.lst [])) := same_new hf
    have hpsf : ps ≠ fnd := ne_of_none hps hf
    have kH : ∀ {H4 : Hp}, Keep fnd H H4 → Same H H4 := fun s b o e => s b o e (ne_of_none e hf)
    have lW := way_len_le C D
    refine ⟨_, rfl, ps, rfl, ⟨_, SqL.of (s0 _ _ hps)⟩, for_list (K := K) (a := ps) (xs := zs ((Hist.way C D).map nStep)) (fun i σ H' => Keep fnd H H' ∧ ∃ (v4 : Option V) (ls : List Addr), σ = [some (.ref ps), some (.ref pd), some (.ref fnd), some (.int (cntB ((Hist.way C D).take i) : Nat)), v4] ∧ H' fnd = some (.lst (refs ls)) ∧ ls.length ≤ i ∧ LnsAt H ls (addedAt ((Hist.way C D).take i) D))
      ⟨fun b o e _ => s0 b o e, none, [], rfl, upd_same, Nat.le_refl _, .nil⟩ (fun i σ H' _ ⟨s5, _⟩ => SqL.of (s5 _ _ hps hpsf)) ?_ ?_⟩
    · rintro i x σ H' hx ⟨s5, v4, ls, rfl, hfd, hll, hls⟩
      obtain ⟨z, hz, rfl⟩ := zs_of hx
      rw [List.getElem?_map] at hz
      obtain ⟨st, hst, rfl⟩ : ∃ st, (Hist.way C D)[i]? = some st ∧ nStep st = z := by
        cases e : (Hist.way C D)[i]? with
        | none => rw [e] at hz; cases hz
        | some st => rw [e] at hz; exact ⟨st, rfl, Option.some.inj hz⟩
      have hil : i < (Hist.way C D).length := (List.getElem?_eq_some_iff.mp hst).1
      have tk := take_more hst
      have e1 : addedAt ((Hist.way C D).take (i + 1)) D = addedAt ((Hist.way C D).take i) D ++ addedAt [st] (D.drop (cntB ((Hist.way C D).take i))) := by rw [tk, addedAt_app]
      have e2 : cntB ((Hist.way C D).take (i + 1)) = cntB ((Hist.way C D).take i) + cntB [st] := by rw [tk, cntB_app]
      have e3 : cntB ((Hist.way C D).take i) + cntB [st] ≤ D.length := by
        rw [← e2]
        have q := (way_cnt C D).2
        rw [← List.take_append_drop (i + 1) (Hist.way C D), cntB_app] at q
        omega
      have fin : ∀ H2 (ls2 : List Addr), Keep fnd H H2 → H2 fnd = some (.lst (refs ls2)) → ls2.length ≤ i + 1 → LnsAt H ls2 (addedAt ((Hist.way C D).take (i + 1)) D) →
          tAug 3 (tCB (fun xs H Q => (∃ i, xs = [V.int i] ∧ Q (.int i) H) ∨ ∃ k, xs = [V.bl k] ∧ Q (.int (if k = true then 1 else 0)) H) (tCons (tOp (rIn K false) (tVar 4) (tTup (tCons (tC (.int 0)) (tCons (tC (.int 2)) tNil)))) tNil)) (ipI fun i j => i + j)
            { nx := fun σ H' => Keep fnd H H' ∧ ∃ (v4 : Option V) (ls : List Addr), σ = [some (.ref ps), some (.ref pd), some (.ref fnd), some (.int (cntB ((Hist.way C D).take (i + 1)) : Nat)), v4] ∧ H' fnd = some (.lst (refs ls)) ∧ ls.length ≤ i + 1 ∧ LnsAt H ls (addedAt ((Hist.way C D).take (i + 1)) D), rt := Q }
            [some (.ref ps), some (.ref pd), some (.ref fnd), some (.int (cntB ((Hist.way C D).take i) : Nat)), some (.int (nStep st))] H2 := by
        intro H2 ls2 s6 h6 hl6 hls6
        refine ⟨_, rfl, _, rfl, (by show 2 ≤ sizeLine; decide), fun t ht => ?_⟩
        refine ⟨t, [V.int 0, V.int 2], rfl, .inr (SqT.of upd_same), rfl, rfl, .inr ⟨_, rfl, _, _, rfl, rfl, ?_⟩⟩
        refine ⟨s6.trans (same_new ht), some (.int (nStep st)), ls2, ?_, same_new ht _ _ h6, hl6, hls6⟩
        show ([_, _, _, some (V.int ((cntB ((Hist.way C D).take i) : Nat) + (if (if false = true then !inV (V.int (nStep st)) [V.int 0, V.int 2] else inV (V.int (nStep st)) [V.int 0, V.int 2]) = true then 1 else 0))), _] : L2.St) = _
        have e4 : (if (if false = true then !inV (V.int (nStep st)) [V.int 0, V.int 2] else inV (V.int (nStep st)) [V.int 0, V.int 2]) = true then (1 : Int) else 0) = (cntB [st] : Nat) := by
          cases st <;> rfl
        rw [e4, e2]
        rfl
      refine ⟨_, rfl, rfl, _, rfl, iteB (fun h2 => ?_) (fun h2 => ?_)⟩
      · have n2 : nStep st = 2 := V.int.inj (of_decide_eq_true h2)
        have ha : ∃ l, st = .add l := by
          cases st with
          | keep => exact absurd n2 (by decide)
          | drop => exact absurd n2 (by decide)
          | add l => exact ⟨l, rfl⟩
        obtain ⟨l, rfl⟩ := ha
        have hlt : cntB ((Hist.way C D).take i) < D.length := by
          have : cntB [Hist.Step.add l] = 1 := rfl
          omega
        have gd : ds[cntB ((Hist.way C D).take i)]? = some ds[cntB ((Hist.way C D).take i)] := List.getElem?_eq_getElem (by omega)
        have gD : D[cntB ((Hist.way C D).take i)]? = some D[cntB ((Hist.way C D).take i)] := List.getElem?_eq_getElem hlt
        refine ⟨_, rfl, .inl ⟨rfl, _, SqL.of hfd⟩, _, rfl, _, rfl, pd, _, _, _, rfl, rfl, SqL.of (kH s5 _ _ hds), atI_nat (refs_at gd), fnd, _, _, rfl, rfl, hfd, by rw [refs_len]; exact ltline (by omega), ?_⟩
        refine fin _ (ls ++ [ds[cntB ((Hist.way C D).take i)]]) s5.upd (by rw [upd_same, refs_app]; rfl) (by rw [List.length_append, List.length_singleton]; omega) ?_
        rw [e1]
        refine pair_app hls (.cons ?_ .nil)
        have e5 : (D.drop (cntB ((Hist.way C D).take i))).headD [] = D[cntB ((Hist.way C D).take i)] := by
          rw [List.drop_eq_getElem_cons hlt]
          rfl
        rw [e5]
        exact pair_at lds gd gD
      · have n2 : ¬ nStep st = 2 := fun e => of_decide_eq_false h2 (by rw [e])
        refine fin _ ls s5 hfd (by omega) ?_
        rw [e1]
        have e5 : addedAt [st] (D.drop (cntB ((Hist.way C D).take i))) = [] := by
          cases st with
          | keep => rfl
          | drop => rfl
          | add l => exact absurd rfl n2
        rw [e5, List.append_nil]
        exact hls
    · rintro σ H' ⟨s5, v4, ls, rfl, hfd, hll, hls⟩
      rw [zs_len, List.length_map, List.take_length] at hls
      exact ⟨_, rfl, k H' fnd ls (kH s5) hf hfd hls⟩

def twoCall (k u v : Nat) : Hist.Call := if k = 7 then .common u v else .way u v
def spOfTwo (CH : Addr) (CV : Par) (CR : Addr) : Sp := fun vs H Q E => ∃ (a pn av ab : Addr) (s : Hist.State) (k u v : Nat), vs = [.ref a, .int (k : Int), .ref pn] ∧ HistAt CH CV H a av ab s ∧ LnAt H pn [u, v] ∧ Outc CH CV CR H a av ab Q E (Hist.step s (twoCall k u v))
abbrev sOfTwo : Stmt := top 57
theorem count_kept (W : List Hist.Step) : ((W.map nStep).count 0 : Nat) = Hist.kept W := by
  unfold Hist.kept
  induction W with
  | nil => rfl
  | cons s W ih =>
    rw [List.map_cons, List.count_cons, ih, List.filter_cons]
    cases s <;> rfl
theorem scOfTwo : FnScope ["history", "kind", "numbers", "one", "other", "document", "steps"] ["history", "kind", "numbers"] (defScope sOfTwo) := ⟨rfl, rfl, rfl, by decide +kernel, rfl, by decide +kernel, by decide +kernel⟩
theorem added_lines_ok (C D : Doc) (h : ∀ l ∈ D, l.length ≤ 64) : (addedAt (Hist.way C D) D).length ≤ D.length ∧ ∀ l ∈ addedAt (Hist.way C D) D, l.length ≤ 64 := by
  have gen : ∀ (W : List Hist.Step) (D : Doc), cntB W ≤ D.length → (∀ l ∈ D, l.length ≤ 64) → (addedAt W D).length ≤ D.length ∧ ∀ l ∈ addedAt W D, l.length ≤ 64 := by
    intro W
    induction W with
    | nil => exact fun D _ _ => ⟨Nat.zero_le _, fun l hl => by cases hl⟩
    | cons s W ih =>
      intro D hc hD
      cases s with
      | drop => exact ih D hc hD
      | keep =>
        rw [cntB_keep] at hc
        cases D with
        | nil => exact absurd hc (by simp)
        | cons x D =>
          simp only [List.length_cons] at hc
          obtain ⟨i1, i2⟩ := ih D (by omega) fun l hl => hD l (List.mem_cons_of_mem _ hl)
          exact ⟨by show (addedAt W D).length ≤ _; rw [List.length_cons]; omega, i2⟩
      | add l =>
        rw [cntB_add] at hc
        cases D with
        | nil => exact absurd hc (by simp)
        | cons x D =>
          simp only [List.length_cons] at hc
          obtain ⟨i1, i2⟩ := ih D (by omega) fun l hl => hD l (List.mem_cons_of_mem _ hl)
          refine ⟨by show (x :: addedAt W D).length ≤ _; rw [List.length_cons, List.length_cons]; omega, fun y hy => ?_⟩
          rcases List.mem_cons.mp (show y ∈ x :: addedAt W D from hy) with e | hy
          · rw [e]; exact hD x List.mem_cons_self
          · exact i2 y hy
  exact gen _ D (by rw [(way_cnt C D).2]; exact Nat.le_refl _) h
theorem ok_ofTwo {f : Addr} {fd : FuncData} (F : Fun K "of_two" "of_two" sOfTwo f fd) (K0 : KindT mg) (S0 : StepT mg) (T : HisT K CH) (GV : Has P w K mg base (L2.CX P w) 2 "ask_version" ["history", "number"] (spAskV CH CV CR)) (GC : Has P w K mg base CX0 2 "counted" ["numbers"] spCounted) (GN : HasM P w K mg base CX0 2 CH "nearest" ["self", "one", "other"] (spNearest CH CV))
    (GD : HasM P w K mg base CX0 1 CH "document_of" ["self", "number"] (spDocOf CH CV)) (GW : Has P w K mg base CX0 2 "way" ["a", "b"] spWay) (GI : Has P w K mg base CX0 1 "listed" ["numbers"] spListed) (GL : Has P w K mg base CX0 2 "lines_told" ["lines"] spLinesTold) (GA : Has P w K mg base CX0 1 "added_lines" ["steps", "document"] spAdded) :
    FnOk P w K mg base (L2.CX P w) 3 f fd ["history", "kind", "numbers"] (spOfTwo CH CV CR) := by
  obtain ⟨fV, fdV, GV, mV, kV, bV⟩ := GV
  obtain ⟨fC, fdC, GC, mC, kC, bC⟩ := GC
  obtain ⟨fN, fdN, GN, MN, bN⟩ := GN
  obtain ⟨fD, fdD, GD, MD, bD⟩ := GD
  obtain ⟨fW, fdW, GW, mW, kW, bW⟩ := GW
  obtain ⟨fI', fdI, GI, mI, kI, bI⟩ := GI
  obtain ⟨fL, fdL, GL, mL, kL, bL⟩ := GL
  obtain ⟨fA, fdA, GA, mA, kA, bA⟩ := GA
  refine F.okX scOfTwo (fun vs H Q E h => ?_) (fun cdv A outer s H vs Q E hr h => ?_)
  · obtain ⟨a, pn, av, ab, st, k, u, v, rfl, _⟩ := h
    rfl
  · have nd := scOfTwo.nd
    have hr1 : Room 1 _ := hr.mono (by decide)
    refine ⟨_, pss_cons (ps_asg (pv 2) (pg_unl rfl (pgs_cons (pg_name (i := 3) nd rfl (.inl rfl)) (pgs_cons (pg_name (i := 4) nd rfl (.inl rfl)) pgs_nil))))
      (pss_cons (ps_expr (pe_call GV hr (by rfl) mV kV bV .nil (passes_call (takes_of rfl rfl rfl rfl) (fun _ _ _ _ h => h)) (pa_cons (pv 0) (pa_cons (pv 3) pa_nil))))
      (pss_cons (ps_expr (pe_call GV hr (by rfl) mV kV bV .nil (passes_call (takes_of rfl rfl rfl rfl) (fun _ _ _ _ h => h)) (pa_cons (pv 0) (pa_cons (pv 4) pa_nil))))
      (pss_cons (ps_if (pt_cmpR op_eq (pv 1) (pe_gi (by rfl) K0.common) (nomark _)) (pss_one (ps_ret (pe_call GC hr (by rfl) mC kC bC .nil pass0 (pa_cons (pe_meth (pv 0) T.cl MN GN hr bN .nil pass0 (pa_cons (pv 3) (pa_cons (pv 4) pa_nil))) pa_nil)))) pss_nil)
      (pss_cons (ps_set (i := 5) nd rfl (.inl rfl) (pe_meth (pv 0) T.cl MD GD hr1 bD .nil pass0 (pa_cons (pv 4) pa_nil)))
      (pss_cons (ps_set (i := 6) nd rfl (.inl rfl) (pe_call GW hr (by rfl) mW kW bW .nil pass0 (pa_cons (pe_meth (pv 0) T.cl MD GD hr1 bD .nil pass0 (pa_cons (pv 3) pa_nil)) (pa_cons (pv 5) pa_nil))))
      (pss_one (ps_ret (pe_op op_cat (pe_op op_cat (pe_lst (pa_cons (pe_bm PySem.F.plainAttrs_list PySem.F.slot_list_count PySem.F.type_list_count mt_lcount (pv 6) (pa_cons (pe_gi (by rfl) S0.kept) pa_nil)) pa_nil)) (pe_call GI hr1 (by rfl) mI kI bI .nil pass0 (pa_cons (pv 6) pa_nil)))
        (pe_call GL hr (by rfl) mL kL bL .nil pass0 (pa_cons (pe_call GA hr1 (by rfl) mA kA bA .nil pass0 (pa_cons (pv 6) (pa_cons (pv 5) pa_nil))) pa_nil)))))))))) , ?_⟩
    obtain ⟨a, pn, av, ab, st, k, u, v, rfl, hi, hpn, o⟩ := h
    obtain ⟨dx, h1⟩ := id hi.inst
    have eref : ¬ (u < st.book.length ∧ v < st.book.length) → Hist.step st (twoCall k u v) = (st, Hist.says (-4)) := fun n => by
      have hb : (st.has u && st.has v) = false := by
        by_cases c : u < st.book.length
        · rw [has_t c, has_f (fun z => n ⟨c, z⟩)]; rfl
        · rw [has_f c]; rfl
      unfold twoCall
      by_cases c7 : k = 7
      · rw [if_pos c7]; exact if_pos hb
      · rw [if_neg c7]; exact if_pos hb
    refine ⟨_, rfl, pn, nums [u, v], rfl, SqL.of hpn, rfl, _, _, rfl, _, _, rfl, rfl, ?_⟩
    refine ⟨_, rfl, _, rfl, a, av, ab, st, u, rfl, hi, fun hu => ?_, fun hu => ?_⟩
    · refine ⟨_, rfl, _, rfl, a, av, ab, st, v, rfl, hi, fun hv => ?_, fun hv => ?_⟩
      · have hb : ¬ (st.has u && st.has v) = false := by rw [has_t hu, has_t hv]; decide
        refine ⟨_, rfl, rfl, _, rfl, iteB (fun e => ?_) (fun e => ?_)⟩
        · have ek : k = 7 := by have := V.int.inj (of_decide_eq_true e); omega
          have es : Hist.step st (twoCall k u v) = (st, ⟨((Hist.nearest st.book u v).length : Nat), [Hist.nearest st.book u v]⟩) := by
            unfold twoCall
            rw [if_pos ek]
            exact if_neg hb
          rw [es] at o
          refine ⟨_, rfl, a, dx, _, rfl, h1, lkHno (by decide +kernel) (by decide +kernel), _, rfl, _, rfl, a, av, ab, st, u, v, rfl, hi, hu, hv, fun H1 q s1 hq hq1 => ?_⟩
          have hnl : (Hist.nearest st.book u v).length ≤ 128 := by
            have h2 : (Hist.nearest st.book u v).length ≤ (inBoth st.book u v).length := List.length_filter_le _ _
            have h3 : (inBoth st.book u v).length ≤ (Hist.forebears st.book u).length := List.length_filter_le _ _
            have h4 := fb_len st.book u
            have h5 := hi.wf.many
            omega
          refine ⟨q, _, rfl, hq1, by rw [nums_len]; omega, fun H2 p s2 hp hp2 => ?_⟩
          have s12 := s1.trans s2
          refine o.1 _ p (wo_mono s12) (hi.mono s12) (s1.free hp) ?_
          rw [hp2, shown_one, nums_len, nums_zs]
          rfl
        · have ek : k ≠ 7 := fun z => of_decide_eq_false e (by rw [z]; rfl)
          have es : Hist.step st (twoCall k u v) = (st, ⟨(Hist.kept (Hist.way (Hist.docOf st.book u) (Hist.docOf st.book v)) : Nat), (Hist.way (Hist.docOf st.book u) (Hist.docOf st.book v)).map Hist.Step.nums :: ((Hist.way (Hist.docOf st.book u) (Hist.docOf st.book v)).filterMap fun (x : Hist.Step) => match x with
              | .add l => some l
              | _ => none)⟩) := by
            unfold twoCall
            rw [if_neg ek]
            exact if_neg hb
          rw [es] at o
          have fu := hi.wf.fits hu
          have fv := hi.wf.fits hv
          have lW := way_len_le (Hist.docOf st.book u) (Hist.docOf st.book v)
          have fl1 := fits_len fu
          have fl2 := fits_len fv
          refine ⟨_, rfl, a, dx, _, rfl, h1, lkHno (by decide +kernel) (by decide +kernel), _, rfl, a, av, ab, st, v, rfl, hi, hv, fun pw hpw => ?_⟩
          refine ⟨_, rfl, a, dx, _, rfl, h1, lkHno (by decide +kernel) (by decide +kernel), _, rfl, a, av, ab, st, u, rfl, hi, hu, fun pu hpu => ?_⟩
          have hpw' := hpw.mono wo_sub
          refine ⟨_, rfl, pu, pw, _, _, rfl, hpu.mono wo_sub, hpw', fits_len fu, fits_len fv, fun H1 q s1 hq hq1 => ?_⟩
          generalize hW : Hist.way (Hist.docOf st.book u) (Hist.docOf st.book v) = W at *
          refine ⟨_, rfl, .inl ⟨rfl, _, SqL.of hq1⟩, q, _, 0, rfl, rfl, SqL.of hq1, (by show 1 ≤ sizeLine; decide), fun l1 hl1 => ?_⟩
          have s2 : Same H1 (upd H1 l1 (.lst [V.int ((W.map nStep).count 0 : Nat)])) := same_new hl1
          refine ⟨_, rfl, q, _, rfl, s2 _ _ hq1, by rw [zs_len, List.length_map]; omega, fun H3 l2 s3 hl2 hl3 => ?_⟩
          refine ⟨l1, l2, _, _, rfl, rfl, s3 _ _ upd_same, hl3, line1000 (by show 1 + (_ + 1) ≤ _; rw [zs_len, List.length_map]; omega), fun l4 hl4 => ?_⟩
          have s4 : Same H1 (upd H3 l4 (.lst ([V.int ((W.map nStep).count 0 : Nat)] ++ V.int ((zs (W.map nStep)).length : Nat) :: zs (W.map nStep)))) := fun b o z => same_new hl4 _ _ (s3 _ _ (s2 _ _ z))
          have s14 := s1.trans s4
          refine ⟨_, rfl, _, rfl, q, pw, Hist.docOf st.book u, Hist.docOf st.book v, rfl, by rw [hW]; exact s4 _ _ hq1, hpw'.mono s14, fits_len fu, fits_len fv, fun H5 r ls s5 hr0 hr5 hls => ?_⟩
          rw [hW] at hls
          obtain ⟨al1, al2⟩ := added_lines_ok (Hist.docOf st.book u) (Hist.docOf st.book v) (fits_line fv)
          have eadd := way_added (Hist.docOf st.book u) (Hist.docOf st.book v)
          rw [hW] at al1 al2 eadd
          refine ⟨r, _, rfl, ⟨ls, hr5, lns_mono s5 hls⟩, by omega, al2, fun H6 l7 s6 hl7 hl76 => ?_⟩
          have tl := toldL_len _ al2
          refine ⟨l4, l7, _, _, rfl, rfl, s6 _ _ (s5 _ _ upd_same), hl76, line1000 (by rw [List.length_append, List.length_cons, List.length_cons, List.length_nil, zs_len, zs_len, List.length_map]; omega), fun p hp => ?_⟩
          have s7 : Same H (upd H6 p (.lst (([V.int ((W.map nStep).count 0 : Nat)] ++ V.int ((zs (W.map nStep)).length : Nat) :: zs (W.map nStep)) ++ zs (toldL (addedAt W (Hist.docOf st.book v)))))) := fun b o z => same_new hp _ _ (s6 _ _ (s5 _ _ (s14 _ _ z)))
          refine o.1 _ p (wo_mono s7) (hi.mono s7) (s14.free (s5.free (s6.free hp))) ?_
          rw [upd_same, count_kept, eadd]
          show some (HO.lst (([V.int (Hist.kept W : Nat)] ++ V.int ((zs (W.map nStep)).length : Nat) :: zs (W.map nStep)) ++ zs (toldL _))) = some (HO.lst (zs ((Hist.kept W : Int) :: ((((W.map Hist.Step.nums).length : Int) :: (W.map Hist.Step.nums).map fun (n : Nat) => (n : Int)) ++ toldL _))))
          have e1 : (W.map Hist.Step.nums).map (fun (n : Nat) => (n : Int)) = W.map nStep := by rw [List.map_map]; rfl
          rw [e1, zs_len, List.length_map, List.length_map]
          unfold zs
          rw [List.map_cons, List.map_append, List.map_cons]
          rfl
      · rw [eref (fun z => hv z.2)] at o
        exact o.ref hi
    · rw [eref (fun z => hu z.1)] at o
      exact o.ref hi
end
end Wb
namespace Wb
open PySem PySem.Spec PyProof.Rows L2

theorem cut_to (xs : List V) (n : Nat) : cutV xs none (some (n : Int)) = xs.take n := by
  unfold cutV
  rw [HT.sIx_none, HT.sIx_nat, List.drop_zero, Nat.sub_zero]
  by_cases h : n ≤ xs.length
  · rw [Nat.min_eq_left h]
  · rw [Nat.min_eq_right (by omega), List.take_of_length_le (Nat.le_refl _), List.take_of_length_le (by omega)]
theorem cut_from (xs : List V) (n : Nat) : cutV xs (some (n : Int)) none = xs.drop n := by
  unfold cutV
  rw [HT.sIx_none, HT.sIx_nat]
  by_cases h : n ≤ xs.length
  · rw [Nat.min_eq_left h, List.take_of_length_le (by rw [List.length_drop]; exact Nat.le_refl _)]
  · rw [Nat.min_eq_right (show xs.length ≤ n by omega), List.drop_eq_nil_of_le (Nat.le_refl _), List.drop_eq_nil_of_le (as := xs) (i := n) (by omega), List.take_nil]
theorem refs_take (l : List Addr) (n : Nat) : (refs l).take n = refs (l.take n) := by unfold refs; rw [← List.map_take]
theorem refs_drop (l : List Addr) (n : Nat) : (refs l).drop n = refs (l.drop n) := by unfold refs; rw [← List.map_drop]
def tryA (O A B : Doc) : Hist.Answer := if (Hist.fits O && (Hist.fits A && Hist.fits B)) = false then Hist.says (-1) else match Hist.merge O A B with
    | .error l => ⟨-3, [l.flatMap Hist.Part.nums]⟩
    | .ok d => if Hist.fits d = false then Hist.says (-6) else ⟨(d.length : Nat), Hist.docLists d⟩
theorem step_try (s : Hist.State) (O A B : Doc) : Hist.step s (.try_ O A B) = (s, tryA O A B) := by
  unfold tryA
  show (if (Hist.fits O && (Hist.fits A && Hist.fits B)) = false then (s, Hist.says (-1)) else match Hist.merge O A B with
    | .error l => (s, ⟨-3, [l.flatMap Hist.Part.nums]⟩)
    | .ok d => if Hist.fits d = false then (s, Hist.says (-6)) else (s, ⟨(d.length : Nat), Hist.docLists d⟩)) = _
  split
  · rfl
  · split
    · rfl
    · split <;> rfl
def spTry (CR : Addr) : Sp := fun vs H Q E => ∃ (pn pl : Addr) (o a : Nat) (d : Doc), vs = [.ref pn, .ref pl] ∧ LnAt H pn [o, a] ∧ DcAt H pl d ∧ d.length ≤ 90000 ∧
  (∀ (H' : Hp) (p : Addr), Same H H' → H p = none → H' p = some (.lst (zs (HistNeutral.shown (tryA (d.take o) ((d.drop o).take a) (d.drop (o + a)))))) → Q (.ref p) H') ∧
  RefW CR H E (HistNeutral.shown (tryA (d.take o) ((d.drop o).take a) (d.drop (o + a))))
abbrev sTry : Stmt := top 62
theorem dpAll_docs {K : PySem.W.Frag} {H : Hp} : ∀ {as : List Addr} {ds : List Doc}, Paired (DcAt H) as ds → DpAll K H (refs as) (ds.map docD)
  | _, _, .nil => .nil
  | _, _, .cons h t => .cons (dp_docAt h) (dpAll_docs t)
theorem lay_docs : ∀ ds : List Doc, PyData.canLayAll0 (ds.map docD) = true
  | [] => by simp only [List.map_nil, PyData.canLayAll0]
  | d :: ds => by
    have e : PyData.canLay0 (docD d) = true := by
      unfold docD
      simp only [PyData.canLay0, lay_lines]
    simp only [List.map_cons, PyData.canLayAll0, lay_docs ds, e, Bool.and_self]
theorem depth_docs : ∀ ds : List Doc, PyData.depthAll (ds.map docD) ≤ 2
  | [] => by simp only [List.map_nil, PyData.depthAll]; decide
  | d :: ds => by
    have e : PyData.depth (docD d) ≤ 2 := by
      have := depth_lines d
      unfold docD
      simp only [PyData.depth]
      omega
    have ih := depth_docs ds
    simp only [List.map_cons, PyData.depthAll]
    omega
theorem shaped_docs (ds : List Doc) : SeqAt.shaped (.list (ds.map docD)) = true := by
  have ih := depth_docs ds
  unfold SeqAt.shaped
  simp only [PyData.canLay0, lay_docs, PyData.depth, Bool.true_and]
  exact decide_eq_true (by omega)
section
variable {P : Program} {w : World} {K : PySem.W.Frag} {mg : Str → Option Value} {base : Heap} {CH : Addr} {CV : Par} {CR fI CM CC : Addr}
theorem scTry : FnScope ["numbers", "lists", "end", "documents", "document"] ["numbers", "lists"] (defScope sTry) := ⟨rfl, rfl, rfl, by decide +kernel, rfl, by decide +kernel, by decide +kernel⟩
theorem ok_try {f : Addr} {fd : FuncData} (F : Fun K "try_merge" "try_merge" sTry f fd) (B0 : BltT mg) (C0 : CodeT mg) (GR : Has P w K mg base (L2.CX P w) 1 "refuse_where" ["truth", "code"] (spRefuse CR)) (GF : Has P w K mg base CX0 1 "fits" ["document"] spFits)
    (GM : Has P w K mg base (L2.CX P w) 6 "merged_document" ["o", "a", "b"] (spMergedDoc CR)) (GL : Has P w K mg base CX0 2 "lines_told" ["lines"] spLinesTold) : FnOk P w K mg base (L2.CX P w) 7 f fd ["numbers", "lists"] (spTry CR) := by
  obtain ⟨fR, fdR, GR, mR, kR, bR⟩ := GR
  obtain ⟨fF, fdF, GF, mF, kF, bF⟩ := GF
  obtain ⟨fM, fdM, GM, mM, kM, bM⟩ := GM
  obtain ⟨fL, fdL, GL, mL, kL, bL⟩ := GL
  refine F.okX scTry (fun vs H Q E h => ?_) (fun cdv A outer s H vs Q E hr h => ?_)
  · obtain ⟨pn, pl, o, a, d, rfl, _⟩ := h
    rfl
  · have nd := scTry.nd
    have hr1 : Room 1 _ := hr.mono (by decide)
    have hr2 : Room 2 _ := hr.mono (by decide)
    refine ⟨_, pss_cons (ps_set (i := 2) nd rfl (.inl rfl) (pe_op op_add (pe_ix ix_list (pv 0) pe_int (fun _ _ => rfl)) (pe_ix ix_list (pv 0) pe_int (fun _ _ => rfl))))
      (pss_cons (ps_set (i := 3) nd rfl (.inl rfl) (pe_lst (pa_cons (pe_slice sl_list (pv 1) po_none (po_some (pe_ix ix_list (pv 0) pe_int (fun _ _ => rfl)))) (pa_cons (pe_slice sl_list (pv 1) (po_some (pe_ix ix_list (pv 0) pe_int (fun _ _ => rfl))) (po_some (pv 2))) (pa_cons (pe_slice sl_list (pv 1) (po_some (pv 2)) po_none) pa_nil)))))
      (pss_cons (ps_expr (pe_call GR hr1 (by rfl) mR kR bR .nil (passes_call (takes_of rfl rfl rfl rfl) (fun _ _ _ _ h => h)) (pa_cons (pe_cmpR (op_neD hr.units) (pe_lc (own := [("document", 4)]) (g := gName 4) rfl nd (pi_list (pv 3)) (blkOk_by (N := ["numbers", "lists", "end", "documents", "document"]) (sc := defScope sTry) (by decide +kernel)) (fun _ _ _ _ _ => pg_name (i := 4) nd rfl (Or.inl rfl))
            (fun _ _ _ _ _ => pts_one (pt_not (pt_val (pe_call GF hr1 (by rfl) mF kF bF .nil pass0 (pa_cons (pv 4) pa_nil))))) (fun _ _ _ _ _ => pv 4)) (pe_lst pa_nil) (nomark _)) (pa_cons (pe_gi (by rfl) C0.notSo) pa_nil))))
      (pss_cons (ps_set (i := 4) nd rfl (.inl rfl) (pe_call GM hr (by rfl) mM kM bM .nil (passes_call (takes_of rfl rfl rfl rfl) (fun _ _ _ _ h => h)) (pa_cons (pe_ix ix_list (pv 3) pe_int (fun _ _ => rfl)) (pa_cons (pe_ix ix_list (pv 3) pe_int (fun _ _ => rfl)) (pa_cons (pe_ix ix_list (pv 3) pe_int (fun _ _ => rfl)) pa_nil)))))
      (pss_cons (ps_expr (pe_call GR hr1 (by rfl) mR kR bR .nil (passes_call (takes_of rfl rfl rfl rfl) (fun _ _ _ _ h => h)) (pa_cons (pe_not (pe_call GF hr1 (by rfl) mF kF bF .nil pass0 (pa_cons (pv 4) pa_nil))) (pa_cons (pe_gi (by rfl) C0.full) pa_nil))))
      (pss_one (ps_ret (pe_op op_cat (pe_lst (pa_cons (pe_callB call_len_seq (by rfl) B0.len boot_len (pa_cons (pv 4) pa_nil)) pa_nil)) (pe_call GL hr2 (by rfl) mL kL bL .nil pass0 (pa_cons (pv 4) pa_nil))))))))) , ?_⟩
    obtain ⟨pn, pl, o, a, d, rfl, hpn, ⟨as, hpl, las⟩, hd9, kQ, kE⟩ := h
    have eas : as.length = d.length := las.length
    refine ⟨_, rfl, pn, _, _, _, rfl, rfl, SqL.of hpn, at_of (j := 0) rfl (nums_at (l := [o, a]) (i := 0) rfl), _, rfl, pn, _, _, _, rfl, rfl, SqL.of hpn, at_of (j := 1) rfl (nums_at (l := [o, a]) (i := 1) rfl), _, _, rfl, rfl, ?_⟩
    have eoa : ((o : Int) + (a : Int)) = ((o + a : Nat) : Int) := by omega
    refine ⟨_, rfl, _, rfl, pn, _, _, _, rfl, rfl, SqL.of hpn, at_of (j := 0) rfl (nums_at (l := [o, a]) (i := 0) rfl), _, rfl, pl, _, rfl, SqL.of hpl, fun p0 hp0 => ?_⟩
    rw [cut_to, refs_take]
    have s0 : Same H (upd H p0 (.lst (refs (as.take o)))) := same_new hp0
    refine ⟨_, rfl, _, rfl, pn, _, _, _, rfl, rfl, SqL.of (s0 _ _ hpn), at_of (j := 0) rfl (nums_at (l := [o, a]) (i := 0) rfl), _, rfl, _, rfl, _, rfl, pl, _, rfl, SqL.of (s0 _ _ hpl), fun p1 hp1 => ?_⟩
    rw [eoa, cut_nat, show o + a - o = a by omega, refs_drop, refs_take]
    have s1 : Same (upd H p0 (.lst (refs (as.take o)))) (upd (upd H p0 (.lst (refs (as.take o)))) p1 (.lst (refs ((as.drop o).take a)))) := same_new hp1
    refine ⟨_, rfl, _, rfl, _, rfl, pl, _, rfl, SqL.of (s1 _ _ (s0 _ _ hpl)), fun p2 hp2 => ?_⟩
    rw [eoa, cut_from, refs_drop]
    have s2 : Same (upd (upd H p0 (.lst (refs (as.take o)))) p1 (.lst (refs ((as.drop o).take a)))) (upd (upd (upd H p0 (.lst (refs (as.take o)))) p1 (.lst (refs ((as.drop o).take a)))) p2 (.lst (refs (as.drop (o + a))))) := same_new hp2
    refine ⟨(by show 3 ≤ sizeLine; decide), fun pd hpd => ?_⟩
    have s3 := same_new (o := .lst [V.ref p0, V.ref p1, V.ref p2]) hpd
    have q0 := s3 _ _ (s2 _ _ (s1 _ _ (upd_same (H := H) (a := p0) (o := .lst (refs (as.take o))))))
    have q1 := s3 _ _ (s2 _ _ (upd_same (H := upd H p0 (.lst (refs (as.take o)))) (a := p1) (o := .lst (refs ((as.drop o).take a)))))
    have q2 := s3 _ _ (upd_same (H := upd (upd H p0 (.lst (refs (as.take o)))) p1 (.lst (refs ((as.drop o).take a)))) (a := p2) (o := .lst (refs (as.drop (o + a)))))
    have sH : Same H (upd (upd (upd (upd H p0 (.lst (refs (as.take o)))) p1 (.lst (refs ((as.drop o).take a)))) p2 (.lst (refs (as.drop (o + a))))) pd (.lst [V.ref p0, V.ref p1, V.ref p2])) := fun b u z => s3 _ _ (s2 _ _ (s1 _ _ (s0 _ _ z)))
    have qd : (upd (upd (upd (upd H p0 (.lst (refs (as.take o)))) p1 (.lst (refs ((as.drop o).take a)))) p2 (.lst (refs (as.drop (o + a))))) pd (.lst [V.ref p0, V.ref p1, V.ref p2])) pd = some (.lst (refs [p0, p1, p2])) := upd_same
    generalize (upd (upd (upd (upd H p0 (.lst (refs (as.take o)))) p1 (.lst (refs ((as.drop o).take a)))) p2 (.lst (refs (as.drop (o + a))))) pd (.lst [V.ref p0, V.ref p1, V.ref p2])) = H1 at *
    have D0 : DcAt H1 p0 (d.take o) := ⟨_, q0, lns_mono sH (pair_take _ las)⟩
    have D1 : DcAt H1 p1 ((d.drop o).take a) := ⟨_, q1, lns_mono sH (pair_take _ (pair_drop _ las))⟩
    have D2 : DcAt H1 p2 (d.drop (o + a)) := ⟨_, q2, lns_mono sH (pair_drop _ las)⟩
    generalize hO : d.take o = O at *
    generalize hA : (d.drop o).take a = A' at *
    generalize hB : d.drop (o + a) = B at *
    have DD : Paired (DcAt H1) [p0, p1, p2] [O, A', B] := .cons D0 (.cons D1 (.cons D2 .nil))
    refine ⟨_, rfl, pd, rfl, ⟨_, SqL.of qd⟩, fun D hD => ?_⟩
    refine lc_list (K := K) (a := pd) (xs := refs [p0, p1, p2]) (fun i H' => Same H1 H' ∧ ∃ bs, H' D = some (.lst (refs bs)) ∧ bs.length ≤ i ∧ Paired (DcAt H1) bs (([O, A', B].take i).filter (fun x => !Hist.fits x)))
      ⟨same_new hD, [], upd_same, Nat.le_refl _, .nil⟩ (fun i H' _ ⟨s5, _⟩ => SqL.of (s5 _ _ qd)) ?_ ?_
    · rintro i x H' hx ⟨s5, bs, hDb, hbl, hbs⟩
      obtain ⟨p, hp, rfl⟩ := refs_of hx
      obtain ⟨y, hy, dy⟩ := pair_getL DD hp
      have hi : i < 3 := (List.getElem?_eq_some_iff.mp hp).1
      have e1 := take_more hy
      refine ⟨rfl, _, rfl, p, y, rfl, dy.mono s5, fun H2 s6 => ?_⟩
      have s56 := s5.trans s6
      refine ⟨_, rfl, iteB (fun hb => ?_) (fun hb => ?_)⟩
      · refine ⟨_, rfl, _, s6 _ _ hDb, by rw [refs_len]; exact ltline (by omega), ?_, bs ++ [p], ?_, ?_, ?_⟩
        · intro c u z
          rw [upd_ne (ne_of_none z hD)]
          exact s56 c u z
        · rw [upd_same, refs_app]
          rfl
        · rw [List.length_append, List.length_singleton]
          omega
        · rw [e1, List.filter_append, List.filter_cons, if_pos hb]
          exact pair_app hbs (.cons dy .nil)
      · refine ⟨s56, bs, s6 _ _ hDb, by omega, ?_⟩
        rw [e1, List.filter_append, List.filter_cons, if_neg (by rw [hb]; decide), List.filter_nil, List.append_nil]
        exact hbs
    · rintro H2 ⟨s5, bs, hDb, _, hbs⟩
      have hbs' : Paired (DcAt H1) bs ([O, A', B].filter (fun x => !Hist.fits x)) := hbs
      refine ⟨Nat.zero_le _, fun e0 he0 => ?_⟩
      have s6 : Same H2 (upd H2 e0 (.lst [])) := same_new he0
      have s56 := s5.trans s6
      refine ⟨_, _, .lst (SqL.of (s6 _ _ hDb)) (dpAll_docs (pair_mono (fun p x h => h.mono s56) hbs')), .lst (SqL.of (xs := refs []) upd_same) (dpAll_docs (ds := []) .nil), shaped_docs _, shaped_docs _, ?_⟩
      rw [List.map_nil, eqv_nil]
      have efit : decide (([O, A', B].filter (fun x => !Hist.fits x)).map docD = []) = (Hist.fits O && (Hist.fits A' && Hist.fits B)) := by
        cases h0 : Hist.fits O <;> cases h1 : Hist.fits A' <;> cases h2 : Hist.fits B <;> simp [List.filter, h0, h1, h2]
      rw [efit]
      have sH6 := sH.trans s56
      refine ⟨_, _, rfl, fun e => ?_, fun e => ?_⟩
      · rw [Bool.not_eq_true'] at e
        have ea : tryA O A' B = Hist.says (-1) := by unfold tryA; rw [if_pos e]
        rw [ea] at kE
        exact fun H' dd p k hd hp hp' => kE H' dd p (sH6.trans k) hd (sH6.free hp) hp'
      · rw [Bool.not_eq_false'] at e
        have e' := e
        rw [Bool.and_eq_true, Bool.and_eq_true] at e'
        obtain ⟨f0, f1, f2⟩ := e'
        have ea : tryA O A' B = (match Hist.merge O A' B with
          | .error l => ⟨-3, [l.flatMap Hist.Part.nums]⟩
          | .ok d => if Hist.fits d = false then Hist.says (-6) else ⟨(d.length : Nat), Hist.docLists d⟩) := by
          unfold tryA
          rw [if_neg (by rw [e]; decide)]
        have qd6 := s56 _ _ qd
        refine ⟨_, rfl, pd, _, _, _, rfl, rfl, SqL.of qd6, at_of (j := 0) rfl (refs_at (l := [p0, p1, p2]) (i := 0) rfl), _, rfl, pd, _, _, _, rfl, rfl, SqL.of qd6, at_of (j := 1) rfl (refs_at (l := [p0, p1, p2]) (i := 1) rfl), _, rfl, pd, _, _, _, rfl, rfl, SqL.of qd6, at_of (j := 2) rfl (refs_at (l := [p0, p1, p2]) (i := 2) rfl), ?_⟩
        refine ⟨p0, p1, p2, O, A', B, H1, rfl, s56, D0, D1, D2, fits_len f0, fits_len f1, fits_len f2, fun dm edm H3 p ls s7 hp hp3 hls => ?_, fun l el => ?_⟩
        · rw [edm] at ea
          have s17 : Same H1 H3 := s56.trans s7
          have sH7 : Same H H3 := sH.trans s17
          have DM : DcAt H3 p dm := ⟨ls, hp3, lns_mono s17 hls⟩
          refine ⟨_, rfl, p, dm, rfl, DM, fun H4 s8 => ?_⟩
          refine ⟨_, rfl, _, _, rfl, fun ef => ?_, fun ef => ?_⟩
          · rw [Bool.not_eq_true'] at ef
            have ea2 : tryA O A' B = Hist.says (-6) := by rw [ea]; exact if_pos ef
            rw [ea2] at kE
            exact fun H' dd p' k hd hp' hp'' => kE H' dd p' ((sH7.trans s8).trans k) hd ((sH7.trans s8).free hp') hp''
          · rw [Bool.not_eq_false'] at ef
            have ea2 : tryA O A' B = ⟨(dm.length : Nat), Hist.docLists dm⟩ := by rw [ea]; exact if_neg (by rw [ef]; decide)
            rw [ea2] at kQ
            have DM4 := DM.mono s8
            have fl := fits_len ef
            have ell : ls.length = dm.length := hls.length
            refine ⟨_, rfl, p, _, rfl, .inl (SqL.of (s8 _ _ hp3)), (by show 1 ≤ sizeLine; decide), fun l hl => ?_⟩
            have s9 : Same H4 (upd H4 l (.lst [V.int ((refs ls).length : Nat)])) := same_new hl
            refine ⟨_, rfl, p, dm, rfl, DM4.mono s9, fits_len ef, fits_line ef, fun H6 q s10 hq hq6 => ?_⟩
            have tl := toldL_len _ (fits_line ef)
            refine ⟨l, q, _, _, rfl, rfl, s10 _ _ upd_same, hq6, line1000 (by rw [zs_len]; show 1 + _ ≤ _; omega), fun r hr0 => ?_⟩
            have s11 : Same H (upd H6 r (.lst ([V.int ((refs ls).length : Nat)] ++ zs (toldL dm)))) := fun b u z => same_new hr0 _ _ (s10 _ _ (s9 _ _ (s8 _ _ (sH7 _ _ z))))
            refine kQ _ r s11 (sH7.free (s8.free (s9.free (s10.free hr0)))) ?_
            rw [upd_same, refs_len, ell]
            rfl
        · have ea2 : tryA O A' B = ⟨-3, [l.flatMap Hist.Part.nums]⟩ := by rw [ea, el]
          rw [ea2] at kE
          exact fun H' dd p k hd hp hp' => kE H' dd p (sH6.trans k) hd (sH6.free hp) hp'
end
end Wb
namespace Wb
open PySem PySem.Spec PyProof.Rows L2

inductive CallIs : Nat → List Nat → Doc → Hist.Call → Prop
  | commit (b : Nat) (d : Doc) : CallIs 0 [b] d (.commit b d)
  | branch (b v : Nat) : CallIs 1 [b, v] [] (.branch b v)
  | drop (b : Nat) : CallIs 2 [b] [] (.drop b)
  | head (b : Nat) : CallIs 3 [b] [] (.head b)
  | doc (v : Nat) : CallIs 4 [v] [] (.doc v)
  | parents (v : Nat) : CallIs 5 [v] [] (.parents v)
  | log (v : Nat) : CallIs 6 [v] [] (.log v)
  | common (u v : Nat) : CallIs 7 [u, v] [] (.common u v)
  | way (u v : Nat) : CallIs 8 [u, v] [] (.way u v)
  | merge (b v : Nat) : CallIs 9 [b, v] [] (.merge b v)
  | pick (b v : Nat) : CallIs 10 [b, v] [] (.pick b v)
  | undo (b v : Nat) : CallIs 11 [b, v] [] (.undo b v)
  | try_ (o a : Nat) (d : Doc) : d.length ≤ 90000 → CallIs 12 [o, a] d (.try_ (d.take o) ((d.drop o).take a) (d.drop (o + a)))
  | origins (v : Nat) : CallIs 13 [v] [] (.origins v)
  | count : CallIs 14 [] [] .count
structure CallT (K : PySem.W.Frag) (C : Addr) : Prop where
  cl : Cls K C
  nK : NoAttr K C "kind"
  nS : NoAttr K C "some"
  nL : NoAttr K C "lists"
  nB : NoAttr K C "behind"
section
variable {a b c d : V}
theorem lkK : List.lookup ("kind" : Str) [(("kind" : Str), a), (("some" : Str), b), (("lists" : Str), c), (("behind" : Str), d)] = some a := lk_here
theorem lkS : List.lookup ("some" : Str) [(("kind" : Str), a), (("some" : Str), b), (("lists" : Str), c), (("behind" : Str), d)] = some b := (lk_past (by decide +kernel)).trans lk_here
theorem lkL : List.lookup ("lists" : Str) [(("kind" : Str), a), (("some" : Str), b), (("lists" : Str), c), (("behind" : Str), d)] = some c := (lk_past (by decide +kernel)).trans ((lk_past (by decide +kernel)).trans lk_here)
theorem lkBh : List.lookup ("behind" : Str) [(("kind" : Str), a), (("some" : Str), b), (("lists" : Str), c), (("behind" : Str), d)] = some d := (lk_past (by decide +kernel)).trans ((lk_past (by decide +kernel)).trans ((lk_past (by decide +kernel)).trans lk_here))
end
def spToldC (CH : Addr) (CV : Par) (CR CC : Addr) : Sp := fun vs H Q E => ∃ (a c av ab pn pl dx : Addr) (e : V) (s : Hist.State) (k : Nat) (ns : List Nat) (d : Doc) (x : Hist.Call), vs = [.ref a, .ref c] ∧ HistAt CH CV H a av ab s ∧ H c = some (.ins CC dx [("kind", .int (k : Int)), ("some", .ref pn), ("lists", .ref pl), ("behind", e)]) ∧ LnAt H pn ns ∧ DcAt (wo CV.x av ab H) pl d ∧
  CallIs k ns d x ∧ Outc CH CV CR H a av ab Q E (Hist.step s x)
abbrev sToldC : Stmt := top 63
section
variable {P : Program} {w : World} {K : PySem.W.Frag} {mg : Str → Option Value} {base : Heap} {CH : Addr} {CV : Par} {CR fI CM CC : Addr}
theorem scToldC : FnScope ["history", "call", "some", "branch"] ["history", "call"] (defScope sToldC) := ⟨rfl, rfl, rfl, by decide +kernel, rfl, by decide +kernel, by decide +kernel⟩
theorem ok_toldC {f : Addr} {fd : FuncData} (F : Fun K "told" "told" sToldC f fd) (B0 : BltT mg) (K0 : KindT mg) (T : HisT K CH) (TC : CallT K CC) (G0 : Has P w K mg base (L2.CX P w) 7 "commit" ["history", "branch", "document"] (spCommit CH CV CR)) (G1 : Has P w K mg base (L2.CX P w) 3 "set_branch" ["history", "branch", "number"] (spSetB CH CV CR)) (G2 : Has P w K mg base (L2.CX P w) 3 "drop" ["history", "branch"] (spDrop CH CV CR)) (G3 : Has P w K mg base (L2.CX P w) 3 "head" ["history", "branch"] (spHead CH CV CR))
    (G4 : Has P w K mg base (L2.CX P w) 3 "of_version" ["history", "kind", "number"] (spOfVersion CH CV CR)) (G5 : Has P w K mg base (L2.CX P w) 3 "of_two" ["history", "kind", "numbers"] (spOfTwo CH CV CR)) (G6 : Has P w K mg base (L2.CX P w) 9 "of_branch" ["history", "kind", "numbers"] (spOfBranch CH CV CR)) (G7 : Has P w K mg base (L2.CX P w) 7 "try_merge" ["numbers", "lists"] (spTry CR)) (GI : Has P w K mg base CX0 1 "listed" ["numbers"] spListed) :
    FnOk P w K mg base (L2.CX P w) 10 f fd ["history", "call"] (spToldC CH CV CR CC) := by
  obtain ⟨f0, fd0, G0, m0, k0, b0⟩ := G0
  obtain ⟨f1, fd1, G1, m1, k1, b1⟩ := G1
  obtain ⟨f2, fd2, G2, m2, k2, b2⟩ := G2
  obtain ⟨f3, fd3, G3, m3, k3, b3⟩ := G3
  obtain ⟨f4, fd4, G4, m4, k4, b4⟩ := G4
  obtain ⟨f5, fd5, G5, m5, k5, b5⟩ := G5
  obtain ⟨f6, fd6, G6, m6, k6, b6⟩ := G6
  obtain ⟨f7, fd7, G7, m7, k7, b7⟩ := G7
  obtain ⟨f8, fd8, G8, m8, k8, b8⟩ := GI
  refine F.okX scToldC (fun vs H Q E h => ?_) (fun cdv A outer s H vs Q E hr h => ?_)
  · obtain ⟨a, c, av, ab, pn, pl, dx, e, st, k, ns, d, x, rfl, _⟩ := h
    rfl
  · have nd := scToldC.nd
    have hr1 : Room 1 _ := hr.mono (by decide)
    have hr3 : Room 3 _ := hr.mono (by decide)
    have hr7 : Room 7 _ := hr.mono (by decide)
    refine ⟨_, pss_cons (ps_set (i := 2) nd rfl (.inl rfl) (pe_fld (pv 1) rfl))
      (pss_cons (ps_if (pt_cmpR op_eq (pe_fld (pv 1) rfl) (pe_gi (by rfl) K0.commit) (nomark _)) (pss_one (ps_ret (pe_call G0 hr7 (by rfl) m0 k0 b0 .nil (passes_call (takes_of rfl rfl rfl rfl) (fun _ _ _ _ h => h)) (pa_cons (pv 0) (pa_cons (pe_ix ix_list (pv 2) pe_int (fun _ _ => rfl)) (pa_cons (pe_fld (pv 1) rfl) pa_nil)))))) pss_nil)
      (pss_cons (ps_if (pt_cmpR op_eq (pe_fld (pv 1) rfl) (pe_gi (by rfl) K0.branch) (nomark _)) (pss_one (ps_ret (pe_call G1 hr3 (by rfl) m1 k1 b1 .nil (passes_call (takes_of rfl rfl rfl rfl) (fun _ _ _ _ h => h)) (pa_cons (pv 0) (pa_cons (pe_ix ix_list (pv 2) pe_int (fun _ _ => rfl)) (pa_cons (pe_ix ix_list (pv 2) pe_int (fun _ _ => rfl)) pa_nil)))))) pss_nil)
      (pss_cons (ps_if (pt_cmpR op_eq (pe_fld (pv 1) rfl) (pe_gi (by rfl) K0.drop) (nomark _)) (pss_one (ps_ret (pe_call G2 hr3 (by rfl) m2 k2 b2 .nil (passes_call (takes_of rfl rfl rfl rfl) (fun _ _ _ _ h => h)) (pa_cons (pv 0) (pa_cons (pe_ix ix_list (pv 2) pe_int (fun _ _ => rfl)) pa_nil))))) pss_nil)
      (pss_cons (ps_if (pt_cmpR op_eq (pe_fld (pv 1) rfl) (pe_gi (by rfl) K0.head) (nomark _)) (pss_one (ps_ret (pe_call G3 hr3 (by rfl) m3 k3 b3 .nil (passes_call (takes_of rfl rfl rfl rfl) (fun _ _ _ _ h => h)) (pa_cons (pv 0) (pa_cons (pe_ix ix_list (pv 2) pe_int (fun _ _ => rfl)) pa_nil))))) pss_nil)
      (pss_cons (ps_if (pt_cmpR op_in_seq (pe_fld (pv 1) rfl) (pe_tup (pa_cons (pe_gi (by rfl) K0.doc) (pa_cons (pe_gi (by rfl) K0.parents) (pa_cons (pe_gi (by rfl) K0.log) (pa_cons (pe_gi (by rfl) K0.origins) pa_nil))))) (by rfl)) (pss_one (ps_ret (pe_call G4 hr3 (by rfl) m4 k4 b4 .nil (passes_call (takes_of rfl rfl rfl rfl) (fun _ _ _ _ h => h)) (pa_cons (pv 0) (pa_cons (pe_fld (pv 1) rfl) (pa_cons (pe_ix ix_list (pv 2) pe_int (fun _ _ => rfl)) pa_nil)))))) pss_nil)
      (pss_cons (ps_if (pt_cmpR op_in_seq (pe_fld (pv 1) rfl) (pe_tup (pa_cons (pe_gi (by rfl) K0.common) (pa_cons (pe_gi (by rfl) K0.way) pa_nil))) (by rfl)) (pss_one (ps_ret (pe_call G5 hr3 (by rfl) m5 k5 b5 .nil (passes_call (takes_of rfl rfl rfl rfl) (fun _ _ _ _ h => h)) (pa_cons (pv 0) (pa_cons (pe_fld (pv 1) rfl) (pa_cons (pv 2) pa_nil)))))) pss_nil)
      (pss_cons (ps_if (pt_cmpR op_in_seq (pe_fld (pv 1) rfl) (pe_tup (pa_cons (pe_gi (by rfl) K0.merge) (pa_cons (pe_gi (by rfl) K0.pick) (pa_cons (pe_gi (by rfl) K0.undo) pa_nil)))) (by rfl)) (pss_one (ps_ret (pe_call G6 hr (by rfl) m6 k6 b6 .nil (passes_call (takes_of rfl rfl rfl rfl) (fun _ _ _ _ h => h)) (pa_cons (pv 0) (pa_cons (pe_fld (pv 1) rfl) (pa_cons (pv 2) pa_nil)))))) pss_nil)
      (pss_cons (ps_if (pt_cmpR op_eq (pe_fld (pv 1) rfl) (pe_gi (by rfl) K0.try_) (nomark _)) (pss_one (ps_ret (pe_call G7 hr7 (by rfl) m7 k7 b7 .nil (passes_call (takes_of rfl rfl rfl rfl) (fun _ _ _ _ h => h)) (pa_cons (pv 2) (pa_cons (pe_fld (pv 1) rfl) pa_nil))))) pss_nil)
      (pss_one (ps_ret (pe_op op_cat (pe_lst (pa_cons (pe_callB call_len_seq (by rfl) B0.len boot_len (pa_cons (pe_fld (pv 0) rfl) pa_nil)) pa_nil))
        (pe_call G8 hr1 (by rfl) m8 k8 b8 .nil pass0 (pa_cons (pe_lc (own := [("branch", 3)]) (g := gName 3) (tt := tYes) rfl nd (pi_list (pe_fld (pv 0) rfl)) (blkOk_by (N := ["history", "call", "some", "branch"]) (sc := defScope sToldC) (by decide +kernel)) (fun _ _ _ _ _ => pg_name (i := 3) nd rfl (Or.inl rfl)) (fun _ _ _ _ _ => pts_nil) (fun _ _ _ _ _ => pe_op op_add (pv 3) pe_int)) pa_nil))))))))))))) , ?_⟩
    obtain ⟨a, c, av, ab, pn, pl, dx, e, st, k, ns, d, x, rfl, hi, hc, hpn, hpl, ci, o⟩ := h
    have fK : ∀ {H1 : Hp}, Same H H1 → H1 c = some (.ins CC dx [("kind", .int (k : Int)), ("some", .ref pn), ("lists", .ref pl), ("behind", e)]) := fun s => s _ _ hc
    refine ⟨_, rfl, c, CC, dx, _, _, rfl, hc, TC.cl, TC.nS, lkS, ?_⟩
    have eqk : ∀ n : Nat, decide (V.int (k : Int) = V.int (n : Int)) = decide (k = n) := fun n => int_dec k n
    refine ⟨_, rfl, c, CC, dx, _, _, rfl, hc, TC.cl, TC.nK, lkK, rfl, _, rfl, iteB (fun e0 => ?_) (fun e0 => ?_)⟩
    · have ek : k = 0 := by have := V.int.inj (of_decide_eq_true e0); omega
      subst ek
      cases ci with
      | commit b d =>
        exact ⟨_, rfl, _, rfl, pn, _, _, _, rfl, rfl, SqL.of hpn, at_of (j := 0) rfl (nums_at (l := [b]) (i := 0) rfl), _, rfl, c, CC, dx, _, _, rfl, hc, TC.cl, TC.nL, lkL, a, pl, av, ab, st, b, d, rfl, hi, hpl, o⟩
    have n0 : k ≠ 0 := fun z => of_decide_eq_false e0 (by rw [z]; rfl)
    clear e0
    refine ⟨_, rfl, c, CC, dx, _, _, rfl, hc, TC.cl, TC.nK, lkK, rfl, _, rfl, iteB (fun e0 => ?_) (fun e0 => ?_)⟩
    · have ek : k = 1 := by have := V.int.inj (of_decide_eq_true e0); omega
      subst ek
      cases ci with
      | branch b v =>
        exact ⟨_, rfl, _, rfl, pn, _, _, _, rfl, rfl, SqL.of hpn, at_of (j := 0) rfl (nums_at (l := [b, v]) (i := 0) rfl), _, rfl, pn, _, _, _, rfl, rfl, SqL.of hpn, at_of (j := 1) rfl (nums_at (l := [b, v]) (i := 1) rfl), a, av, ab, st, b, v, rfl, hi, o⟩
    have n1 : k ≠ 1 := fun z => of_decide_eq_false e0 (by rw [z]; rfl)
    clear e0
    refine ⟨_, rfl, c, CC, dx, _, _, rfl, hc, TC.cl, TC.nK, lkK, rfl, _, rfl, iteB (fun e0 => ?_) (fun e0 => ?_)⟩
    · have ek : k = 2 := by have := V.int.inj (of_decide_eq_true e0); omega
      subst ek
      cases ci with
      | drop b =>
        exact ⟨_, rfl, _, rfl, pn, _, _, _, rfl, rfl, SqL.of hpn, at_of (j := 0) rfl (nums_at (l := [b]) (i := 0) rfl), a, av, ab, st, b, rfl, hi, o⟩
    have n2 : k ≠ 2 := fun z => of_decide_eq_false e0 (by rw [z]; rfl)
    clear e0
    refine ⟨_, rfl, c, CC, dx, _, _, rfl, hc, TC.cl, TC.nK, lkK, rfl, _, rfl, iteB (fun e0 => ?_) (fun e0 => ?_)⟩
    · have ek : k = 3 := by have := V.int.inj (of_decide_eq_true e0); omega
      subst ek
      cases ci with
      | head b =>
        exact ⟨_, rfl, _, rfl, pn, _, _, _, rfl, rfl, SqL.of hpn, at_of (j := 0) rfl (nums_at (l := [b]) (i := 0) rfl), a, av, ab, st, b, rfl, hi, o⟩
    have n3 : k ≠ 3 := fun z => of_decide_eq_false e0 (by rw [z]; rfl)
    clear e0
    refine ⟨_, rfl, c, CC, dx, _, _, rfl, hc, TC.cl, TC.nK, lkK, (by show 4 ≤ sizeLine; decide), fun t4 ht4 => ?_⟩
    have s4 : Same H (upd H t4 (.tup [V.int 4, V.int 5, V.int 6, V.int 13])) := same_new ht4
    have einV : ∀ l : List Nat, inV (V.int (k : Int)) (nums l) = decide (k ∈ l) := fun l => by
      rw [inV_nums]
      by_cases z : k ∈ l
      · rw [decide_eq_true z]; exact List.contains_iff_mem.mpr z
      · rw [decide_eq_false z]
        cases q : l.contains k with
        | false => rfl
        | true => exact absurd (List.contains_iff_mem.mp q) z
    refine ⟨t4, _, rfl, .inr (SqT.of upd_same), rfl, rfl, _, rfl, ?_⟩
    have hi4 := hi.mono s4
    have o4 := o.later s4
    have hc4 := s4 _ _ hc
    have hpn4 : LnAt (upd H t4 (.tup [V.int 4, V.int 5, V.int 6, V.int 13])) pn ns := s4 _ _ hpn
    have hpl4 := hpl.mono (wo_mono (x := CV.x) (av := av) (ab := ab) s4)
    refine iteB (fun e0 => ?_) (fun e0 => ?_)
    · have ek : k ∈ [4, 5, 6, 13] := by
        have z : inV (V.int (k : Int)) (nums [4, 5, 6, 13]) = true := e0
        rw [einV] at z
        exact of_decide_eq_true z
      have fin : ∀ v, ns = [v] → x = verCall k v → _ := fun v en ex => by
        subst en
        rw [ex] at o4
        exact (⟨_, rfl, _, rfl, c, CC, dx, _, _, rfl, hc4, TC.cl, TC.nK, lkK, _, rfl, pn, _, _, _, rfl, rfl, SqL.of hpn4, at_of (j := 0) rfl (nums_at (l := [v]) (i := 0) rfl), a, av, ab, st, k, v, rfl, hi4, o4⟩ : tRet (tCall (spOfVersion CH CV CR) [] E (tCons (tVar 0) (tCons (tFld K (tVar 1) "kind") (tCons (tOp (rIxL K) (tVar 2) (tC (.int 0))) tNil)))) { nx := fun _ H' => Q .non H', rt := Q } [some (.ref a), some (.ref c), some (.ref pn), none] (upd H t4 (.tup [V.int 4, V.int 5, V.int 6, V.int 13])))
      have ek' : k = 4 ∨ k = 5 ∨ k = 6 ∨ k = 13 := by simpa using ek
      rcases ek' with z | z | z | z <;> subst z <;> cases ci <;> exact fin _ rfl rfl
    have m4 : k ∉ [4, 5, 6, 13] := fun z => by
      have z' : inV (V.int (k : Int)) (nums [4, 5, 6, 13]) = false := e0
      rw [einV, decide_eq_true z] at z'
      cases z'
    clear e0
    generalize hH4 : upd H t4 (.tup [V.int 4, V.int 5, V.int 6, V.int 13]) = H4 at *
    refine ⟨_, rfl, c, CC, dx, _, _, rfl, hc4, TC.cl, TC.nK, lkK, (by show 2 ≤ sizeLine; decide), fun t5 ht5 => ?_⟩
    have s5 : Same H4 (upd H4 t5 (.tup [V.int 7, V.int 8])) := same_new ht5
    refine ⟨t5, _, rfl, .inr (SqT.of upd_same), rfl, rfl, _, rfl, ?_⟩
    have hi5 := hi4.mono s5
    have o5 := o4.later s5
    have hc5 := s5 _ _ hc4
    have hpn5 : LnAt (upd H4 t5 (.tup [V.int 7, V.int 8])) pn ns := s5 _ _ hpn4
    have hpl5 := hpl4.mono (wo_mono (x := CV.x) (av := av) (ab := ab) s5)
    refine iteB (fun e0 => ?_) (fun e0 => ?_)
    · have ek : k ∈ [7, 8] := by
        have z : inV (V.int (k : Int)) (nums [7, 8]) = true := e0
        rw [einV] at z
        exact of_decide_eq_true z
      have fin : ∀ u v, ns = [u, v] → x = twoCall k u v → _ := fun u v en ex => by
        subst en
        rw [ex] at o5
        exact (⟨_, rfl, _, rfl, c, CC, dx, _, _, rfl, hc5, TC.cl, TC.nK, lkK, _, rfl, a, pn, av, ab, st, k, u, v, rfl, hi5, hpn5, o5⟩ : tRet (tCall (spOfTwo CH CV CR) [] E (tCons (tVar 0) (tCons (tFld K (tVar 1) "kind") (tCons (tVar 2) tNil)))) { nx := fun _ H' => Q .non H', rt := Q } [some (.ref a), some (.ref c), some (.ref pn), none] (upd H4 t5 (.tup [V.int 7, V.int 8])))
      have ek' : k = 7 ∨ k = 8 := by simpa using ek
      rcases ek' with z | z <;> subst z <;> cases ci <;> exact fin _ _ rfl rfl
    have m5 : k ∉ [7, 8] := fun z => by
      have z' : inV (V.int (k : Int)) (nums [7, 8]) = false := e0
      rw [einV, decide_eq_true z] at z'
      cases z'
    clear e0
    generalize hH5 : upd H4 t5 (.tup [V.int 7, V.int 8]) = H5 at *
    refine ⟨_, rfl, c, CC, dx, _, _, rfl, hc5, TC.cl, TC.nK, lkK, (by show 3 ≤ sizeLine; decide), fun t6 ht6 => ?_⟩
    have s6 : Same H5 (upd H5 t6 (.tup [V.int 9, V.int 10, V.int 11])) := same_new ht6
    refine ⟨t6, _, rfl, .inr (SqT.of upd_same), rfl, rfl, _, rfl, ?_⟩
    have hi6 := hi5.mono s6
    have o6 := o5.later s6
    have hc6 := s6 _ _ hc5
    have hpn6 : LnAt (upd H5 t6 (.tup [V.int 9, V.int 10, V.int 11])) pn ns := s6 _ _ hpn5
    have hpl6 := hpl5.mono (wo_mono (x := CV.x) (av := av) (ab := ab) s6)
    refine iteB (fun e0 => ?_) (fun e0 => ?_)
    · have ek : k ∈ [9, 10, 11] := by
        have z : inV (V.int (k : Int)) (nums [9, 10, 11]) = true := e0
        rw [einV] at z
        exact of_decide_eq_true z
      have fin : ∀ u v, ns = [u, v] → x = kindCall k u v → _ := fun u v en ex => by
        subst en
        rw [ex] at o6
        exact (⟨_, rfl, _, rfl, c, CC, dx, _, _, rfl, hc6, TC.cl, TC.nK, lkK, _, rfl, a, pn, av, ab, st, k, u, v, rfl, hi6, hpn6, o6⟩ : tRet (tCall (spOfBranch CH CV CR) [] E (tCons (tVar 0) (tCons (tFld K (tVar 1) "kind") (tCons (tVar 2) tNil)))) { nx := fun _ H' => Q .non H', rt := Q } [some (.ref a), some (.ref c), some (.ref pn), none] (upd H5 t6 (.tup [V.int 9, V.int 10, V.int 11])))
      have ek' : k = 9 ∨ k = 10 ∨ k = 11 := by simpa using ek
      rcases ek' with z | z | z <;> subst z <;> cases ci <;> exact fin _ _ rfl rfl
    have m6 : k ∉ [9, 10, 11] := fun z => by
      have z' : inV (V.int (k : Int)) (nums [9, 10, 11]) = false := e0
      rw [einV, decide_eq_true z] at z'
      cases z'
    clear e0
    generalize hH6 : upd H5 t6 (.tup [V.int 9, V.int 10, V.int 11]) = H6 at *
    refine ⟨_, rfl, c, CC, dx, _, _, rfl, hc6, TC.cl, TC.nK, lkK, rfl, _, rfl, iteB (fun e0 => ?_) (fun e0 => ?_)⟩
    · have ek : k = 12 := by have := V.int.inj (of_decide_eq_true e0); omega
      subst ek
      cases ci with
      | try_ oo aa d hd9 =>
        rw [step_try] at o6
        refine ⟨_, rfl, _, rfl, c, CC, dx, _, _, rfl, hc6, TC.cl, TC.nL, lkL, pn, pl, oo, aa, d, rfl, hpn6, hpl6.mono wo_sub, hd9, fun H' p sx hp hp' => ?_, ?_⟩
        · exact o6.1 H' p (wo_mono sx) (hi6.mono sx) hp hp'
        · exact o6.refL hi6 rfl
    have n12 : k ≠ 12 := fun z => of_decide_eq_false e0 (by rw [z]; rfl)
    clear e0
    have ec : x = .count := by
      simp only [List.mem_cons, List.not_mem_nil, or_false, not_or] at m4 m5 m6
      cases ci with
      | count => rfl
      | commit => exact absurd rfl n0
      | branch => exact absurd rfl n1
      | drop => exact absurd rfl n2
      | head => exact absurd rfl n3
      | doc => exact absurd rfl m4.1
      | parents => exact absurd rfl m4.2.1
      | log => exact absurd rfl m4.2.2.1
      | common => exact absurd rfl m5.1
      | way => exact absurd rfl m5.2
      | merge => exact absurd rfl m6.1
      | pick => exact absurd rfl m6.2.1
      | undo => exact absurd rfl m6.2.2
      | try_ => exact absurd rfl n12
      | origins => exact absurd rfl m4.2.2.2
    subst ec
    have es : Hist.step st .count = (st, ⟨(st.book.length : Nat), [st.heads.map fun (o : Option Nat) => match o with
      | none => 0
      | some v => v + 1]⟩) := rfl
    rw [es] at o6
    obtain ⟨dh, h1⟩ := id hi6.inst
    obtain ⟨vs, h3, h4, h5⟩ := id hi6.vers
    have h8 := hi6.wf.heads
    refine ⟨_, rfl, a, CH, dh, _, _, rfl, h1, T.cl, T.nV, lkHv, av, _, rfl, .inl (SqL.of h3), (by show 1 ≤ sizeLine; decide), fun l hl => ?_⟩
    have s7 : Same H6 (upd H6 l (.lst [V.int ((refs vs).length : Nat)])) := same_new hl
    have hb7 := s7 _ _ hi6.brs
    refine ⟨_, rfl, a, CH, dh, _, _, rfl, s7 _ _ h1, T.cl, T.nB, lkHb, ab, rfl, ⟨_, SqL.of hb7⟩, fun D hD => ?_⟩
    refine lc_list (K := K) (a := ab) (xs := st.heads.map headV) (fun i H' => Same (upd H6 l (.lst [V.int ((refs vs).length : Nat)])) H' ∧ H' D = some (.lst (nums ((st.heads.map fun (o : Option Nat) => match o with
      | none => 0
      | some v => v + 1).take i))))
      ⟨same_new hD, upd_same⟩ (fun i H' _ ⟨sx, _⟩ => SqL.of (sx _ _ hb7)) ?_ ?_
    · rintro i y H' hy ⟨sx, hDb⟩
      rw [List.getElem?_map] at hy
      obtain ⟨oo, ho, rfl⟩ : ∃ oo, st.heads[i]? = some oo ∧ headV oo = y := by
        cases z : st.heads[i]? with
        | none => rw [z] at hy; cases hy
        | some oo => rw [z] at hy; exact ⟨oo, rfl, Option.some.inj hy⟩
      have hi8 : i < 8 := by have := (List.getElem?_eq_some_iff.mp ho).1; omega
      have eh : ∃ n : Int, headV oo = V.int n ∧ n + 1 = (((fun (o : Option Nat) => match o with
        | none => 0
        | some v => v + 1) oo : Nat) : Int) := by
        cases oo with
        | none => exact ⟨-1, rfl, rfl⟩
        | some v => exact ⟨(v : Int), rfl, rfl⟩
      obtain ⟨n, en, en2⟩ := eh
      have hm : (st.heads.map fun (o : Option Nat) => match o with
        | none => 0
        | some v => v + 1)[i]? = some ((fun (o : Option Nat) => match o with
        | none => 0
        | some v => v + 1) oo) := by rw [List.getElem?_map, ho]; rfl
      refine ⟨rfl, _, rfl, n, 1, en, rfl, _, hDb, ?_, ?_, ?_⟩
      · rw [nums_len]
        have := List.length_take_le i (st.heads.map fun (o : Option Nat) => match o with
          | none => 0
          | some v => v + 1)
        exact ltline (by omega)
      · intro c' u z
        rw [upd_ne (ne_of_none z hD)]
        exact sx c' u z
      · rw [upd_same, take_more hm, nums_app, show (fun i j => V.int (i + j)) n (1 : Int) = V.int (n + 1) from rfl, en2]
        rfl
    · rintro H7 ⟨sx, hDb⟩
      rw [List.length_map, ← List.length_map (f := fun (o : Option Nat) => match o with
        | none => 0
        | some v => v + 1), List.take_length] at hDb
      refine ⟨D, _, rfl, hDb, by rw [nums_len, List.length_map]; omega, fun H8 r s8 hr0 hr8 => ?_⟩
      refine ⟨l, r, _, _, rfl, rfl, s8 _ _ (sx _ _ upd_same), hr8, line1000 (by show 1 + (_ + 1) ≤ _; rw [nums_len, List.length_map]; omega), fun p hp => ?_⟩
      have s9 : Same H6 H8 := s7.trans (sx.trans s8)
      refine o6.1 _ p (wo_mono (s9.trans (same_new hp))) (hi6.mono (s9.trans (same_new hp))) (s9.free hp) ?_
      rw [upd_same, shown_one, refs_len, h4, nums_len, nums_zs]
      rfl
end
end Wb
namespace Wb
open PySem PySem.Spec PyProof.Rows L2

def spTorA (CH : Addr) (CV : Par) (CC : Addr) : Sp := fun vs H Q _ => ∃ (a c av ab pn pl dx : Addr) (e : V) (s : Hist.State) (k : Nat) (ns : List Nat) (d : Doc) (x : Hist.Call), vs = [.ref a, .ref c] ∧ HistAt CH CV H a av ab s ∧ H c = some (.ins CC dx [("kind", .int (k : Int)), ("some", .ref pn), ("lists", .ref pl), ("behind", e)]) ∧ LnAt H pn ns ∧ DcAt (wo CV.x av ab H) pl d ∧
  CallIs k ns d x ∧ ∀ (H' : Hp) (p : Addr), Same (wo CV.x av ab H) (wo CV.x av ab H') → HistAt CH CV H' a av ab (Hist.step s x).1 → H p = none → H' p = some (.lst (zs (HistNeutral.shown (Hist.step s x).2))) → Q (.ref p) H'
def spTor (CH c0 CC : Addr) : Sp := fun vs H Q E => ∃ (x : Addr) (o : HO), spTorA CH ⟨c0, x, o⟩ CC vs H Q E
abbrev sTor : Stmt := top 64
section
variable {P : Program} {w : World} {K : PySem.W.Frag} {mg : Str → Option Value} {base : Heap} {CH CR fI CC : Addr}
theorem scTor : FnScope ["history", "call", "refusal"] ["history", "call"] (defScope sTor) := ⟨rfl, rfl, rfl, by decide +kernel, rfl, by decide +kernel, by decide +kernel⟩
theorem ok_torA {CV : Par} {f : Addr} {fd : FuncData} (F : Fun K "told_or_refused" "told_or_refused" sTor f fd) (TR : PySem.RefX.RefTxt K mg CR fI) (GT : Has P w K mg base (L2.CX P w) 10 "told" ["history", "call"] (spToldC CH CV CR CC)) :
    FnOk P w K mg base CX0 11 f fd ["history", "call"] (spTorA CH CV CC) := by
  obtain ⟨fT, fdT, GT, mT, kT, bT⟩ := GT
  refine F.ok scTor (fun vs H Q E h => ?_) (fun cdv A outer s H vs Q E hr h => ?_)
  · obtain ⟨a, c, av, ab, pn, pl, dx, e, st, k, ns, d, x, rfl, _⟩ := h
    rfl
  · have nd := scTor.nd
    have hr1 : Room 10 _ := hr.mono (by decide)
    refine ⟨_, pss_one (ps_try_as (i := 2) (tb := fun W => tRet (tCallS (spToldC CH CV CR CC) (WE W) (tCons (tVar 0) (tCons (tVar 1) tNil)))) (ts := fun a cls d => tRet (tByRef CR a cls d (tVar 2))) (Wout := fun _ _ _ _ => False) rfl rfl nd rfl rfl ⟨rfl, by decide, .inl TR.gC⟩ takes0
      (fun W pn xe tk _ => pss_one (ps_ret (by exact (pe_callS GT hr1 rfl mT kT bT (fun σ => passAt tk σ) (by exact (pa_cons (pv 0) (pa_cons (pv 1) pa_nil)))))))
      (fun a oe cls d pn hz hf => pss_one (ps_ret (pe_byRef TR hz hf (pv 2))))), ?_⟩
    obtain ⟨a, c, av, ab, pn, pl, dx, e, st, k, ns, d, x, rfl, hi, hc, hpn, hpl, ci, q⟩ := h
    refine ⟨_, rfl, _, rfl, a, c, av, ab, pn, pl, dx, e, st, k, ns, d, x, rfl, hi, hc, hpn, hpl, ci, fun H' p s' hi' hp hp' => q H' p s' hi' hp hp', fun H' d' p s' hi' hd hp hp' => ?_⟩
    refine ⟨true, TR.te, fun _ a0 _ => ?_, fun z => Bool.noConfusion z⟩
    exact ⟨_, rfl, rfl, rfl, d', _, rfl, hd, q H' p s' hi' hp hp'⟩
theorem ok_tor {c0 : Addr} {f : Addr} {fd : FuncData} (F : ∀ CV : Par, CV.c = c0 → FnOk P w K mg base CX0 11 f fd ["history", "call"] (spTorA CH CV CC)) :
    FnOk P w K mg base CX0 11 f fd ["history", "call"] (spTor CH c0 CC) := by
  refine ⟨fun vs H Q E h => ?_, fun A outer s H args us vs Q E hr he hb hv hs => ?_⟩
  · obtain ⟨x, o, h⟩ := h
    exact (F ⟨c0, x, o⟩ rfl).len vs H Q E h
  · obtain ⟨x, o, h⟩ := hs
    exact (F ⟨c0, x, o⟩ rfl).run A outer s H args us vs Q E hr he hb hv h

theorem cput2 {a b : V} : putF "some" b (putF "kind" a []) = [(("kind" : Str), a), (("some" : Str), b)] := (put_past (by decide +kernel)).trans rfl
theorem cput3 {a b c : V} : putF "lists" c [(("kind" : Str), a), (("some" : Str), b)] = [(("kind" : Str), a), (("some" : Str), b), (("lists" : Str), c)] := (put_past (by decide +kernel)).trans (congrArg _ ((put_past (by decide +kernel)).trans rfl))
theorem cput4 {a b c d : V} : putF "behind" d [(("kind" : Str), a), (("some" : Str), b), (("lists" : Str), c)] = [(("kind" : Str), a), (("some" : Str), b), (("lists" : Str), c), (("behind" : Str), d)] := (put_past (by decide +kernel)).trans (congrArg _ ((put_past (by decide +kernel)).trans (congrArg _ ((put_past (by decide +kernel)).trans rfl))))
abbrev sCallInit : Stmt := inClass (top 41) 0
theorem scCI : FnScope ["self", "kind", "numbers", "lists", "behind"] ["self", "kind", "numbers", "lists", "behind"] (defScope sCallInit) := ⟨rfl, rfl, rfl, by decide +kernel, rfl, by decide +kernel, by decide +kernel⟩
theorem ok_callInit {f : Addr} {fd : FuncData} (F : Fun K "__init__" "Call.__init__" sCallInit f fd) (T : CallT K CC) : FnOk P w K mg base CX0 1 f fd ["self", "kind", "numbers", "lists", "behind"] (spNew CC ["kind", "some", "lists", "behind"]) := by
  refine F.ok scCI (fun vs H Q E h => ?_) (fun cdv A outer s H vs Q E hr h => ?_)
  · obtain ⟨p, dx, args, rfl, hl, _⟩ := h
    simpa using hl
  · refine ⟨_, pss_cons (ps_fld (pv 0) (pv 1) rfl) (pss_cons (ps_fld (pv 0) (pv 2) rfl) (pss_cons (ps_fld (pv 0) (pv 3) rfl) (pss_one (ps_fld (pv 0) (pv 4) rfl)))), ?_⟩
    obtain ⟨p, dx, args, rfl, hl, hp, k⟩ := h
    match args, hl with
    | [x1, x2, x3, x4], _ =>
    refine ⟨_, rfl, _, rfl, p, CC, dx, [], rfl, hp, T.cl, T.nK, (by show 0 < 1000; decide), ?_⟩
    refine ⟨_, rfl, _, rfl, p, CC, dx, _, rfl, upd_same, T.cl, T.nS, (by show 1 < 1000; decide), ?_⟩
    refine ⟨_, rfl, _, rfl, p, CC, dx, _, rfl, upd_same, T.cl, T.nL, (by rw [cput2]; show 2 < 1000; decide), ?_⟩
    rw [cput2, cput3]
    refine ⟨_, rfl, _, rfl, p, CC, dx, _, rfl, upd_same, T.cl, T.nB, (by show 3 < 1000; decide), ?_⟩
    rw [cput4]
    exact k _ upd_same fun b o e hb => by rw [upd_ne hb, upd_ne hb, upd_ne hb, upd_ne hb]; exact e
end

theorem drop_at {α : Type} {l : List α} {e : Nat} {n : α} {r : List α} (h : l.drop e = n :: r) : l[e]? = some n ∧ r = l.drop (e + 1) ∧ e < l.length := by
  have h1 : (l.drop e)[0]? = some n := by rw [h]; rfl
  rw [List.getElem?_drop, Nat.add_zero] at h1
  refine ⟨h1, ?_, (List.getElem?_eq_some_iff.mp h1).1⟩
  have h2 : (l.drop e).drop 1 = r := by rw [h]; rfl
  rw [List.drop_drop] at h2
  exact h2.symm
theorem row_at {l : List Int} {e : Nat} {x s : List Int} (h : PyFlat.row (l.drop e) = some (x, s)) : ∃ m : Nat, l[e]? = some (m : Int) ∧ x = (l.drop (e + 1)).take m ∧ s = l.drop (e + 1 + m) ∧ e + 1 + m ≤ l.length := by
  cases q : l.drop e with
  | nil => rw [q] at h; cases h
  | cons n r =>
    obtain ⟨h1, h2, h3⟩ := drop_at q
    rw [q] at h
    unfold PyFlat.row at h
    simp only [] at h
    by_cases c : 0 ≤ n ∧ n.toNat ≤ r.length
    · rw [if_pos c] at h
      have h' := Option.some.inj h
      have hl : r.length = l.length - (e + 1) := by rw [h2, List.length_drop]
      refine ⟨n.toNat, ?_, ?_, ?_, by omega⟩
      · rw [h1, Int.toNat_of_nonneg c.1]
      · rw [← (Prod.mk.inj h').1, h2]
      · rw [← (Prod.mk.inj h').2, h2, List.drop_drop]
    · rw [if_neg c] at h
      cases h
theorem call_at_is {l : List Int} {a : Nat} {p : Int} {ns : List Int} {xs : List (List Int)} {t : List Int} (h : PyWide.call (l.drop a) = some ((p :: ns) :: xs, t)) :
    ∃ m k : Nat, l[a]? = some p ∧ l[a + 1]? = some (m : Int) ∧ ns = (l.drop (a + 2)).take m ∧ l[a + 2 + m]? = some (k : Int) ∧ PyFlat.rows k (l.drop (a + 2 + m + 1)) = some (xs, t) := by
  cases q : l.drop a with
  | nil => rw [q] at h; cases h
  | cons p' r =>
    obtain ⟨h1, h2, h3⟩ := drop_at q
    rw [q] at h
    unfold PyWide.call at h
    simp only [] at h
    cases q1 : PyFlat.row r with
    | none => rw [q1] at h; cases h
    | some z =>
      obtain ⟨ns', s⟩ := z
      rw [q1] at h
      cases s with
      | nil => cases h
      | cons k t' =>
        simp only [] at h
        by_cases c : 0 ≤ k
        · rw [if_pos c] at h
          cases q2 : PyFlat.rows k.toNat t' with
          | none => rw [q2] at h; cases h
          | some z2 =>
            obtain ⟨xs', u⟩ := z2
            rw [q2] at h
            simp only [Option.some.injEq, Prod.mk.injEq, List.cons.injEq] at h
            obtain ⟨⟨⟨e1, e2⟩, e3⟩, e4⟩ := h
            subst e1 e2 e3 e4
            rw [h2] at q1
            obtain ⟨m, g1, g2, g3, g4⟩ := row_at q1
            obtain ⟨w1, w2, w3⟩ := drop_at g3.symm
            refine ⟨m, k.toNat, h1, g1, g2, ?_, ?_⟩
            · rw [show a + 2 + m = a + 1 + 1 + m by omega, w1, Int.toNat_of_nonneg c]
            · rw [show a + 2 + m + 1 = a + 1 + 1 + m + 1 by omega, ← w2]
              exact q2
        · rw [if_neg c] at h
          cases h
theorem rows_more {k : Nat} {r : List Int} {xs : List (List Int)} {t : List Int} (h : PyFlat.rows (k + 1) r = some (xs, t)) : ∃ x s ys, PyFlat.row r = some (x, s) ∧ PyFlat.rows k s = some (ys, t) ∧ xs = x :: ys := by
  unfold PyFlat.rows at h
  cases q : PyFlat.row r with
  | none => rw [q] at h; cases h
  | some z =>
    obtain ⟨x, s⟩ := z
    rw [q] at h
    simp only [] at h
    cases q2 : PyFlat.rows k s with
    | none => rw [q2] at h; cases h
    | some z2 =>
      obtain ⟨ys, u⟩ := z2
      rw [q2] at h
      have h' := Option.some.inj h
      exact ⟨x, s, ys, rfl, by rw [q2, ← (Prod.mk.inj h').2], (Prod.mk.inj h').1.symm⟩
theorem rows_len : ∀ (k : Nat) (r : List Int) (xs : List (List Int)) (t : List Int), PyFlat.rows k r = some (xs, t) → xs.length = k
  | 0, r, xs, t, h => by
    have := Option.some.inj h
    rw [← (Prod.mk.inj this).1]
    rfl
  | k + 1, r, xs, t, h => by
    unfold PyFlat.rows at h
    cases q : PyFlat.row r with
    | none => rw [q] at h; cases h
    | some z =>
      obtain ⟨x, s⟩ := z
      rw [q] at h
      simp only [] at h
      cases q2 : PyFlat.rows k s with
      | none => rw [q2] at h; cases h
      | some z2 =>
        obtain ⟨ys, u⟩ := z2
        rw [q2] at h
        have h' := Option.some.inj h
        rw [← (Prod.mk.inj h').1, List.length_cons, rows_len k _ _ _ q2]
theorem rows_le : ∀ (k : Nat) (r : List Int) (xs : List (List Int)) (t : List Int), PyFlat.rows k r = some (xs, t) → k ≤ r.length
  | 0, r, xs, t, h => Nat.zero_le _
  | k + 1, r, xs, t, h => by
    obtain ⟨x, s, ys, h1, h2, _⟩ := rows_more h
    have ih := rows_le k _ _ _ h2
    cases r with
    | nil => cases h1
    | cons n r =>
      have h1' : PyFlat.row ((n :: r).drop 0) = some (x, s) := h1
      obtain ⟨m, _, _, e, hl⟩ := row_at h1'
      rw [e, List.length_drop] at ih
      omega

def CallAt (CC : Addr) (H0 H : Hp) (x : Addr) (p : Int) (ns : List Int) (xs : List (List Int)) (e : Nat) : Prop := ∃ (dx pn pl : Addr) (ls : List Addr), H x = some (.ins CC dx [("kind", .int p), ("some", .ref pn), ("lists", .ref pl), ("behind", .int (e : Int))]) ∧
  H pn = some (.lst (zs ns)) ∧ H pl = some (.lst (refs ls)) ∧ H0 pl = none ∧ Paired (fun a r => H a = some (.lst (zs r)) ∧ H0 a = none) ls xs
def spCallAt (K : PySem.W.Frag) (CC : Addr) : Sp := fun vs H Q _ => ∃ (c : Addr) (l : List Int) (a : Nat) (p : Int) (ns : List Int) (xs : List (List Int)) (t : List Int), vs = [.ref c, .int (a : Int)] ∧ SqL K H c (zs l) ∧ l.length ≤ 100000 ∧
  PyWide.call (l.drop a) = some ((p :: ns) :: xs, t) ∧ ∀ (H' : Hp) (x : Addr) (e : Nat), Same H H' → CallAt CC H H' x p ns xs e → t = l.drop e → a < e → e ≤ l.length → Q (.ref x) H'
abbrev sCallAt : Stmt := top 42
section
variable {P : Program} {w : World} {K : PySem.W.Frag} {mg : Str → Option Value} {base : Heap} {CC : Addr}
theorem scCallAt : FnScope ["calls", "at", "end", "numbers", "lists", "many", "turn", "size"] ["calls", "at"] (defScope sCallAt) := ⟨rfl, rfl, rfl, by decide +kernel, rfl, by decide +kernel, by decide +kernel⟩
theorem ok_callAt {f : Addr} {fd : FuncData} (F : Fun K "call_at" "call_at" sCallAt f fd) (B0 : BltT mg) (GC : HasC P w K mg base CX0 1 CC "Call" ["self", "kind", "numbers", "lists", "behind"] (spNew CC ["kind", "some", "lists", "behind"])) :
    FnOk P w K mg base CX0 3 f fd ["calls", "at"] (spCallAt K CC) := by
  obtain ⟨fC, fdC, GC, MC, mC, bC⟩ := GC
  refine F.ok scCallAt (fun vs H Q E h => ?_) (fun cdv A outer s H vs Q E hr h => ?_)
  · obtain ⟨c, l, a, p, ns, xs, t, rfl, _⟩ := h
    rfl
  · have nd := scCallAt.nd
    have hr2 : Room 2 _ := hr.mono (by decide)
    refine ⟨_, pss_cons (ps_set (i := 2) nd rfl (.inl rfl) (pe_op op_add (pe_op op_add (pv 1) pe_int) (pe_ix ix_list (pv 0) (pe_op op_add (pv 1) pe_int) (fun _ _ => rfl))))
      (pss_cons (ps_set (i := 3) nd rfl (.inl rfl) (pe_slice sl_list (pv 0) (po_some (pe_op op_add (pv 1) pe_int)) (po_some (pv 2))))
      (pss_cons (ps_set (i := 4) nd rfl (.inl rfl) (pe_lst pa_nil))
      (pss_cons (ps_set (i := 5) nd rfl (.inl rfl) (pe_ix ix_list (pv 0) (pv 2) (fun _ _ => rfl)))
      (pss_cons (ps_aug (i := 2) nd rfl (.inl rfl) pe_int ip_add)
      (pss_cons (ps_for PassesOwn.never rfl (pi_range1 (by rfl) B0.range (pa_cons (pv 5) pa_nil)) (pg_name (i := 6) nd rfl (.inl rfl))
        (pss_cons (ps_set (i := 7) nd rfl (.inl rfl) (pe_ix ix_list (pv 0) (pv 2) (fun _ _ => rfl)))
        (pss_cons (ps_expr (pe_bm PySem.F.plainAttrs_list PySem.F.slot_list_append PySem.F.type_list_append mt_append (pv 4) (pa_cons (pe_slice sl_list (pv 0) (po_some (pe_op op_add (pv 2) pe_int)) (po_some (pe_op op_add (pe_op op_add (pv 2) pe_int) (pv 7)))) pa_nil)))
        (pss_one (ps_aug (i := 2) nd rfl (.inl rfl) (pe_op op_add pe_int (pv 7)) ip_add)))))
      (pss_one (ps_ret (pe_make MC GC hr2 (by rfl) mC bC .nil pass0 (pa_cons (pe_ix ix_list (pv 0) (pv 1) (fun _ _ => rfl)) (pa_cons (pv 3) (pa_cons (pv 4) (pa_cons (pv 2) pa_nil)))))))))))), ?_⟩
    obtain ⟨c, l, a, p, ns, xs, t, rfl, hc, hl, hcall, k⟩ := h
    obtain ⟨m, n, g1, g2, g3, g4, g5⟩ := call_at_is hcall
    have hlen : (zs l).length = l.length := zs_len l
    have ge : a + 2 + m < l.length := (List.getElem?_eq_some_iff.mp g4).1
    have hxs : xs.length = n := rows_len _ _ _ _ g5
    have hnl : n ≤ 100000 := by
      have := rows_le _ _ _ _ g5
      rw [List.length_drop] at this
      omega
    refine ⟨_, rfl, _, _, rfl, rfl, _, rfl, _, rfl, _, _, rfl, rfl, c, _, _, _, rfl, rfl, hc, at_of (j := a + 1) rfl (zs_at g2), _, _, rfl, rfl, ?_⟩
    have E0 : ((fun i j => V.int (i + j)) ((a : Int) + 2) (m : Int)) = V.int ((a + 2 + m : Nat) : Int) := rfl
    rw [E0]
    clear E0
    refine ⟨_, rfl, _, rfl, _, _, rfl, rfl, _, rfl, _, rfl, _, rfl, c, _, rfl, hc, fun pn hpn => ?_⟩
    rw [show ((a : Int) + 2) = ((a + 2 : Nat) : Int) from rfl, cut_nat, show (a + 2 + m) - (a + 2) = m by omega]
    have E1 : ((zs l).drop (a + 2)).take m = zs ns := by
      rw [g3]
      unfold zs
      rw [← List.map_drop, ← List.map_take]
    rw [E1]
    have s1 : Same H (upd H pn (.lst (zs ns))) := same_new hpn
    have hpn1 : upd H pn (.lst (zs ns)) pn = some (.lst (zs ns)) := upd_same
    generalize hH1 : upd H pn (.lst (zs ns)) = H1 at *
    refine ⟨Nat.zero_le _, fun pl hpl => ?_⟩
    have s2 : Same H1 (upd H1 pl (.lst [])) := same_new hpl
    have s12 := s1.trans s2
    have hplH : H pl = none := s1.free hpl
    refine ⟨_, rfl, _, rfl, c, _, _, _, rfl, rfl, s12.seq hc, atI_nat (zs_at g4), ?_⟩
    refine ⟨_, rfl, _, _, rfl, rfl, ?_⟩
    refine ⟨_, rfl, (n : Int), rfl, (by omega), (by omega), ?_⟩
    rw [show ((n : Nat) : Int).toNat = n from rfl]
    refine for_range (lo := 0) (n := n) (fun i σ H' => Same H1 H' ∧ ∃ (e : Nat) (ls : List Addr) (v6 v7 : Option V), σ = [some (.ref c), some (.int (a : Int)), some (.int (e : Int)), some (.ref pn), some (.ref pl), some (.int (n : Int)), v6, v7] ∧ H' pl = some (.lst (refs ls)) ∧ a < e ∧ e ≤ l.length ∧
        PyFlat.rows (n - i) (l.drop e) = some (xs.drop i, t) ∧ Paired (fun b r => H' b = some (.lst (zs r)) ∧ H1 b = none ∧ b ≠ pl) ls (xs.take i))
      ⟨s2, a + 2 + m + 1, [], none, none, rfl, upd_same, by omega, by omega, g5, .nil⟩ ?_ ?_
    · rintro i σ H' hi ⟨s5, e, ls, v6, v7, rfl, hfd, hae, hel, hrows, hps⟩
      obtain ⟨j, ej⟩ : ∃ j, n - i = j + 1 := ⟨n - i - 1, by omega⟩
      rw [ej] at hrows
      obtain ⟨x, sr, ys, q1, q2, q3⟩ := rows_more hrows
      obtain ⟨z, r1, r2, r3, r4⟩ := row_at q1
      have hcs := (s1.trans s5).seq hc
      have hxi : xs[i]? = some x := by
        have : (xs.drop i)[0]? = some x := by rw [q3]; rfl
        rwa [List.getElem?_drop, Nat.add_zero] at this
      have hys : ys = xs.drop (i + 1) := by
        have : (xs.drop i).drop 1 = ys := by rw [q3]; rfl
        rw [List.drop_drop] at this
        exact this.symm
      refine ⟨_, rfl, _, rfl, c, _, _, _, rfl, rfl, hcs, atI_nat (zs_at r1), ?_⟩
      refine ⟨_, rfl, .inl ⟨rfl, _, SqL.of hfd⟩, _, rfl, _, rfl, _, _, rfl, rfl, _, rfl, _, rfl, _, _, rfl, rfl, _, rfl, _, _, rfl, rfl, _, rfl, c, _, rfl, hcs, fun b hb => ?_⟩
      rw [show ((e : Int) + 1) = ((e + 1 : Nat) : Int) from rfl, show (((e + 1 : Nat) : Int) + (z : Int)) = ((e + 1 + z : Nat) : Int) from rfl, cut_nat, show (e + 1 + z) - (e + 1) = z by omega]
      have E2 : ((zs l).drop (e + 1)).take z = zs x := by
        rw [r2]
        unfold zs
        rw [← List.map_drop, ← List.map_take]
      rw [E2]
      have hbp : b ≠ pl := fun q => by rw [q, hfd] at hb; cases hb
      have hlsl : ls.length = i := by
        have := hps.length
        rw [List.length_take] at this
        omega
      refine ⟨pl, _, _, rfl, rfl, (by rw [upd_ne (Ne.symm hbp)]; exact hfd), (by rw [refs_len]; exact ltline (by omega)), ?_⟩
      refine ⟨_, rfl, _, rfl, _, _, rfl, rfl, _, _, rfl, rfl, ?_⟩
      refine ⟨fun c' u q => ?_, e + 1 + z, ls ++ [b], some (.int (0 + (i : Int))), some (.int (z : Int)), ?_, ?_, by omega, r4, ?_, ?_⟩
      · rw [upd_ne (ne_of_none q hpl), upd_ne (ne_of_none (s5 _ _ q) hb)]
        exact s5 _ _ q
      · rw [show ((e + 1 + z : Nat) : Int) = (e : Int) + (1 + (z : Int)) by omega]
        rfl
      · rw [upd_same, refs_app]
        rfl
      · rw [show n - (i + 1) = j by omega, ← hys, ← r3]
        exact q2
      · rw [take_more hxi]
        refine pair_app (pair_mono (fun b' r' ⟨p1, p2, p3⟩ => ⟨by rw [upd_ne p3, upd_ne (ne_of_none p1 hb)]; exact p1, p2, p3⟩) hps) (.cons ⟨by rw [upd_ne hbp, upd_same], s5.free hb, hbp⟩ .nil)
    · rintro σ H' ⟨s5, e, ls, v6, v7, rfl, hfd, hae, hel, hrows, hps⟩
      have hcs := (s1.trans s5).seq hc
      rw [Nat.sub_self] at hrows
      have hrows' := Option.some.inj hrows
      have ht : t = l.drop e := (Prod.mk.inj hrows').2.symm
      rw [show xs.take n = xs by rw [← hxs]; exact List.take_length] at hps
      refine ⟨_, rfl, _, rfl, c, _, _, _, rfl, rfl, hcs, atI_nat (zs_at g1), _, rfl, _, rfl, _, rfl, ?_⟩
      intro x dz hx hdz nx
      refine ⟨x, dz, [.int p, .ref pn, .ref pl, .int (e : Int)], rfl, rfl, upd_same, fun H3 hx3 k3 => ?_⟩
      have s3 : Same H' H3 := Same.made hx hdz k3
      refine ⟨rfl, k H3 x e ((s1.trans s5).trans s3) ⟨dz, pn, pl, ls, hx3, s3 _ _ (s5 _ _ hpn1), s3 _ _ hfd, hplH, pair_mono (fun b' r' ⟨p1, p2, p3⟩ => ⟨s3 _ _ p1, s1.free p2⟩) hps⟩ ht hae hel⟩
end
end Wb
namespace Wb
open PySem PySem.Spec PyProof.Rows L2

abbrev up (l : List Nat) : List Int := l.map fun (n : Nat) => (n : Int)
theorem nat_of {z : Int} {b : Nat} (h : HistNeutral.natural z b = true) : 0 ≤ z := by
  unfold HistNeutral.natural at h
  rw [Bool.and_eq_true, decide_eq_true_eq] at h
  exact h.1
theorem up_nats {l : List Int} (h : ∀ z ∈ l, 0 ≤ z) : up (HistNeutral.nats l) = l := by
  unfold up HistNeutral.nats
  rw [List.map_map]
  refine (List.map_congr_left (g := id) fun z hz => ?_).trans (List.map_id _)
  show ((z.toNat : Nat) : Int) = z
  have := h z hz
  omega
theorem whole_of {l : List Int} (h : ∀ z ∈ l, 0 ≤ z) : HistNeutral.whole l = true := by
  unfold HistNeutral.whole
  rw [List.all_eq_true]
  exact fun z hz => decide_eq_true (h z hz)
def rowsOk (d : List (List Int)) : Prop := ∀ l ∈ d, ∀ z ∈ l, (0 : Int) ≤ z
theorem rowsOk_of {d : List (List Int)} (h : d.all (fun (l : List Int) => l.all (fun (z : Int) => HistNeutral.natural z 8)) = true) : rowsOk d := by
  rw [List.all_eq_true] at h
  intro l hl z hz
  have h1 := h l hl
  rw [List.all_eq_true] at h1
  exact nat_of (h1 z hz)
theorem up_rows {d : List (List Int)} (h : rowsOk d) : (d.map HistNeutral.nats).map up = d := by
  rw [List.map_map]
  refine (List.map_congr_left (g := id) fun l hl => ?_).trans (List.map_id _)
  exact up_nats (h l hl)
theorem whole_rows {d : List (List Int)} (h : rowsOk d) : d.all HistNeutral.whole = true := by
  rw [List.all_eq_true]
  exact fun l hl => whole_of (h l hl)
def CallOk (c : HistNeutral.Call) : Prop := ∃ (k : Nat) (ns : List Nat) (d : Doc) (x : Hist.Call), c = ((k : Int) :: up ns) :: d.map up ∧ CallIs k ns d x ∧ HistNeutral.callOf c = some x
theorem ok1 {k : Nat} {a : Int} {x : Nat → Hist.Call} (h : HistNeutral.natural a 64 = true) (ci : ∀ n, CallIs k [n] [] (x n)) (e : HistNeutral.callOf [[(k : Int), a]] = if HistNeutral.whole [a] = true then some (x a.toNat) else none) : CallOk [[(k : Int), a]] := by
  have h0 := nat_of h
  have w : ∀ z ∈ [a], (0 : Int) ≤ z := by simpa using h0
  refine ⟨k, [a.toNat], [], x a.toNat, ?_, ci _, ?_⟩
  · show [[(k : Int), a]] = [[(k : Int), ((a.toNat : Nat) : Int)]]
    rw [Int.toNat_of_nonneg h0]
  · rw [e, if_pos (whole_of w)]
theorem ok2 {k : Nat} {a b : Int} {x : Nat → Nat → Hist.Call} (h : (HistNeutral.natural a 64 && HistNeutral.natural b 64) = true) (ci : ∀ n m, CallIs k [n, m] [] (x n m)) (e : HistNeutral.callOf [[(k : Int), a, b]] = if HistNeutral.whole [a, b] = true then some (x a.toNat b.toNat) else none) : CallOk [[(k : Int), a, b]] := by
  rw [Bool.and_eq_true] at h
  have h0 := nat_of h.1
  have h1 := nat_of h.2
  have w : ∀ z ∈ [a, b], (0 : Int) ≤ z := by
    intro z hz
    simp only [List.mem_cons, List.not_mem_nil, or_false] at hz
    rcases hz with e | e <;> subst e <;> assumption
  refine ⟨k, [a.toNat, b.toNat], [], x a.toNat b.toNat, ?_, ci _ _, ?_⟩
  · show [[(k : Int), a, b]] = [[(k : Int), ((a.toNat : Nat) : Int), ((b.toNat : Nat) : Int)]]
    rw [Int.toNat_of_nonneg h0, Int.toNat_of_nonneg h1]
  · rw [e, if_pos (whole_of w)]
theorem fits_try {a b : Int} {d : List (List Int)} (h : PyWrsway.fits ((12 :: [a, b]) :: d) = true) : d.length ≤ 300 := by
  have e : PyWrsway.form 12 = some ([(0, 300), (0, 300)], (0, 0, 0, 0), [], (0, 0, 300, 0, 255, 0, 100)) := by simp [PyWrsway.form]
  unfold PyWrsway.fits at h
  dsimp only at h
  rw [e] at h
  simp only [Bool.and_eq_true, decide_eq_true_eq] at h
  have h1 := h.1.1.2
  simpa using h1
theorem call_ok {c : HistNeutral.Call} (h1 : HistNeutral.asked1 c = true) (h2 : PyWrsway.fits c = true) : CallOk c := by
  unfold HistNeutral.asked1 at h1
  split at h1
  · rename_i a d
    rw [Bool.and_eq_true] at h1
    have h0 := nat_of h1.1
    have w : ∀ z ∈ [a], (0 : Int) ≤ z := by simpa using h0
    have r := rowsOk_of h1.2
    refine ⟨0, [a.toNat], d.map HistNeutral.nats, .commit a.toNat (d.map HistNeutral.nats), ?_, .commit _ _, ?_⟩
    · show _ = [((0 : Nat) : Int), ((a.toNat : Nat) : Int)] :: _
      rw [Int.toNat_of_nonneg h0, up_rows r]
      rfl
    · show (if _ then _ else _) = _
      rw [if_pos ⟨whole_of w, whole_rows r⟩]
  · exact ok2 (k := 1) h1 .branch rfl
  · exact ok1 (k := 2) h1 .drop rfl
  · exact ok1 (k := 3) h1 .head rfl
  · exact ok1 (k := 4) h1 .doc rfl
  · exact ok1 (k := 5) h1 .parents rfl
  · exact ok1 (k := 6) h1 .log rfl
  · exact ok2 (k := 7) h1 .common rfl
  · exact ok2 (k := 8) h1 .way rfl
  · exact ok2 (k := 9) h1 .merge rfl
  · exact ok2 (k := 10) h1 .pick rfl
  · exact ok2 (k := 11) h1 .undo rfl
  · rename_i a b d
    have hd := fits_try h2
    rw [Bool.and_eq_true, Bool.and_eq_true, Bool.and_eq_true, decide_eq_true_eq] at h1
    have h0 := nat_of h1.1.1.1
    have hb := nat_of h1.1.1.2
    have w : ∀ z ∈ [a, b], (0 : Int) ≤ z := by
      intro z hz
      simp only [List.mem_cons, List.not_mem_nil, or_false] at hz
      rcases hz with e | e <;> subst e <;> assumption
    have r := rowsOk_of h1.2
    have hab := h1.1.2
    refine ⟨12, [a.toNat, b.toNat], d.map HistNeutral.nats, _, ?_, .try_ _ _ _ (by rw [List.length_map]; omega), ?_⟩
    · show _ = [((12 : Nat) : Int), ((a.toNat : Nat) : Int), ((b.toNat : Nat) : Int)] :: _
      rw [Int.toNat_of_nonneg h0, Int.toNat_of_nonneg hb, up_rows r]
      rfl
    · show (if _ then _ else _) = _
      rw [if_pos ⟨whole_of w, whole_rows r, by omega⟩]
      simp only [List.map_take, List.map_drop]
  · exact ok1 (k := 13) h1 .origins rfl
  · exact ⟨14, [], [], .count, rfl, .count, rfl⟩
  · cases h1
theorem call_shape {r : List Int} {c : List (List Int)} {t : List Int} (h : PyWide.call r = some (c, t)) : ∃ p ns xs, c = (p :: ns) :: xs := by
  unfold PyWide.call at h
  split at h
  · cases h
  · split at h
    · cases h
    · cases h
    · split at h
      · split at h
        · cases h
        · have h' := (Prod.mk.inj (Option.some.inj h)).1
          exact ⟨_, _, _, h'.symm⟩
      · cases h
theorem calls_more {f : Nat} {p : Int} {r : List Int} {cs : List (List (List Int))} (h : PyWide.calls f (p :: r) = some cs) : ∃ g c t ys, f = g + 1 ∧ PyWide.call (p :: r) = some (c, t) ∧ PyWide.calls g t = some ys ∧ cs = c :: ys := by
  cases f with
  | zero => cases h
  | succ g =>
    unfold PyWide.calls at h
    split at h
    · cases h
    · rename_i c t q
      split at h
      · cases h
      · rename_i ys q2
        exact ⟨g, c, t, ys, rfl, q, q2, (Option.some.inj h).symm⟩
end Wb
namespace Wb
open PySem PySem.Spec PyProof.Rows L2

theorem HistAt.out {CH c0 x : Addr} {o : HO} {H : Hp} {a av ab : Addr} {s : Hist.State} (hi : HistAt CH ⟨c0, x, o⟩ H a av ab s) (o' : HO) (ha : a ≠ x) : HistAt CH ⟨c0, x, o'⟩ (upd H x o') a av ab s := by
  obtain ⟨dx, h1⟩ := hi.inst
  obtain ⟨vs, h3, h4, h5⟩ := hi.vers
  refine ⟨⟨dx, by rw [upd_ne ha]; exact h1⟩, hi.ne, upd_same, hi.nx, ⟨vs, by rw [upd_ne (Ne.symm hi.nx.1)]; exact h3, h4, fun i v e => ?_⟩, by rw [upd_ne (Ne.symm hi.nx.2)]; exact hi.brs, hi.wf⟩
  show VerAt ⟨c0, x, o'⟩ (wo x av ab (upd H x o')) v s.book i
  rw [wo_upd (.inl rfl)]
  exact h5 i v e
theorem wf_start : WF Hist.start := by
  refine ⟨fun i x z => (by simp [Hist.start, Hist.parentsOf] at z), fun x hx => absurd hx (List.not_mem_nil), Nat.zero_le _, fun x hx => absurd hx (List.not_mem_nil), rfl, fun k v e => ?_⟩
  have e' : (List.replicate 8 (none : Option Nat))[k]? = some (some v) := e
  rw [List.getElem?_replicate] at e'
  split at e' <;> cases e'
theorem same_wo {x av ab : Addr} {H0 H1 H2 : Hp} (s : Same H0 H1) (k : Same (wo x av ab H1) (wo x av ab H2)) (nx : H0 x = none) (na : H0 av = none) (nb : H0 ab = none) : Same H0 H2 := fun b o e =>
  wo_sub _ _ (k _ _ (wo_at (s _ _ e) (fun z => by rw [z, na] at e; cases e) (fun z => by rw [z, nb] at e; cases e) (fun z => by rw [z, nx] at e; cases e)))
def spAns (K : PySem.W.Frag) : Sp := fun vs H Q _ => ∃ (c : Addr) (l : List Int), vs = [.ref c] ∧ SqL K H c (zs l) ∧ l.length ≤ 100000 ∧ PyWrsway.answers_asked l = true ∧ ∀ (H' : Hp) (p : Addr), H' p = some (.lst (zs (PyWrsway.answers l))) → Q (.ref p) H'
abbrev sAns : Stmt := top 65
section
variable {P : Program} {w : World} {K : PySem.W.Frag} {mg : Str → Option Value} {base : Heap} {CH c0 CC : Addr}
theorem scAns : FnScope ["calls", "found", "history", "at", "call", "answer"] ["calls"] (defScope sAns) := ⟨rfl, rfl, rfl, by decide +kernel, rfl, by decide +kernel, by decide +kernel⟩
theorem ok_answers {f : Addr} {fd : FuncData} (F : Fun K "answers" "answers" sAns f fd) (B0 : BltT mg) (T : HisT K CH) (TC : CallT K CC) (GH : HasC P w K mg base CX0 1 CH "History" ["self"] (spHistInit CH)) (GA : Has P w K mg base CX0 3 "call_at" ["calls", "at"] (spCallAt K CC))
    (GT : Has P w K mg base CX0 11 "told_or_refused" ["history", "call"] (spTor CH c0 CC)) : FnOk P w K mg base CX0 12 f fd ["calls"] (spAns K) := by
  obtain ⟨fH, fdH, GH, MH, mH, bH⟩ := GH
  obtain ⟨fA, fdA, GA, mA, kA, bA⟩ := GA
  obtain ⟨fT, fdT, GT, mT, kT, bT⟩ := GT
  refine F.ok scAns (fun vs H Q E h => ?_) (fun cdv A outer s H vs Q E hr h => ?_)
  · obtain ⟨c, l, rfl, _⟩ := h
    rfl
  · have nd := scAns.nd
    have hr2 : Room 2 _ := hr.mono (by decide)
    have hr3 : Room 3 _ := hr.mono (by decide)
    refine ⟨_, pss_cons (ps_set (i := 1) nd rfl (.inl rfl) (pe_lst pa_nil))
      (pss_cons (ps_set (i := 2) nd rfl (.inl rfl) (pe_make0 MH GH hr2 (by rfl) mH bH .nil pass0))
      (pss_cons (ps_set (i := 3) nd rfl (.inl rfl) pe_int)
      (pss_cons (ps_while PassesOwn.never (pt_cmpR op_lt (pv 3) (pe_callB call_len_seq (by rfl) B0.len boot_len (pa_cons (pv 0) pa_nil)) (nomark _))
        (pss_cons (ps_set (i := 4) nd rfl (.inl rfl) (pe_call GA hr3 (by rfl) mA kA bA .nil pass0 (pa_cons (pv 0) (pa_cons (pv 3) pa_nil))))
        (pss_cons (ps_set (i := 5) nd rfl (.inl rfl) (pe_call GT hr (by rfl) mT kT bT .nil pass0 (pa_cons (pv 2) (pa_cons (pv 4) pa_nil))))
        (pss_cons (ps_expr (pe_bm PySem.F.plainAttrs_list PySem.F.slot_list_append PySem.F.type_list_append mt_append (pv 1) (pa_cons (pe_callB call_len_seq (by rfl) B0.len boot_len (pa_cons (pv 5) pa_nil)) pa_nil)))
        (pss_cons (ps_expr (pe_bm PySem.F.plainAttrs_list PySem.F.slot_list_extend PySem.F.type_list_extend mt_extend (pv 1) (pa_cons (pv 5) pa_nil)))
        (pss_one (ps_set (i := 3) nd rfl (.inl rfl) (pe_fld (pv 4) rfl))))))))
      (pss_one (ps_ret (pv 1)))))), ?_⟩
    obtain ⟨c, l, rfl, hc, hl, hask, k⟩ := h
    obtain ⟨cs, hcs, hfit, hasked, hshort⟩ : ∃ cs, PyWide.calls l.length l = some cs ∧ (∀ x ∈ cs, PyWrsway.fits x = true) ∧ (∀ x ∈ cs, HistNeutral.asked1 x = true) ∧ (PyWrsway.answers l).length ≤ 10000000 := by
      unfold PyWrsway.answers_asked at hask
      cases q : PyWrsway.calls l with
      | none => rw [q] at hask; cases hask
      | some cs =>
        rw [q] at hask
        simp only [Bool.and_eq_true] at hask
        obtain ⟨⟨⟨⟨_, h1⟩, _⟩, h2⟩, h3⟩ := hask
        refine ⟨cs, q, List.all_eq_true.mp h1, List.all_eq_true.mp h2, of_decide_eq_true h3⟩
    have hans : PyWrsway.answers l = PyFlat.told (PyFlat.played HistNeutral.step HistNeutral.start cs) := by
      unfold PyWrsway.answers
      rw [show PyWrsway.calls l = some cs from hcs]
    refine ⟨Nat.zero_le _, fun fnd hf => ?_⟩
    intro a dx ha hdx nx
    refine ⟨a, dx, rfl, upd_same, fun H1 av ab hav hab nab ha1 hav1 hab1 k1 => ⟨rfl, ?_⟩⟩
    have s1 : Same (upd H fnd (.lst [])) H1 := Same.made ha hdx k1
    have s0 : Same H (upd H fnd (.lst [])) := same_new hf
    have s01 := s0.trans s1
    have sm : Same (upd H fnd (.lst [])) (upd (upd (upd H fnd (.lst [])) dx (.own a)) a (.ins CH dx [])) := fun b o e => by rw [upd_ne (ne_of_none e ha), upd_ne (ne_of_none e hdx)]; exact e
    have havH : H av = none := (s0.trans sm).free hav
    have habH : H ab = none := (s0.trans sm).free hab
    have hfnd1 : H1 fnd = some (.lst []) := s1 _ _ upd_same
    have nfa : fnd ≠ av := fun z => by
      have := sm.free hav
      rw [← z, upd_same] at this
      cases this
    have nfb : fnd ≠ ab := fun z => by
      have := sm.free hab
      rw [← z, upd_same] at this
      cases this
    have hi0 : HistAt CH ⟨c0, fnd, .lst (zs [])⟩ H1 a av ab Hist.start :=
      ⟨⟨dx, ha1⟩, nab, hfnd1, ⟨nfa, nfb⟩, ⟨[], hav1, rfl, fun i v e => by simp at e⟩, hab1, wf_start⟩
    refine ⟨fun m σ H' => Same H H' ∧ ∃ (e n : Nat) (v4 v5 : Option V) (st : Hist.State) (done : List Int) (rest : List (List (List Int))), σ = [some (.ref c), some (.ref fnd), some (.ref a), some (.int (e : Int)), v4, v5] ∧ m = l.length - e ∧ e ≤ l.length ∧
        HistAt CH ⟨c0, fnd, .lst (zs done)⟩ H' a av ab st ∧ PyWide.calls n (l.drop e) = some rest ∧ (∀ x ∈ rest, PyWrsway.fits x = true) ∧ (∀ x ∈ rest, HistNeutral.asked1 x = true) ∧ done ++ PyFlat.told (PyFlat.played HistNeutral.step st rest) = PyWrsway.answers l,
      ⟨_, s01, 0, l.length, none, none, Hist.start, [], cs, rfl, rfl, Nat.zero_le _, hi0, hcs, hfit, hasked, hans.symm⟩, ?_⟩
    rintro m σ H' ⟨s5, e, n, v4, v5, st, done, rest, rfl, rfl, he, hi, hrest, hrf, hra, hdone⟩
    have hcq := s5.seq hc
    refine ⟨_, rfl, _, rfl, c, _, rfl, .inl hcq, _, _, rfl, rfl, _, rfl, iteB (fun hlt => ?_) (fun hge => ?_)⟩
    · rw [decide_eq_true_eq, zs_len] at hlt
      have hlt' : e < l.length := by omega
      refine ⟨_, fun _ _ h => h, ?_⟩
      obtain ⟨p0, r0, hd0⟩ : ∃ p r, l.drop e = p :: r := by
        cases q : l.drop e with
        | nil =>
          have := congrArg List.length q
          rw [List.length_drop, List.length_nil] at this
          omega
        | cons p r => exact ⟨p, r, rfl⟩
      have hrest' := hrest
      rw [hd0] at hrest'
      obtain ⟨g, cc, t, ys, hn, hcall, hys, hrc⟩ := calls_more hrest'
      subst hn hrc
      rw [← hd0] at hcall
      obtain ⟨k0, ns0, d0, x0, hcc, ci, hcof⟩ := call_ok (hra cc List.mem_cons_self) (hrf cc List.mem_cons_self)
      subst hcc
      refine ⟨_, rfl, _, rfl, c, l, e, _, _, _, t, rfl, hcq, hl, hcall, fun H2 x e2 s2 hx ht he2 hel2 => ?_⟩
      obtain ⟨dx2, pn, pl, ls, hx2, hpn, hpl, hpl0, hls⟩ := hx
      have hi2 := hi.mono s2
      obtain ⟨dy, hinst⟩ := hi.inst
      obtain ⟨vs, hv1, _, _⟩ := hi.vers
      have hext : H' fnd = some (.lst (zs done)) := hi.ext
      have newOk : ∀ b, H' b = none → b ≠ av ∧ b ≠ ab ∧ b ≠ fnd := fun b hb => ⟨fun z => (by rw [z, hv1] at hb; cases hb), fun z => (by rw [z, hi.brs] at hb; cases hb), fun z => (by rw [z, hext] at hb; cases hb)⟩
      have hdoc : DcAt (wo fnd av ab H2) pl d0 := by
        obtain ⟨n1, n2, n3⟩ := newOk pl hpl0
        refine ⟨ls, wo_at hpl n1 n2 n3, ?_⟩
        have gen : ∀ {ls : List Addr} {d : Doc}, Paired (fun b r => H2 b = some (.lst (zs r)) ∧ H' b = none) ls (d.map up) → LnsAt (wo fnd av ab H2) ls d := by
          intro ls d
          induction d generalizing ls with
          | nil =>
            intro h
            cases h
            exact .nil
          | cons r d ih =>
            intro h
            cases h with
            | cons h1 h2 =>
              obtain ⟨m1, m2, m3⟩ := newOk _ h1.2
              refine .cons ?_ (ih h2)
              show wo fnd av ab H2 _ = some (.lst (nums r))
              rw [nums_zs]
              exact wo_at h1.1 m1 m2 m3
        exact gen hls
      have hpnL : LnAt H2 pn ns0 := by
        show H2 pn = some (.lst (nums ns0))
        rw [nums_zs]
        exact hpn
      refine ⟨_, rfl, _, rfl, fnd, .lst (zs done), a, x, av, ab, pn, pl, dx2, .int (e2 : Int), st, k0, ns0, d0, x0, rfl, hi2, hx2, hpnL, hdoc, ci, fun H3 p s3 hi3 hp hp3 => ?_⟩
      have hstep : HistNeutral.step st (((k0 : Int) :: up ns0) :: d0.map up) = ((Hist.step st x0).1, HistNeutral.shown (Hist.step st x0).2) := by
        unfold HistNeutral.step
        rw [hcof]
      have hdone' : done ++ ((HistNeutral.shown (Hist.step st x0).2).length : Int) :: HistNeutral.shown (Hist.step st x0).2 ++ PyFlat.told (PyFlat.played HistNeutral.step (Hist.step st x0).1 ys) = PyWrsway.answers l := by
        rw [← hdone]
        unfold PyFlat.told
        show _ = done ++ List.flatMap _ ((HistNeutral.step st _).2 :: PyFlat.played HistNeutral.step (HistNeutral.step st _).1 ys)
        rw [hstep, List.flatMap_cons]
        simp only [List.append_assoc, List.cons_append]
      generalize hans2 : HistNeutral.shown (Hist.step st x0).2 = an at *
      have hbound : done.length + an.length + 1 ≤ 10000000 := by
        have := congrArg List.length hdone'
        simp only [List.length_append, List.length_cons] at this
        omega
      have hext3 : H3 fnd = some (.lst (zs done)) := hi3.ext
      have npf : p ≠ fnd := fun z => by
        have := hi2.ext
        rw [z] at hp
        rw [show H2 fnd = some (.lst (zs done)) from this] at hp
        cases hp
      have nxf : x ≠ fnd := ne_of hx2 (show H2 fnd = _ from hi2.ext) (by intro z; cases z)
      have nxa : x ≠ av := ne_of hx2 (s2 _ _ hv1) (by intro z; cases z)
      have nxb : x ≠ ab := ne_of hx2 (s2 _ _ hi.brs) (by intro z; cases z)
      have hx3 : H3 x = _ := wo_sub _ _ (s3 _ _ (wo_at hx2 nxa nxb nxf))
      refine ⟨_, rfl, .inl ⟨rfl, _, SqL.of hext3⟩, _, rfl, p, _, rfl, .inl (SqL.of hp3), fnd, _, _, rfl, rfl, hext3, (by rw [zs_len, sizeLine_eq]; omega), ?_⟩
      have hF4 : upd H3 fnd (.lst (zs done ++ [V.int ((zs an).length : Int)])) fnd = some (.lst (zs done ++ [V.int ((zs an).length : Int)])) := upd_same
      have hp4 : upd H3 fnd (.lst (zs done ++ [V.int ((zs an).length : Int)])) p = some (.lst (zs an)) := by rw [upd_ne npf]; exact hp3
      refine ⟨_, rfl, .inl ⟨rfl, _, SqL.of hF4⟩, _, rfl, fnd, p, _, _, rfl, rfl, hF4, hp4, (by rw [List.length_append, List.length_singleton, zs_len, zs_len, sizeLine_eq]; omega), ?_⟩
      have nax : a ≠ fnd := ne_of (s2 _ _ hinst) (show H2 fnd = _ from hi2.ext) (by intro z; cases z)
      have eup : ∀ o o' : HO, upd (upd H3 fnd o) fnd o' = upd H3 fnd o' := fun o o' => by
        funext b
        by_cases z : b = fnd
        · rw [z, upd_same, upd_same]
        · rw [upd_ne z, upd_ne z, upd_ne z]
      rw [eup]
      refine ⟨_, rfl, x, CC, dx2, _, _, rfl, (by rw [upd_ne nxf]; exact hx3), TC.cl, TC.nB, lkBh, ?_⟩
      have eD : zs done ++ [V.int ((zs an).length : Int)] ++ zs an = zs (done ++ (an.length : Int) :: an) := by
        rw [zs_app, List.append_assoc, zs_len]
        rfl
      rw [eD]
      have hfH : H fnd = none := hf
      refine ⟨l.length - e2, by omega, ?_, e2, g, _, _, (Hist.step st x0).1, done ++ (an.length : Int) :: an, ys, rfl, rfl, hel2, hi3.out _ nax, ?_, fun z hz => hrf z (List.mem_cons_of_mem _ hz), fun z hz => hra z (List.mem_cons_of_mem _ hz), hdone'⟩
      · intro b o q
        have q3 := same_wo (s5.trans s2) s3 hfH havH habH _ _ q
        rw [upd_ne (fun z => by rw [z, hfH] at q; cases q)]
        exact q3
      · rw [← ht]
        exact hys
    · rw [decide_eq_false_iff_not, zs_len] at hge
      have hn : l.drop e = [] := List.drop_eq_nil_of_le (by omega)
      rw [hn] at hrest
      have er : rest = [] := by
        cases n with
        | zero => exact (Option.some.inj hrest).symm
        | succ n => exact (Option.some.inj hrest).symm
      subst er
      have ed : done = PyWrsway.answers l := by
        rw [← hdone]
        exact (List.append_nil _).symm
      refine ⟨_, rfl, k H' fnd ?_⟩
      rw [← ed]
      exact hi.ext
end
end Wb
namespace Wb
open PySem PySem.Spec PyProof.Rows L2

def FnIs (K : PySem.W.Frag) (x qual : Str) (st : Stmt) (f : Addr) : Prop := ∃ fd : FuncData, Fun K x qual st f fd
theorem fnIs {K : PySem.W.Frag} {x qual : Str} {st : Stmt} {f : Addr} {oc : Value} {od an : Option Addr} {osl : Array (Option Value)} {kV doc pm cdv ct : Value} (l : K.lookup f = some ⟨oc, od, .func (PySem.W.fnOf x qual (defArgs st) (defBody st) (defScope st) .none kV doc pm an cdv ct), osl⟩)
    (c : PySem.W.codeIn K cdv qual = true) (k : PySem.W.keepIn K (.ref f) = true) : FnIs K x qual st f := ⟨_, fun_mk l c k⟩
structure ClsIs (K : PySem.W.Frag) (C : Addr) : Prop where
  cl : Cls K C
  ms : PySem.W.makesIn K C = true
  kc : PySem.W.keepIn K (.ref C) = true
theorem clsIs {K : PySem.W.Frag} {C : Addr} (pg : PySem.W.plainGet K C Str.empty = true) (hd : PySem.W.hasDictIn K C = true) (po : PySem.W.plainOver K C = true) (sa : PySem.W.findIn K (.ref C) "__setattr__" = some (some (.builtin "object.__setattr__"))) (mk : PySem.W.makesIn K C = true) (kc : PySem.W.keepIn K (.ref C) = true) : ClsIs K C := ⟨⟨pg, hd, po, sa⟩, mk, kc⟩
def GInt (K : PySem.W.Frag) (n : Str) (i : Int) : Prop := ∃ t : Tok, PySem.W.nsIn K mainGlobals n = some (some (.int i t))
theorem gInt {K : PySem.W.Frag} {n : Str} {i : Int} {t : Tok} (a : PySem.W.nsIn K mainGlobals n = some (some (.int i t))) : GInt K n i := ⟨t, a⟩
theorem GInt.mg {K : PySem.W.Frag} {h : Heap} {mg : Str → Option Value} {n : Str} {i : Int} (g : GInt K n i) (X : K.In h) (G : h.Ns mainGlobals mg) : ∃ t, mg n = some (.int i t) := by
  obtain ⟨t, a⟩ := g
  exact ⟨t, PySem.W.mg_of X G a⟩
theorem exm_self {K : PySem.W.Frag} {S : Addr} (h1 : PySem.W.subIn K (.ref S) (.type "BaseException") = some true) (h2 : PySem.W.isClsIn K S = true) (h3 : PySem.W.typeIn K (.ref S) = some (.type "type")) (h4 : PySem.W.subIn K (.ref S) (.ref S) = some true) :
    PySem.W.exmOne K (.ref S) (.ref S) = some true := by
  have e1 : (PySem.W.subIn K (.ref S) (.type "BaseException") == some true) = true := by rw [h1] <;> rfl
  have e2 : ((PySem.W.clsIn K S).isSome && PySem.W.typeIn K (.ref S) == some (.type "type")) = true := by
    have h2' : (PySem.W.clsIn K S).isSome = true := h2
    rw [h2', h3] <;> rfl
  show (if (PySem.W.subIn K (.ref S) (.type "BaseException") == some true) = true then (if ((PySem.W.clsIn K S).isSome && PySem.W.typeIn K (.ref S) == some (.type "type")) = true then PySem.W.subIn K (.ref S) (.ref S) else none) else none) = some true
  rw [if_pos e1, if_pos e2]
  exact h4
theorem all_mk {P : Program} {w : World} {K : PySem.W.Frag} {h : Heap} {mg : Str → Option Value}
    {fa C CM c0 CH CC CR fR fA f_pi f_pl f_pt f_mi f_vi f_hi f_full f_has f_doc f_orig f_fore f_make f_isf f_near f_first f_ci f_most f_way f_kept f_parts f_settled f_merged f_fits f_callat f_refuse f_listed f_ltold f_askb f_askv f_headof f_putnew f_commit f_setb f_drop f_head f_counted f_ofver f_added f_oftwo f_mdoc f_putm f_merge f_ofbr f_trym f_told f_tor : Addr}
    {nm q : Str} {N : Addr} {bs : List Value} {sn : List Str} {sub : List Value} {ab : Bool} {col : Option Bool} {dd : Option Addr} {m0 m1 m2 m3 m5 : Option Value}
    {odR anR odA anA : Option Addr} {slR slA : Array (Option Value)} {ocR dcR pmR cdR ctR ocA kVA dcA pmA cdA ctA : Value}
    (X : K.In h) (G : h.Ns mainGlobals mg) (hfa : mg "answers" = some (.ref fa))
    (a_C : PySem.W.nsIn K mainGlobals "Part" = some (some (.ref C)))
    (c_C : ClsIs K C)
    (n_C_begins : PySem.W.findIn K (.ref C) "begins" = some none)
    (n_C_ends : PySem.W.findIn K (.ref C) "ends" = some none)
    (a_CM : PySem.W.nsIn K mainGlobals "Merged" = some (some (.ref CM)))
    (c_CM : ClsIs K CM)
    (n_CM_document : PySem.W.findIn K (.ref CM) "document" = some none)
    (n_CM_clashes : PySem.W.findIn K (.ref CM) "clashes" = some none)
    (a_c0 : PySem.W.nsIn K mainGlobals "Version" = some (some (.ref c0)))
    (c_c0 : ClsIs K c0)
    (n_c0_document : PySem.W.findIn K (.ref c0) "document" = some none)
    (n_c0_parents : PySem.W.findIn K (.ref c0) "parents" = some none)
    (n_c0_forebears : PySem.W.findIn K (.ref c0) "forebears" = some none)
    (n_c0_origins : PySem.W.findIn K (.ref c0) "origins" = some none)
    (a_CH : PySem.W.nsIn K mainGlobals "History" = some (some (.ref CH)))
    (c_CH : ClsIs K CH)
    (n_CH_versions : PySem.W.findIn K (.ref CH) "versions" = some none)
    (n_CH_branches : PySem.W.findIn K (.ref CH) "branches" = some none)
    (a_CC : PySem.W.nsIn K mainGlobals "Call" = some (some (.ref CC)))
    (c_CC : ClsIs K CC)
    (n_CC_kind : PySem.W.findIn K (.ref CC) "kind" = some none)
    (n_CC_some : PySem.W.findIn K (.ref CC) "some" = some none)
    (n_CC_lists : PySem.W.findIn K (.ref CC) "lists" = some none)
    (n_CC_behind : PySem.W.findIn K (.ref CC) "behind" = some none)
    (m_pi : PySem.W.findIn K (.ref C) "__init__" = some (some (.ref f_pi)))
    (i_pi : PySem.W.isFn K (.ref f_pi) = true)
    (h_pi : FnIs K "__init__" "Part.__init__" sPartInit f_pi)
    (m_pl : PySem.W.findIn K (.ref C) "lines" = some (some (.ref f_pl)))
    (i_pl : PySem.W.isFn K (.ref f_pl) = true)
    (h_pl : FnIs K "lines" "Part.lines" sPartLines f_pl)
    (m_pt : PySem.W.findIn K (.ref C) "told" = some (some (.ref f_pt)))
    (i_pt : PySem.W.isFn K (.ref f_pt) = true)
    (h_pt : FnIs K "told" "Part.told" sPartTold f_pt)
    (m_mi : PySem.W.findIn K (.ref CM) "__init__" = some (some (.ref f_mi)))
    (i_mi : PySem.W.isFn K (.ref f_mi) = true)
    (h_mi : FnIs K "__init__" "Merged.__init__" sMergedInit f_mi)
    (m_vi : PySem.W.findIn K (.ref c0) "__init__" = some (some (.ref f_vi)))
    (i_vi : PySem.W.isFn K (.ref f_vi) = true)
    (h_vi : FnIs K "__init__" "Version.__init__" sVersionInit f_vi)
    (m_hi : PySem.W.findIn K (.ref CH) "__init__" = some (some (.ref f_hi)))
    (i_hi : PySem.W.isFn K (.ref f_hi) = true)
    (h_hi : FnIs K "__init__" "History.__init__" sHistInit f_hi)
    (m_full : PySem.W.findIn K (.ref CH) "is_full" = some (some (.ref f_full)))
    (i_full : PySem.W.isFn K (.ref f_full) = true)
    (h_full : FnIs K "is_full" "History.is_full" sFull f_full)
    (m_has : PySem.W.findIn K (.ref CH) "has" = some (some (.ref f_has)))
    (i_has : PySem.W.isFn K (.ref f_has) = true)
    (h_has : FnIs K "has" "History.has" sHas f_has)
    (m_doc : PySem.W.findIn K (.ref CH) "document_of" = some (some (.ref f_doc)))
    (i_doc : PySem.W.isFn K (.ref f_doc) = true)
    (h_doc : FnIs K "document_of" "History.document_of" sDocOf f_doc)
    (m_orig : PySem.W.findIn K (.ref CH) "origins_of" = some (some (.ref f_orig)))
    (i_orig : PySem.W.isFn K (.ref f_orig) = true)
    (h_orig : FnIs K "origins_of" "History.origins_of" sOrig f_orig)
    (m_fore : PySem.W.findIn K (.ref CH) "forebears_of" = some (some (.ref f_fore)))
    (i_fore : PySem.W.isFn K (.ref f_fore) = true)
    (h_fore : FnIs K "forebears_of" "History.forebears_of" sFore f_fore)
    (m_make : PySem.W.findIn K (.ref CH) "make" = some (some (.ref f_make)))
    (i_make : PySem.W.isFn K (.ref f_make) = true)
    (h_make : FnIs K "make" "History.make" sMake f_make)
    (m_isf : PySem.W.findIn K (.ref CH) "is_forebear" = some (some (.ref f_isf)))
    (i_isf : PySem.W.isFn K (.ref f_isf) = true)
    (h_isf : FnIs K "is_forebear" "History.is_forebear" sIsF f_isf)
    (m_near : PySem.W.findIn K (.ref CH) "nearest" = some (some (.ref f_near)))
    (i_near : PySem.W.isFn K (.ref f_near) = true)
    (h_near : FnIs K "nearest" "History.nearest" sNearest f_near)
    (m_first : PySem.W.findIn K (.ref CH) "first_parent" = some (some (.ref f_first)))
    (i_first : PySem.W.isFn K (.ref f_first) = true)
    (h_first : FnIs K "first_parent" "History.first_parent" sFirst f_first)
    (m_ci : PySem.W.findIn K (.ref CC) "__init__" = some (some (.ref f_ci)))
    (i_ci : PySem.W.isFn K (.ref f_ci) = true)
    (h_ci : FnIs K "__init__" "Call.__init__" sCallInit f_ci)
    (g_most : PySem.W.nsIn K mainGlobals "most_kept" = some (some (.ref f_most)))
    (h_most : FnIs K "most_kept" "most_kept" sMost f_most)
    (g_way : PySem.W.nsIn K mainGlobals "way" = some (some (.ref f_way)))
    (h_way : FnIs K "way" "way" sWay f_way)
    (g_kept : PySem.W.nsIn K mainGlobals "kept_as" = some (some (.ref f_kept)))
    (h_kept : FnIs K "kept_as" "kept_as" sKept f_kept)
    (g_parts : PySem.W.nsIn K mainGlobals "parts_of" = some (some (.ref f_parts)))
    (h_parts : FnIs K "parts_of" "parts_of" sParts f_parts)
    (g_settled : PySem.W.nsIn K mainGlobals "settled" = some (some (.ref f_settled)))
    (h_settled : FnIs K "settled" "settled" sSettled f_settled)
    (g_merged : PySem.W.nsIn K mainGlobals "merged" = some (some (.ref f_merged)))
    (h_merged : FnIs K "merged" "merged" sMerged f_merged)
    (g_fits : PySem.W.nsIn K mainGlobals "fits" = some (some (.ref f_fits)))
    (h_fits : FnIs K "fits" "fits" sFits f_fits)
    (g_callat : PySem.W.nsIn K mainGlobals "call_at" = some (some (.ref f_callat)))
    (h_callat : FnIs K "call_at" "call_at" sCallAt f_callat)
    (g_refuse : PySem.W.nsIn K mainGlobals "refuse_where" = some (some (.ref f_refuse)))
    (h_refuse : FnIs K "refuse_where" "refuse_where" sRefuse f_refuse)
    (g_listed : PySem.W.nsIn K mainGlobals "listed" = some (some (.ref f_listed)))
    (h_listed : FnIs K "listed" "listed" sListed f_listed)
    (g_ltold : PySem.W.nsIn K mainGlobals "lines_told" = some (some (.ref f_ltold)))
    (h_ltold : FnIs K "lines_told" "lines_told" sLinesTold f_ltold)
    (g_askb : PySem.W.nsIn K mainGlobals "ask_branch" = some (some (.ref f_askb)))
    (h_askb : FnIs K "ask_branch" "ask_branch" sAskB f_askb)
    (g_askv : PySem.W.nsIn K mainGlobals "ask_version" = some (some (.ref f_askv)))
    (h_askv : FnIs K "ask_version" "ask_version" sAskV f_askv)
    (g_headof : PySem.W.nsIn K mainGlobals "head_of" = some (some (.ref f_headof)))
    (h_headof : FnIs K "head_of" "head_of" sHeadOf f_headof)
    (g_putnew : PySem.W.nsIn K mainGlobals "put_new" = some (some (.ref f_putnew)))
    (h_putnew : FnIs K "put_new" "put_new" sPutNew f_putnew)
    (g_commit : PySem.W.nsIn K mainGlobals "commit" = some (some (.ref f_commit)))
    (h_commit : FnIs K "commit" "commit" sCommit f_commit)
    (g_setb : PySem.W.nsIn K mainGlobals "set_branch" = some (some (.ref f_setb)))
    (h_setb : FnIs K "set_branch" "set_branch" sSetB f_setb)
    (g_drop : PySem.W.nsIn K mainGlobals "drop" = some (some (.ref f_drop)))
    (h_drop : FnIs K "drop" "drop" sDrop f_drop)
    (g_head : PySem.W.nsIn K mainGlobals "head" = some (some (.ref f_head)))
    (h_head : FnIs K "head" "head" sHead f_head)
    (g_counted : PySem.W.nsIn K mainGlobals "counted" = some (some (.ref f_counted)))
    (h_counted : FnIs K "counted" "counted" sCounted f_counted)
    (g_ofver : PySem.W.nsIn K mainGlobals "of_version" = some (some (.ref f_ofver)))
    (h_ofver : FnIs K "of_version" "of_version" sOfVersion f_ofver)
    (g_added : PySem.W.nsIn K mainGlobals "added_lines" = some (some (.ref f_added)))
    (h_added : FnIs K "added_lines" "added_lines" sAdded f_added)
    (g_oftwo : PySem.W.nsIn K mainGlobals "of_two" = some (some (.ref f_oftwo)))
    (h_oftwo : FnIs K "of_two" "of_two" sOfTwo f_oftwo)
    (g_mdoc : PySem.W.nsIn K mainGlobals "merged_document" = some (some (.ref f_mdoc)))
    (h_mdoc : FnIs K "merged_document" "merged_document" sMergedDoc f_mdoc)
    (g_putm : PySem.W.nsIn K mainGlobals "put_merged" = some (some (.ref f_putm)))
    (h_putm : FnIs K "put_merged" "put_merged" sPutMerged f_putm)
    (g_merge : PySem.W.nsIn K mainGlobals "merge" = some (some (.ref f_merge)))
    (h_merge : FnIs K "merge" "merge" sMerge f_merge)
    (g_ofbr : PySem.W.nsIn K mainGlobals "of_branch" = some (some (.ref f_ofbr)))
    (h_ofbr : FnIs K "of_branch" "of_branch" sOfBranch f_ofbr)
    (g_trym : PySem.W.nsIn K mainGlobals "try_merge" = some (some (.ref f_trym)))
    (h_trym : FnIs K "try_merge" "try_merge" sTry f_trym)
    (g_told : PySem.W.nsIn K mainGlobals "told" = some (some (.ref f_told)))
    (h_told : FnIs K "told" "told" sToldC f_told)
    (g_tor : PySem.W.nsIn K mainGlobals "told_or_refused" = some (some (.ref f_tor)))
    (h_tor : FnIs K "told_or_refused" "told_or_refused" sTor f_tor)
    (j_KEPT : GInt K "KEPT" 0)
    (j_DROPPED : GInt K "DROPPED" 1)
    (j_ADDED : GInt K "ADDED" 2)
    (j_MOST_VERSIONS : GInt K "MOST_VERSIONS" 128)
    (j_MOST_LINES : GInt K "MOST_LINES" 64)
    (j_MOST_BYTES : GInt K "MOST_BYTES" 64)
    (j_MOST_BRANCHES : GInt K "MOST_BRANCHES" 8)
    (j_NOWHERE : GInt K "NOWHERE" (-1))
    (j_NOT_SO : GInt K "NOT_SO" (-1))
    (j_CLASHES : GInt K "CLASHES" (-3))
    (j_NONE_SUCH : GInt K "NONE_SUCH" (-4))
    (j_FULL : GInt K "FULL" (-6))
    (j_COMMIT : GInt K "COMMIT" 0)
    (j_BRANCH : GInt K "BRANCH" 1)
    (j_DROP : GInt K "DROP" 2)
    (j_HEAD : GInt K "HEAD" 3)
    (j_DOC : GInt K "DOC" 4)
    (j_PARENTS : GInt K "PARENTS" 5)
    (j_LOG : GInt K "LOG" 6)
    (j_COMMON : GInt K "COMMON" 7)
    (j_WAY : GInt K "WAY" 8)
    (j_MERGE : GInt K "MERGE" 9)
    (j_PICK : GInt K "PICK" 10)
    (j_UNDO : GInt K "UNDO" 11)
    (j_TRY : GInt K "TRY" 12)
    (j_ORIGINS : GInt K "ORIGINS" 13)
    (z_len : PySem.W.nsIn K mainGlobals "len" = some none)
    (z_range : PySem.W.nsIn K mainGlobals "range" = some none)
    (z_max : PySem.W.nsIn K mainGlobals "max" = some none)
    (z_int : PySem.W.nsIn K mainGlobals "int" = some none)
    (z_zip : PySem.W.nsIn K mainGlobals "zip" = some none)
    (z_enumerate : PySem.W.nsIn K mainGlobals "enumerate" = some none)
    (z_reversed : PySem.W.nsIn K mainGlobals "reversed" = some none)
    (z_sorted : PySem.W.nsIn K mainGlobals "sorted" = some none)
    (z_list : PySem.W.nsIn K mainGlobals "list" = some none)
    (aR : PySem.W.nsIn K mainGlobals "Refused" = some (some (.ref CR)))
    (xR : K.lookup CR = some (excClassObj nm q CR N bs [.type "ValueError", .type "Exception", .type "BaseException", .type "object"] true sn sub ab col dd m0 m1 m2 m3 m5 "ValueError.__new__"))
    (sa : PySem.W.findIn K (.ref CR) "__setattr__" = some (some (.builtin "object.__setattr__")))
    (ga : PySem.W.findIn K (.ref CR) "__getattribute__" = some (some (.builtin "BaseException.__getattribute__")))
    (gg : PySem.W.findIn K (.ref CR) "__getattr__" = some none)
    (nb : PySem.W.findIn K (.ref CR) "some" = some none)
    (aI : PySem.W.findIn K (.ref CR) "__init__" = some (some (.ref fR)))
    (tI : PySem.W.typeIn K (.ref fR) = some (.type "function"))
    (lI : K.lookup fR = some ⟨ocR, odR, .func (PySem.W.fnOf "__init__" "Refused.__init__" (PySem.RefX.iA ⟨173, 17, 173, 21⟩ ⟨173, 23, 173, 30⟩) (PySem.RefX.iB ⟨174, 8, 174, 12⟩ ⟨174, 8, 174, 17⟩ ⟨174, 20, 174, 27⟩ ⟨174, 8, 174, 27⟩) PySem.RefX.iS .none .none dcR pmR anR cdR ctR), slR⟩)
    (cI : PySem.W.codeIn K cdR "Refused.__init__" = true)
    (kC : PySem.W.keepIn K (.ref CR) = true)
    (eC : PySem.W.subIn K (.ref CR) (.type "BaseException") = some true)
    (tC : PySem.W.typeIn K (.ref CR) = some (.type "type"))
    (hC : PySem.W.hasDictIn K CR = true)
    (iC : PySem.W.isClsIn K CR = true)
    (sC : PySem.W.subIn K (.ref CR) (.ref CR) = some true)
    (gA : PySem.W.nsIn K mainGlobals "answers" = some (some (.ref fA)))
    (lA : K.lookup fA = some ⟨ocA, odA, .func (PySem.W.fnOf "answers" "answers" (defArgs sAns) (defBody sAns) (defScope sAns) .none kVA dcA pmA anA cdA ctA), slA⟩)
    (cA : PySem.W.codeIn K cdA "answers" = true)
    (kA : PySem.W.keepIn K (.ref fA) = true) :
    ∃ fd : FuncData, (∀ (s : Shared) (us : List Value), us.length = (["calls"] : List Str).length → BindsTo s fd ⟨us, []⟩ ((["calls"] : List Str).zip us)) ∧ ∀ base : Heap, K.In base → base.Ns mainGlobals mg → FnOk P w K mg base CX0 12 fa fd ["calls"] (spAns K) := by
  have e := hfa.symm.trans (PySem.W.mg_of X G gA)
  cases e
  have TR : PySem.RefX.RefTxt K mg CR fR :=
    { gC := PySem.W.mg_of X G aR, cls := ⟨nm, q, N, bs, _, sn, sub, ab, col, dd, m0, m1, m2, m3, m5, xR, by decide +kernel⟩, sa := sa, ga := ga, gg := gg, noN := nb, iC := aI, tC := tI, kC := kC, exC := eC, tyC := tC, hdC := hC, te := exm_self eC iC tC sC,
      fn := ⟨_, _, _, _, _, _, _, _, _, _, _, _, _, _, lI, cI⟩ }
  obtain ⟨d_pi, F_pi⟩ := h_pi
  have b_pi := F_pi.binds (ps := ["self", "begins", "ends"]) fun _ _ _ _ _ _ us hl => match us, hl with | [_, _, _], _ => rfl
  have M_pi : Mk K C f_pi := ⟨c_C.ms, m_pi, i_pi, c_C.kc⟩
  obtain ⟨d_pl, F_pl⟩ := h_pl
  have b_pl := F_pl.binds (ps := ["self", "documents", "side"]) fun _ _ _ _ _ _ us hl => match us, hl with | [_, _, _], _ => rfl
  have M_pl : Meth K C "lines" f_pl := ⟨m_pl, i_pl, F_pl.kp⟩
  obtain ⟨d_pt, F_pt⟩ := h_pt
  have b_pt := F_pt.binds (ps := ["self"]) fun _ _ _ _ _ _ us hl => match us, hl with | [_], _ => rfl
  have M_pt : Meth K C "told" f_pt := ⟨m_pt, i_pt, F_pt.kp⟩
  obtain ⟨d_mi, F_mi⟩ := h_mi
  have b_mi := F_mi.binds (ps := ["self"]) fun _ _ _ _ _ _ us hl => match us, hl with | [_], _ => rfl
  have M_mi : Mk K CM f_mi := ⟨c_CM.ms, m_mi, i_mi, c_CM.kc⟩
  obtain ⟨d_vi, F_vi⟩ := h_vi
  have b_vi := F_vi.binds (ps := ["self", "document", "parents", "forebears", "origins"]) fun _ _ _ _ _ _ us hl => match us, hl with | [_, _, _, _, _], _ => rfl
  have M_vi : Mk K c0 f_vi := ⟨c_c0.ms, m_vi, i_vi, c_c0.kc⟩
  obtain ⟨d_hi, F_hi⟩ := h_hi
  have b_hi := F_hi.binds (ps := ["self"]) fun _ _ _ _ _ _ us hl => match us, hl with | [_], _ => rfl
  have M_hi : Mk K CH f_hi := ⟨c_CH.ms, m_hi, i_hi, c_CH.kc⟩
  obtain ⟨d_full, F_full⟩ := h_full
  have b_full := F_full.binds (ps := ["self"]) fun _ _ _ _ _ _ us hl => match us, hl with | [_], _ => rfl
  have M_full : Meth K CH "is_full" f_full := ⟨m_full, i_full, F_full.kp⟩
  obtain ⟨d_has, F_has⟩ := h_has
  have b_has := F_has.binds (ps := ["self", "number"]) fun _ _ _ _ _ _ us hl => match us, hl with | [_, _], _ => rfl
  have M_has : Meth K CH "has" f_has := ⟨m_has, i_has, F_has.kp⟩
  obtain ⟨d_doc, F_doc⟩ := h_doc
  have b_doc := F_doc.binds (ps := ["self", "number"]) fun _ _ _ _ _ _ us hl => match us, hl with | [_, _], _ => rfl
  have M_doc : Meth K CH "document_of" f_doc := ⟨m_doc, i_doc, F_doc.kp⟩
  obtain ⟨d_orig, F_orig⟩ := h_orig
  have b_orig := F_orig.binds (ps := ["self", "document", "parents", "number"]) fun _ _ _ _ _ _ us hl => match us, hl with | [_, _, _, _], _ => rfl
  have M_orig : Meth K CH "origins_of" f_orig := ⟨m_orig, i_orig, F_orig.kp⟩
  obtain ⟨d_fore, F_fore⟩ := h_fore
  have b_fore := F_fore.binds (ps := ["self", "parents", "number"]) fun _ _ _ _ _ _ us hl => match us, hl with | [_, _, _], _ => rfl
  have M_fore : Meth K CH "forebears_of" f_fore := ⟨m_fore, i_fore, F_fore.kp⟩
  obtain ⟨d_make, F_make⟩ := h_make
  have b_make := F_make.binds (ps := ["self", "document", "parents"]) fun _ _ _ _ _ _ us hl => match us, hl with | [_, _, _], _ => rfl
  have M_make : Meth K CH "make" f_make := ⟨m_make, i_make, F_make.kp⟩
  obtain ⟨d_isf, F_isf⟩ := h_isf
  have b_isf := F_isf.binds (ps := ["self", "one", "other"]) fun _ _ _ _ _ _ us hl => match us, hl with | [_, _, _], _ => rfl
  have M_isf : Meth K CH "is_forebear" f_isf := ⟨m_isf, i_isf, F_isf.kp⟩
  obtain ⟨d_near, F_near⟩ := h_near
  have b_near := F_near.binds (ps := ["self", "one", "other"]) fun _ _ _ _ _ _ us hl => match us, hl with | [_, _, _], _ => rfl
  have M_near : Meth K CH "nearest" f_near := ⟨m_near, i_near, F_near.kp⟩
  obtain ⟨d_first, F_first⟩ := h_first
  have b_first := F_first.binds (ps := ["self", "number"]) fun _ _ _ _ _ _ us hl => match us, hl with | [_, _], _ => rfl
  have M_first : Meth K CH "first_parent" f_first := ⟨m_first, i_first, F_first.kp⟩
  obtain ⟨d_ci, F_ci⟩ := h_ci
  have b_ci := F_ci.binds (ps := ["self", "kind", "numbers", "lists", "behind"]) fun _ _ _ _ _ _ us hl => match us, hl with | [_, _, _, _, _], _ => rfl
  have M_ci : Mk K CC f_ci := ⟨c_CC.ms, m_ci, i_ci, c_CC.kc⟩
  obtain ⟨d_most, F_most⟩ := h_most
  have b_most := F_most.binds (ps := ["a", "b"]) fun _ _ _ _ _ _ us hl => match us, hl with | [_, _], _ => rfl
  have y_most := PySem.W.mg_of X G g_most
  obtain ⟨d_way, F_way⟩ := h_way
  have b_way := F_way.binds (ps := ["a", "b"]) fun _ _ _ _ _ _ us hl => match us, hl with | [_, _], _ => rfl
  have y_way := PySem.W.mg_of X G g_way
  obtain ⟨d_kept, F_kept⟩ := h_kept
  have b_kept := F_kept.binds (ps := ["a", "b"]) fun _ _ _ _ _ _ us hl => match us, hl with | [_, _], _ => rfl
  have y_kept := PySem.W.mg_of X G g_kept
  obtain ⟨d_parts, F_parts⟩ := h_parts
  have b_parts := F_parts.binds (ps := ["o", "a", "b"]) fun _ _ _ _ _ _ us hl => match us, hl with | [_, _, _], _ => rfl
  have y_parts := PySem.W.mg_of X G g_parts
  obtain ⟨d_settled, F_settled⟩ := h_settled
  have b_settled := F_settled.binds (ps := ["part", "documents"]) fun _ _ _ _ _ _ us hl => match us, hl with | [_, _], _ => rfl
  have y_settled := PySem.W.mg_of X G g_settled
  obtain ⟨d_merged, F_merged⟩ := h_merged
  have b_merged := F_merged.binds (ps := ["o", "a", "b"]) fun _ _ _ _ _ _ us hl => match us, hl with | [_, _, _], _ => rfl
  have y_merged := PySem.W.mg_of X G g_merged
  obtain ⟨d_fits, F_fits⟩ := h_fits
  have b_fits := F_fits.binds (ps := ["document"]) fun _ _ _ _ _ _ us hl => match us, hl with | [_], _ => rfl
  have y_fits := PySem.W.mg_of X G g_fits
  obtain ⟨d_callat, F_callat⟩ := h_callat
  have b_callat := F_callat.binds (ps := ["calls", "at"]) fun _ _ _ _ _ _ us hl => match us, hl with | [_, _], _ => rfl
  have y_callat := PySem.W.mg_of X G g_callat
  obtain ⟨d_refuse, F_refuse⟩ := h_refuse
  have b_refuse := F_refuse.binds (ps := ["truth", "code"]) fun _ _ _ _ _ _ us hl => match us, hl with | [_, _], _ => rfl
  have y_refuse := PySem.W.mg_of X G g_refuse
  obtain ⟨d_listed, F_listed⟩ := h_listed
  have b_listed := F_listed.binds (ps := ["numbers"]) fun _ _ _ _ _ _ us hl => match us, hl with | [_], _ => rfl
  have y_listed := PySem.W.mg_of X G g_listed
  obtain ⟨d_ltold, F_ltold⟩ := h_ltold
  have b_ltold := F_ltold.binds (ps := ["lines"]) fun _ _ _ _ _ _ us hl => match us, hl with | [_], _ => rfl
  have y_ltold := PySem.W.mg_of X G g_ltold
  obtain ⟨d_askb, F_askb⟩ := h_askb
  have b_askb := F_askb.binds (ps := ["branch"]) fun _ _ _ _ _ _ us hl => match us, hl with | [_], _ => rfl
  have y_askb := PySem.W.mg_of X G g_askb
  obtain ⟨d_askv, F_askv⟩ := h_askv
  have b_askv := F_askv.binds (ps := ["history", "number"]) fun _ _ _ _ _ _ us hl => match us, hl with | [_, _], _ => rfl
  have y_askv := PySem.W.mg_of X G g_askv
  obtain ⟨d_headof, F_headof⟩ := h_headof
  have b_headof := F_headof.binds (ps := ["history", "branch"]) fun _ _ _ _ _ _ us hl => match us, hl with | [_, _], _ => rfl
  have y_headof := PySem.W.mg_of X G g_headof
  obtain ⟨d_putnew, F_putnew⟩ := h_putnew
  have b_putnew := F_putnew.binds (ps := ["history", "branch", "document", "parents"]) fun _ _ _ _ _ _ us hl => match us, hl with | [_, _, _, _], _ => rfl
  have y_putnew := PySem.W.mg_of X G g_putnew
  obtain ⟨d_commit, F_commit⟩ := h_commit
  have b_commit := F_commit.binds (ps := ["history", "branch", "document"]) fun _ _ _ _ _ _ us hl => match us, hl with | [_, _, _], _ => rfl
  have y_commit := PySem.W.mg_of X G g_commit
  obtain ⟨d_setb, F_setb⟩ := h_setb
  have b_setb := F_setb.binds (ps := ["history", "branch", "number"]) fun _ _ _ _ _ _ us hl => match us, hl with | [_, _, _], _ => rfl
  have y_setb := PySem.W.mg_of X G g_setb
  obtain ⟨d_drop, F_drop⟩ := h_drop
  have b_drop := F_drop.binds (ps := ["history", "branch"]) fun _ _ _ _ _ _ us hl => match us, hl with | [_, _], _ => rfl
  have y_drop := PySem.W.mg_of X G g_drop
  obtain ⟨d_head, F_head⟩ := h_head
  have b_head := F_head.binds (ps := ["history", "branch"]) fun _ _ _ _ _ _ us hl => match us, hl with | [_, _], _ => rfl
  have y_head := PySem.W.mg_of X G g_head
  obtain ⟨d_counted, F_counted⟩ := h_counted
  have b_counted := F_counted.binds (ps := ["numbers"]) fun _ _ _ _ _ _ us hl => match us, hl with | [_], _ => rfl
  have y_counted := PySem.W.mg_of X G g_counted
  obtain ⟨d_ofver, F_ofver⟩ := h_ofver
  have b_ofver := F_ofver.binds (ps := ["history", "kind", "number"]) fun _ _ _ _ _ _ us hl => match us, hl with | [_, _, _], _ => rfl
  have y_ofver := PySem.W.mg_of X G g_ofver
  obtain ⟨d_added, F_added⟩ := h_added
  have b_added := F_added.binds (ps := ["steps", "document"]) fun _ _ _ _ _ _ us hl => match us, hl with | [_, _], _ => rfl
  have y_added := PySem.W.mg_of X G g_added
  obtain ⟨d_oftwo, F_oftwo⟩ := h_oftwo
  have b_oftwo := F_oftwo.binds (ps := ["history", "kind", "numbers"]) fun _ _ _ _ _ _ us hl => match us, hl with | [_, _, _], _ => rfl
  have y_oftwo := PySem.W.mg_of X G g_oftwo
  obtain ⟨d_mdoc, F_mdoc⟩ := h_mdoc
  have b_mdoc := F_mdoc.binds (ps := ["o", "a", "b"]) fun _ _ _ _ _ _ us hl => match us, hl with | [_, _, _], _ => rfl
  have y_mdoc := PySem.W.mg_of X G g_mdoc
  obtain ⟨d_putm, F_putm⟩ := h_putm
  have b_putm := F_putm.binds (ps := ["history", "branch", "document", "parents"]) fun _ _ _ _ _ _ us hl => match us, hl with | [_, _, _, _], _ => rfl
  have y_putm := PySem.W.mg_of X G g_putm
  obtain ⟨d_merge, F_merge⟩ := h_merge
  have b_merge := F_merge.binds (ps := ["history", "branch", "here", "number"]) fun _ _ _ _ _ _ us hl => match us, hl with | [_, _, _, _], _ => rfl
  have y_merge := PySem.W.mg_of X G g_merge
  obtain ⟨d_ofbr, F_ofbr⟩ := h_ofbr
  have b_ofbr := F_ofbr.binds (ps := ["history", "kind", "numbers"]) fun _ _ _ _ _ _ us hl => match us, hl with | [_, _, _], _ => rfl
  have y_ofbr := PySem.W.mg_of X G g_ofbr
  obtain ⟨d_trym, F_trym⟩ := h_trym
  have b_trym := F_trym.binds (ps := ["numbers", "lists"]) fun _ _ _ _ _ _ us hl => match us, hl with | [_, _], _ => rfl
  have y_trym := PySem.W.mg_of X G g_trym
  obtain ⟨d_told, F_told⟩ := h_told
  have b_told := F_told.binds (ps := ["history", "call"]) fun _ _ _ _ _ _ us hl => match us, hl with | [_, _], _ => rfl
  have y_told := PySem.W.mg_of X G g_told
  obtain ⟨d_tor, F_tor⟩ := h_tor
  have b_tor := F_tor.binds (ps := ["history", "call"]) fun _ _ _ _ _ _ us hl => match us, hl with | [_, _], _ => rfl
  have y_tor := PySem.W.mg_of X G g_tor
  have B0 : BltT mg := ⟨PySem.W.mg_none_of X G z_len, PySem.W.mg_none_of X G z_range, PySem.W.mg_none_of X G z_max, PySem.W.mg_none_of X G z_int, PySem.W.mg_none_of X G z_zip, PySem.W.mg_none_of X G z_enumerate, PySem.W.mg_none_of X G z_reversed, PySem.W.mg_none_of X G z_sorted, PySem.W.mg_none_of X G z_list⟩
  have S0 : StepT mg := ⟨j_KEPT.mg X G, j_DROPPED.mg X G, j_ADDED.mg X G⟩
  have N0 : NumT mg := ⟨j_MOST_VERSIONS.mg X G, j_MOST_LINES.mg X G, j_MOST_BYTES.mg X G, j_MOST_BRANCHES.mg X G, j_NOWHERE.mg X G⟩
  have C0 : CodeT mg := ⟨j_NOT_SO.mg X G, j_CLASHES.mg X G, j_NONE_SUCH.mg X G, j_FULL.mg X G⟩
  have K0 : KindT mg := ⟨j_COMMIT.mg X G, j_BRANCH.mg X G, j_DROP.mg X G, j_HEAD.mg X G, j_DOC.mg X G, j_PARENTS.mg X G, j_LOG.mg X G, j_COMMON.mg X G, j_WAY.mg X G, j_MERGE.mg X G, j_PICK.mg X G, j_UNDO.mg X G, j_TRY.mg X G, j_ORIGINS.mg X G⟩
  have TP : PartT K C := ⟨c_C.cl, n_C_begins, n_C_ends⟩
  have TM : MergedT K CM := ⟨c_CM.cl, n_CM_document, n_CM_clashes⟩
  have TH : HisT K CH := ⟨c_CH.cl, n_CH_versions, n_CH_branches⟩
  have TC : CallT K CC := ⟨c_CC.cl, n_CC_kind, n_CC_some, n_CC_lists, n_CC_behind⟩
  refine ⟨PySem.W.fnOf "answers" "answers" (defArgs sAns) (defBody sAns) (defScope sAns) .none kVA dcA pmA anA cdA ctA, fun s us hu => match us, hu with | [_], _ => .of_eq rfl, fun base _ _ => ?_⟩
  have FA := fun_mk (st := sAns) lA cA kA
  have O_pi : FnOk P w K mg base CX0 1 f_pi d_pi ["self", "begins", "ends"] (spNew C ["begins", "ends"]) := ok_partInit F_pi TP
  have H_pi : HasC P w K mg base CX0 1 C "Part" ["self", "begins", "ends"] (spNew C ["begins", "ends"]) := ⟨f_pi, d_pi, O_pi, M_pi, PySem.W.mg_of X G a_C, b_pi⟩
  have O_pl : FnOk P w K mg base CX0 1 f_pl d_pl ["self", "documents", "side"] (spLines C) := ok_partLines F_pl TP
  have H_pl : HasM P w K mg base CX0 1 C "lines" ["self", "documents", "side"] (spLines C) := ⟨f_pl, d_pl, O_pl, M_pl, b_pl⟩
  have O_pt : FnOk P w K mg base CX0 1 f_pt d_pt ["self"] (spTold C) := ok_partTold F_pt TP B0.zip
  have H_pt : HasM P w K mg base CX0 1 C "told" ["self"] (spTold C) := ⟨f_pt, d_pt, O_pt, M_pt, b_pt⟩
  have O_mi : FnOk P w K mg base CX0 1 f_mi d_mi ["self"] (spMergedInit CM) := ok_mergedInit F_mi TM
  have H_mi : HasC P w K mg base CX0 1 CM "Merged" ["self"] (spMergedInit CM) := ⟨f_mi, d_mi, O_mi, M_mi, PySem.W.mg_of X G a_CM, b_mi⟩
  have O_most : FnOk P w K mg base CX0 1 f_most d_most ["a", "b"] spMost := ok_most F_most B0
  have H_most : Has P w K mg base CX0 1 "most_kept" ["a", "b"] spMost := ⟨f_most, d_most, O_most, y_most, F_most.kp, b_most⟩
  have O_way : FnOk P w K mg base CX0 2 f_way d_way ["a", "b"] spWay := ok_way F_way B0 S0 H_most
  have H_way : Has P w K mg base CX0 2 "way" ["a", "b"] spWay := ⟨f_way, d_way, O_way, y_way, F_way.kp, b_way⟩
  have O_kept : FnOk P w K mg base CX0 3 f_kept d_kept ["a", "b"] spKept := ok_kept F_kept B0 S0 H_way
  have H_kept : Has P w K mg base CX0 3 "kept_as" ["a", "b"] spKept := ⟨f_kept, d_kept, O_kept, y_kept, F_kept.kp, b_kept⟩
  have O_parts : FnOk P w K mg base CX0 4 f_parts d_parts ["o", "a", "b"] (spParts C) := ok_parts F_parts B0 H_kept H_pi
  have H_parts : Has P w K mg base CX0 4 "parts_of" ["o", "a", "b"] (spParts C) := ⟨f_parts, d_parts, O_parts, y_parts, F_parts.kp, b_parts⟩
  have O_settled : FnOk P w K mg base CX0 2 f_settled d_settled ["part", "documents"] (spSettled C) := ok_settled F_settled B0 TP H_pl
  have H_settled : Has P w K mg base CX0 2 "settled" ["part", "documents"] (spSettled C) := ⟨f_settled, d_settled, O_settled, y_settled, F_settled.kp, b_settled⟩
  have O_merged : FnOk P w K mg base CX0 5 f_merged d_merged ["o", "a", "b"] (spMerged CM) := ok_merged F_merged B0 TP TM H_mi H_parts H_settled H_pt
  have H_merged : Has P w K mg base CX0 5 "merged" ["o", "a", "b"] (spMerged CM) := ⟨f_merged, d_merged, O_merged, y_merged, F_merged.kp, b_merged⟩
  have O_fits : FnOk P w K mg base CX0 1 f_fits d_fits ["document"] spFits := ok_fits F_fits B0 N0
  have H_fits : Has P w K mg base CX0 1 "fits" ["document"] spFits := ⟨f_fits, d_fits, O_fits, y_fits, F_fits.kp, b_fits⟩
  have O_hi : FnOk P w K mg base CX0 1 f_hi d_hi ["self"] (spHistInit CH) := ok_histInit F_hi TH N0
  have H_hi : HasC P w K mg base CX0 1 CH "History" ["self"] (spHistInit CH) := ⟨f_hi, d_hi, O_hi, M_hi, PySem.W.mg_of X G a_CH, b_hi⟩
  have O_ci : FnOk P w K mg base CX0 1 f_ci d_ci ["self", "kind", "numbers", "lists", "behind"] (spNew CC ["kind", "some", "lists", "behind"]) := ok_callInit F_ci TC
  have H_ci : HasC P w K mg base CX0 1 CC "Call" ["self", "kind", "numbers", "lists", "behind"] (spNew CC ["kind", "some", "lists", "behind"]) := ⟨f_ci, d_ci, O_ci, M_ci, PySem.W.mg_of X G a_CC, b_ci⟩
  have O_callat : FnOk P w K mg base CX0 3 f_callat d_callat ["calls", "at"] (spCallAt K CC) := ok_callAt F_callat B0 H_ci
  have H_callat : Has P w K mg base CX0 3 "call_at" ["calls", "at"] (spCallAt K CC) := ⟨f_callat, d_callat, O_callat, y_callat, F_callat.kp, b_callat⟩
  have O_refuse : FnOk P w K mg base (L2.CX P w) 1 f_refuse d_refuse ["truth", "code"] (spRefuse CR) := ok_refuse F_refuse TR
  have H_refuse : Has P w K mg base (L2.CX P w) 1 "refuse_where" ["truth", "code"] (spRefuse CR) := ⟨f_refuse, d_refuse, O_refuse, y_refuse, F_refuse.kp, b_refuse⟩
  have O_listed : FnOk P w K mg base CX0 1 f_listed d_listed ["numbers"] spListed := ok_listed F_listed B0
  have H_listed : Has P w K mg base CX0 1 "listed" ["numbers"] spListed := ⟨f_listed, d_listed, O_listed, y_listed, F_listed.kp, b_listed⟩
  have O_counted : FnOk P w K mg base CX0 2 f_counted d_counted ["numbers"] spCounted := ok_counted F_counted B0 H_listed
  have H_counted : Has P w K mg base CX0 2 "counted" ["numbers"] spCounted := ⟨f_counted, d_counted, O_counted, y_counted, F_counted.kp, b_counted⟩
  have O_ltold : FnOk P w K mg base CX0 2 f_ltold d_ltold ["lines"] spLinesTold := ok_linesTold F_ltold H_listed
  have H_ltold : Has P w K mg base CX0 2 "lines_told" ["lines"] spLinesTold := ⟨f_ltold, d_ltold, O_ltold, y_ltold, F_ltold.kp, b_ltold⟩
  have O_added : FnOk P w K mg base CX0 1 f_added d_added ["steps", "document"] spAdded := ok_added F_added B0 S0
  have H_added : Has P w K mg base CX0 1 "added_lines" ["steps", "document"] spAdded := ⟨f_added, d_added, O_added, y_added, F_added.kp, b_added⟩
  have O_askb : FnOk P w K mg base (L2.CX P w) 2 f_askb d_askb ["branch"] (spAskB CR) := ok_askB F_askb N0 C0 H_refuse
  have H_askb : Has P w K mg base (L2.CX P w) 2 "ask_branch" ["branch"] (spAskB CR) := ⟨f_askb, d_askb, O_askb, y_askb, F_askb.kp, b_askb⟩
  have O_mdoc : FnOk P w K mg base (L2.CX P w) 6 f_mdoc d_mdoc ["o", "a", "b"] (spMergedDoc CR) := ok_mergedDoc F_mdoc C0 TM TR H_merged H_listed
  have H_mdoc : Has P w K mg base (L2.CX P w) 6 "merged_document" ["o", "a", "b"] (spMergedDoc CR) := ⟨f_mdoc, d_mdoc, O_mdoc, y_mdoc, F_mdoc.kp, b_mdoc⟩
  have O_trym : FnOk P w K mg base (L2.CX P w) 7 f_trym d_trym ["numbers", "lists"] (spTry CR) := ok_try F_trym B0 C0 H_refuse H_fits H_mdoc H_ltold
  have H_trym : Has P w K mg base (L2.CX P w) 7 "try_merge" ["numbers", "lists"] (spTry CR) := ⟨f_trym, d_trym, O_trym, y_trym, F_trym.kp, b_trym⟩
  have O_tor : FnOk P w K mg base CX0 11 f_tor d_tor ["history", "call"] (spTor CH c0 CC) := by
    refine ok_tor fun CV ev => ?_
    subst ev
    have TV : VerT K CV := ⟨c_c0.cl, n_c0_document, n_c0_parents, n_c0_forebears, n_c0_origins⟩
    have O_vi : FnOk P w K mg base CX0 1 f_vi d_vi ["self", "document", "parents", "forebears", "origins"] (spNew CV.c ["document", "parents", "forebears", "origins"]) := ok_versionInit F_vi TV
    have H_vi : HasC P w K mg base CX0 1 CV.c "Version" ["self", "document", "parents", "forebears", "origins"] (spNew CV.c ["document", "parents", "forebears", "origins"]) := ⟨f_vi, d_vi, O_vi, M_vi, PySem.W.mg_of X G a_c0, b_vi⟩
    have O_full : FnOk P w K mg base CX0 1 f_full d_full ["self"] (spFull CH CV) := ok_full F_full B0 N0 TH
    have H_full : HasM P w K mg base CX0 1 CH "is_full" ["self"] (spFull CH CV) := ⟨f_full, d_full, O_full, M_full, b_full⟩
    have O_has : FnOk P w K mg base CX0 1 f_has d_has ["self", "number"] (spHas CH CV) := ok_has F_has B0 TH
    have H_has : HasM P w K mg base CX0 1 CH "has" ["self", "number"] (spHas CH CV) := ⟨f_has, d_has, O_has, M_has, b_has⟩
    have O_doc : FnOk P w K mg base CX0 1 f_doc d_doc ["self", "number"] (spDocOf CH CV) := ok_docOf F_doc TH TV
    have H_doc : HasM P w K mg base CX0 1 CH "document_of" ["self", "number"] (spDocOf CH CV) := ⟨f_doc, d_doc, O_doc, M_doc, b_doc⟩
    have O_isf : FnOk P w K mg base CX0 1 f_isf d_isf ["self", "one", "other"] (spIsF CH CV) := ok_isF F_isf TH TV
    have H_isf : HasM P w K mg base CX0 1 CH "is_forebear" ["self", "one", "other"] (spIsF CH CV) := ⟨f_isf, d_isf, O_isf, M_isf, b_isf⟩
    have O_first : FnOk P w K mg base CX0 2 f_first d_first ["self", "number"] (spFirst CH CV) := ok_first F_first TH TV H_doc
    have H_first : HasM P w K mg base CX0 2 CH "first_parent" ["self", "number"] (spFirst CH CV) := ⟨f_first, d_first, O_first, M_first, b_first⟩
    have O_near : FnOk P w K mg base CX0 2 f_near d_near ["self", "one", "other"] (spNearest CH CV) := ok_nearest F_near B0 TH TV H_isf
    have H_near : HasM P w K mg base CX0 2 CH "nearest" ["self", "one", "other"] (spNearest CH CV) := ⟨f_near, d_near, O_near, M_near, b_near⟩
    have O_fore : FnOk P w K mg base CX0 1 f_fore d_fore ["self", "parents", "number"] (spFore CH CV) := ok_fore F_fore B0 TH TV
    have H_fore : HasM P w K mg base CX0 1 CH "forebears_of" ["self", "parents", "number"] (spFore CH CV) := ⟨f_fore, d_fore, O_fore, M_fore, b_fore⟩
    have O_orig : FnOk P w K mg base CX0 4 f_orig d_orig ["self", "document", "parents", "number"] (spOrig CH CV) := ok_orig F_orig B0 TH TV H_doc H_kept
    have H_orig : HasM P w K mg base CX0 4 CH "origins_of" ["self", "document", "parents", "number"] (spOrig CH CV) := ⟨f_orig, d_orig, O_orig, M_orig, b_orig⟩
    have O_make : FnOk P w K mg base CX0 5 f_make d_make ["self", "document", "parents"] (spMake CH CV) := ok_make F_make B0 TH TV H_fore H_orig H_vi
    have H_make : HasM P w K mg base CX0 5 CH "make" ["self", "document", "parents"] (spMake CH CV) := ⟨f_make, d_make, O_make, M_make, b_make⟩
    have O_askv : FnOk P w K mg base (L2.CX P w) 2 f_askv d_askv ["history", "number"] (spAskV CH CV CR) := ok_askV F_askv C0 TH H_refuse H_has
    have H_askv : Has P w K mg base (L2.CX P w) 2 "ask_version" ["history", "number"] (spAskV CH CV CR) := ⟨f_askv, d_askv, O_askv, y_askv, F_askv.kp, b_askv⟩
    have O_headof : FnOk P w K mg base (L2.CX P w) 2 f_headof d_headof ["history", "branch"] (spHeadOf CH CV CR) := ok_headOf F_headof N0 C0 TH H_refuse
    have H_headof : Has P w K mg base (L2.CX P w) 2 "head_of" ["history", "branch"] (spHeadOf CH CV CR) := ⟨f_headof, d_headof, O_headof, y_headof, F_headof.kp, b_headof⟩
    have O_putnew : FnOk P w K mg base (L2.CX P w) 6 f_putnew d_putnew ["history", "branch", "document", "parents"] (spPutNew CH CV CR) := ok_putNew F_putnew C0 TH H_refuse H_full H_make
    have H_putnew : Has P w K mg base (L2.CX P w) 6 "put_new" ["history", "branch", "document", "parents"] (spPutNew CH CV CR) := ⟨f_putnew, d_putnew, O_putnew, y_putnew, F_putnew.kp, b_putnew⟩
    have O_commit : FnOk P w K mg base (L2.CX P w) 7 f_commit d_commit ["history", "branch", "document"] (spCommit CH CV CR) := ok_commit F_commit N0 C0 TH H_refuse H_askb H_fits H_putnew
    have H_commit : Has P w K mg base (L2.CX P w) 7 "commit" ["history", "branch", "document"] (spCommit CH CV CR) := ⟨f_commit, d_commit, O_commit, y_commit, F_commit.kp, b_commit⟩
    have O_setb : FnOk P w K mg base (L2.CX P w) 3 f_setb d_setb ["history", "branch", "number"] (spSetB CH CV CR) := ok_setB F_setb TH H_askb H_askv
    have H_setb : Has P w K mg base (L2.CX P w) 3 "set_branch" ["history", "branch", "number"] (spSetB CH CV CR) := ⟨f_setb, d_setb, O_setb, y_setb, F_setb.kp, b_setb⟩
    have O_drop : FnOk P w K mg base (L2.CX P w) 3 f_drop d_drop ["history", "branch"] (spDrop CH CV CR) := ok_drop F_drop N0 TH H_askb H_headof
    have H_drop : Has P w K mg base (L2.CX P w) 3 "drop" ["history", "branch"] (spDrop CH CV CR) := ⟨f_drop, d_drop, O_drop, y_drop, F_drop.kp, b_drop⟩
    have O_head : FnOk P w K mg base (L2.CX P w) 3 f_head d_head ["history", "branch"] (spHead CH CV CR) := ok_head F_head H_askb H_headof
    have H_head : Has P w K mg base (L2.CX P w) 3 "head" ["history", "branch"] (spHead CH CV CR) := ⟨f_head, d_head, O_head, y_head, F_head.kp, b_head⟩
    have O_putm : FnOk P w K mg base (L2.CX P w) 7 f_putm d_putm ["history", "branch", "document", "parents"] (spPutMerged CH CV CR) := ok_putMerged F_putm C0 H_refuse H_fits H_putnew
    have H_putm : Has P w K mg base (L2.CX P w) 7 "put_merged" ["history", "branch", "document", "parents"] (spPutMerged CH CV CR) := ⟨f_putm, d_putm, O_putm, y_putm, F_putm.kp, b_putm⟩
    have O_merge : FnOk P w K mg base (L2.CX P w) 8 f_merge d_merge ["history", "branch", "here", "number"] (spMerge CH CV CR) := ok_merge F_merge TH H_isf H_near H_doc H_mdoc H_putm
    have H_merge : Has P w K mg base (L2.CX P w) 8 "merge" ["history", "branch", "here", "number"] (spMerge CH CV CR) := ⟨f_merge, d_merge, O_merge, y_merge, F_merge.kp, b_merge⟩
    have O_ofbr : FnOk P w K mg base (L2.CX P w) 9 f_ofbr d_ofbr ["history", "kind", "numbers"] (spOfBranch CH CV CR) := ok_ofBranch F_ofbr K0 TH H_askb H_askv H_headof H_merge H_first H_doc H_mdoc H_putm
    have H_ofbr : Has P w K mg base (L2.CX P w) 9 "of_branch" ["history", "kind", "numbers"] (spOfBranch CH CV CR) := ⟨f_ofbr, d_ofbr, O_ofbr, y_ofbr, F_ofbr.kp, b_ofbr⟩
    have O_ofver : FnOk P w K mg base (L2.CX P w) 3 f_ofver d_ofver ["history", "kind", "number"] (spOfVersion CH CV CR) := ok_ofVersion F_ofver B0 K0 TH TV H_askv H_ltold H_counted
    have H_ofver : Has P w K mg base (L2.CX P w) 3 "of_version" ["history", "kind", "number"] (spOfVersion CH CV CR) := ⟨f_ofver, d_ofver, O_ofver, y_ofver, F_ofver.kp, b_ofver⟩
    have O_oftwo : FnOk P w K mg base (L2.CX P w) 3 f_oftwo d_oftwo ["history", "kind", "numbers"] (spOfTwo CH CV CR) := ok_ofTwo F_oftwo K0 S0 TH H_askv H_counted H_near H_doc H_way H_listed H_ltold H_added
    have H_oftwo : Has P w K mg base (L2.CX P w) 3 "of_two" ["history", "kind", "numbers"] (spOfTwo CH CV CR) := ⟨f_oftwo, d_oftwo, O_oftwo, y_oftwo, F_oftwo.kp, b_oftwo⟩
    have O_told : FnOk P w K mg base (L2.CX P w) 10 f_told d_told ["history", "call"] (spToldC CH CV CR CC) := ok_toldC F_told B0 K0 TH TC H_commit H_setb H_drop H_head H_ofver H_oftwo H_ofbr H_trym H_listed
    have H_told : Has P w K mg base (L2.CX P w) 10 "told" ["history", "call"] (spToldC CH CV CR CC) := ⟨f_told, d_told, O_told, y_told, F_told.kp, b_told⟩
    exact ok_torA F_tor TR H_told
  have H_tor : Has P w K mg base CX0 11 "told_or_refused" ["history", "call"] (spTor CH c0 CC) := ⟨f_tor, d_tor, O_tor, y_tor, F_tor.kp, b_tor⟩
  exact ok_answers FA B0 TH TC H_hi H_callat H_tor
end Wb
open PySem PySem.W PyProof.Rows
set_option maxRecDepth 100000 in
set_option maxHeartbeats 8000000 in
theorem PySem.Challenge.cw_textbranches_s01_answers_holds : PySem.Challenge.rw_textbranches_s01_answers.Holds := by
  w_on; k_headS; (case hw => exact ⟨[.list [.int 14, .int 0, .int 0]], by decide +kernel, by decide +kernel⟩)
  k_fillS
  refine L2.walk_specK (r := PySem.Challenge.rw_textbranches_s01_answers) (k := 12) (CX := L2.CX0) (ps := ["calls"]) (sp := Wb.spAns) (by decide +kernel) rfl rfl ⟨rfl, by decide, by decide⟩ (fun w h Y => PySem.W.kIn_of Y) ?F ?S (fun _ _ _ _ z => z)
  case F =>
    intro w mg fa h Y KX G hmg
    refine' Wb.all_mk KX G hmg ?a_C ?c_C ?n_C_begins ?n_C_ends ?a_CM ?c_CM ?n_CM_document ?n_CM_clashes ?a_c0 ?c_c0 ?n_c0_document ?n_c0_parents ?n_c0_forebears ?n_c0_origins ?a_CH ?c_CH ?n_CH_versions ?n_CH_branches ?a_CC ?c_CC ?n_CC_kind ?n_CC_some ?n_CC_lists ?n_CC_behind ?m_pi ?i_pi ?h_pi ?m_pl ?i_pl ?h_pl ?m_pt ?i_pt ?h_pt ?m_mi ?i_mi ?h_mi ?m_vi ?i_vi ?h_vi ?m_hi ?i_hi ?h_hi ?m_full ?i_full ?h_full ?m_has ?i_has ?h_has ?m_doc ?i_doc ?h_doc ?m_orig ?i_orig ?h_orig ?m_fore ?i_fore ?h_fore ?m_make ?i_make ?h_make ?m_isf ?i_isf ?h_isf ?m_near ?i_near ?h_near ?m_first ?i_first ?h_first ?m_ci ?i_ci ?h_ci ?g_most ?h_most ?g_way ?h_way ?g_kept ?h_kept ?g_parts ?h_parts ?g_settled ?h_settled ?g_merged ?h_merged ?g_fits ?h_fits ?g_callat ?h_callat ?g_refuse ?h_refuse ?g_listed ?h_listed ?g_ltold ?h_ltold ?g_askb ?h_askb ?g_askv ?h_askv ?g_headof ?h_headof ?g_putnew ?h_putnew ?g_commit ?h_commit ?g_setb ?h_setb ?g_drop ?h_drop ?g_head ?h_head ?g_counted ?h_counted ?g_ofver ?h_ofver ?g_added ?h_added ?g_oftwo ?h_oftwo ?g_mdoc ?h_mdoc ?g_putm ?h_putm ?g_merge ?h_merge ?g_ofbr ?h_ofbr ?g_trym ?h_trym ?g_told ?h_told ?g_tor ?h_tor ?j_KEPT ?j_DROPPED ?j_ADDED ?j_MOST_VERSIONS ?j_MOST_LINES ?j_MOST_BYTES ?j_MOST_BRANCHES ?j_NOWHERE ?j_NOT_SO ?j_CLASHES ?j_NONE_SUCH ?j_FULL ?j_COMMIT ?j_BRANCH ?j_DROP ?j_HEAD ?j_DOC ?j_PARENTS ?j_LOG ?j_COMMON ?j_WAY ?j_MERGE ?j_PICK ?j_UNDO ?j_TRY ?j_ORIGINS ?z_len ?z_range ?z_max ?z_int ?z_zip ?z_enumerate ?z_reversed ?z_sorted ?z_list ?aR ?xR ?sa ?ga ?gg ?nb ?aI ?tI ?lI ?cI ?kC ?eC ?tC ?hC ?iC ?sC ?gA ?lA ?cA ?kA
    (case a_C => k_is)
    (case c_C => refine' Wb.clsIs ?u1_c_C ?u2_c_C ?u3_c_C ?u4_c_C ?u5_c_C ?u6_c_C; (case u1_c_C => k_is); (case u2_c_C => k_is); (case u3_c_C => k_is); (case u4_c_C => k_is); (case u5_c_C => k_is); (case u6_c_C => k_is))
    (case n_C_begins => k_is)
    (case n_C_ends => k_is)
    (case a_CM => k_is)
    (case c_CM => refine' Wb.clsIs ?u1_c_CM ?u2_c_CM ?u3_c_CM ?u4_c_CM ?u5_c_CM ?u6_c_CM; (case u1_c_CM => k_is); (case u2_c_CM => k_is); (case u3_c_CM => k_is); (case u4_c_CM => k_is); (case u5_c_CM => k_is); (case u6_c_CM => k_is))
    (case n_CM_document => k_is)
    (case n_CM_clashes => k_is)
    (case a_c0 => k_is)
    (case c_c0 => refine' Wb.clsIs ?u1_c_c0 ?u2_c_c0 ?u3_c_c0 ?u4_c_c0 ?u5_c_c0 ?u6_c_c0; (case u1_c_c0 => k_is); (case u2_c_c0 => k_is); (case u3_c_c0 => k_is); (case u4_c_c0 => k_is); (case u5_c_c0 => k_is); (case u6_c_c0 => k_is))
    (case n_c0_document => k_is)
    (case n_c0_parents => k_is)
    (case n_c0_forebears => k_is)
    (case n_c0_origins => k_is)
    (case a_CH => k_is)
    (case c_CH => refine' Wb.clsIs ?u1_c_CH ?u2_c_CH ?u3_c_CH ?u4_c_CH ?u5_c_CH ?u6_c_CH; (case u1_c_CH => k_is); (case u2_c_CH => k_is); (case u3_c_CH => k_is); (case u4_c_CH => k_is); (case u5_c_CH => k_is); (case u6_c_CH => k_is))
    (case n_CH_versions => k_is)
    (case n_CH_branches => k_is)
    (case a_CC => k_is)
    (case c_CC => refine' Wb.clsIs ?u1_c_CC ?u2_c_CC ?u3_c_CC ?u4_c_CC ?u5_c_CC ?u6_c_CC; (case u1_c_CC => k_is); (case u2_c_CC => k_is); (case u3_c_CC => k_is); (case u4_c_CC => k_is); (case u5_c_CC => k_is); (case u6_c_CC => k_is))
    (case n_CC_kind => k_is)
    (case n_CC_some => k_is)
    (case n_CC_lists => k_is)
    (case n_CC_behind => k_is)
    (case m_pi => k_is)
    (case i_pi => k_is)
    (case h_pi => refine' Wb.fnIs ?l_h_pi ?c_h_pi ?k_h_pi; (case l_h_pi => k_is); (case c_h_pi => k_is); (case k_h_pi => k_is))
    (case m_pl => k_is)
    (case i_pl => k_is)
    (case h_pl => refine' Wb.fnIs ?l_h_pl ?c_h_pl ?k_h_pl; (case l_h_pl => k_is); (case c_h_pl => k_is); (case k_h_pl => k_is))
    (case m_pt => k_is)
    (case i_pt => k_is)
    (case h_pt => refine' Wb.fnIs ?l_h_pt ?c_h_pt ?k_h_pt; (case l_h_pt => k_is); (case c_h_pt => k_is); (case k_h_pt => k_is))
    (case m_mi => k_is)
    (case i_mi => k_is)
    (case h_mi => refine' Wb.fnIs ?l_h_mi ?c_h_mi ?k_h_mi; (case l_h_mi => k_is); (case c_h_mi => k_is); (case k_h_mi => k_is))
    (case m_vi => k_is)
    (case i_vi => k_is)
    (case h_vi => refine' Wb.fnIs ?l_h_vi ?c_h_vi ?k_h_vi; (case l_h_vi => k_is); (case c_h_vi => k_is); (case k_h_vi => k_is))
    (case m_hi => k_is)
    (case i_hi => k_is)
    (case h_hi => refine' Wb.fnIs ?l_h_hi ?c_h_hi ?k_h_hi; (case l_h_hi => k_is); (case c_h_hi => k_is); (case k_h_hi => k_is))
    (case m_full => k_is)
    (case i_full => k_is)
    (case h_full => refine' Wb.fnIs ?l_h_full ?c_h_full ?k_h_full; (case l_h_full => k_is); (case c_h_full => k_is); (case k_h_full => k_is))
    (case m_has => k_is)
    (case i_has => k_is)
    (case h_has => refine' Wb.fnIs ?l_h_has ?c_h_has ?k_h_has; (case l_h_has => k_is); (case c_h_has => k_is); (case k_h_has => k_is))
    (case m_doc => k_is)
    (case i_doc => k_is)
    (case h_doc => refine' Wb.fnIs ?l_h_doc ?c_h_doc ?k_h_doc; (case l_h_doc => k_is); (case c_h_doc => k_is); (case k_h_doc => k_is))
    (case m_orig => k_is)
    (case i_orig => k_is)
    (case h_orig => refine' Wb.fnIs ?l_h_orig ?c_h_orig ?k_h_orig; (case l_h_orig => k_is); (case c_h_orig => k_is); (case k_h_orig => k_is))
    (case m_fore => k_is)
    (case i_fore => k_is)
    (case h_fore => refine' Wb.fnIs ?l_h_fore ?c_h_fore ?k_h_fore; (case l_h_fore => k_is); (case c_h_fore => k_is); (case k_h_fore => k_is))
    (case m_make => k_is)
    (case i_make => k_is)
    (case h_make => refine' Wb.fnIs ?l_h_make ?c_h_make ?k_h_make; (case l_h_make => k_is); (case c_h_make => k_is); (case k_h_make => k_is))
    (case m_isf => k_is)
    (case i_isf => k_is)
    (case h_isf => refine' Wb.fnIs ?l_h_isf ?c_h_isf ?k_h_isf; (case l_h_isf => k_is); (case c_h_isf => k_is); (case k_h_isf => k_is))
    (case m_near => k_is)
    (case i_near => k_is)
    (case h_near => refine' Wb.fnIs ?l_h_near ?c_h_near ?k_h_near; (case l_h_near => k_is); (case c_h_near => k_is); (case k_h_near => k_is))
    (case m_first => k_is)
    (case i_first => k_is)
    (case h_first => refine' Wb.fnIs ?l_h_first ?c_h_first ?k_h_first; (case l_h_first => k_is); (case c_h_first => k_is); (case k_h_first => k_is))
    (case m_ci => k_is)
    (case i_ci => k_is)
    (case h_ci => refine' Wb.fnIs ?l_h_ci ?c_h_ci ?k_h_ci; (case l_h_ci => k_is); (case c_h_ci => k_is); (case k_h_ci => k_is))
    (case g_most => k_is)
    (case h_most => refine' Wb.fnIs ?l_h_most ?c_h_most ?k_h_most; (case l_h_most => k_is); (case c_h_most => k_is); (case k_h_most => k_is))
    (case g_way => k_is)
    (case h_way => refine' Wb.fnIs ?l_h_way ?c_h_way ?k_h_way; (case l_h_way => k_is); (case c_h_way => k_is); (case k_h_way => k_is))
    (case g_kept => k_is)
    (case h_kept => refine' Wb.fnIs ?l_h_kept ?c_h_kept ?k_h_kept; (case l_h_kept => k_is); (case c_h_kept => k_is); (case k_h_kept => k_is))
    (case g_parts => k_is)
    (case h_parts => refine' Wb.fnIs ?l_h_parts ?c_h_parts ?k_h_parts; (case l_h_parts => k_is); (case c_h_parts => k_is); (case k_h_parts => k_is))
    (case g_settled => k_is)
    (case h_settled => refine' Wb.fnIs ?l_h_settled ?c_h_settled ?k_h_settled; (case l_h_settled => k_is); (case c_h_settled => k_is); (case k_h_settled => k_is))
    (case g_merged => k_is)
    (case h_merged => refine' Wb.fnIs ?l_h_merged ?c_h_merged ?k_h_merged; (case l_h_merged => k_is); (case c_h_merged => k_is); (case k_h_merged => k_is))
    (case g_fits => k_is)
    (case h_fits => refine' Wb.fnIs ?l_h_fits ?c_h_fits ?k_h_fits; (case l_h_fits => k_is); (case c_h_fits => k_is); (case k_h_fits => k_is))
    (case g_callat => k_is)
    (case h_callat => refine' Wb.fnIs ?l_h_callat ?c_h_callat ?k_h_callat; (case l_h_callat => k_is); (case c_h_callat => k_is); (case k_h_callat => k_is))
    (case g_refuse => k_is)
    (case h_refuse => refine' Wb.fnIs ?l_h_refuse ?c_h_refuse ?k_h_refuse; (case l_h_refuse => k_is); (case c_h_refuse => k_is); (case k_h_refuse => k_is))
    (case g_listed => k_is)
    (case h_listed => refine' Wb.fnIs ?l_h_listed ?c_h_listed ?k_h_listed; (case l_h_listed => k_is); (case c_h_listed => k_is); (case k_h_listed => k_is))
    (case g_ltold => k_is)
    (case h_ltold => refine' Wb.fnIs ?l_h_ltold ?c_h_ltold ?k_h_ltold; (case l_h_ltold => k_is); (case c_h_ltold => k_is); (case k_h_ltold => k_is))
    (case g_askb => k_is)
    (case h_askb => refine' Wb.fnIs ?l_h_askb ?c_h_askb ?k_h_askb; (case l_h_askb => k_is); (case c_h_askb => k_is); (case k_h_askb => k_is))
    (case g_askv => k_is)
    (case h_askv => refine' Wb.fnIs ?l_h_askv ?c_h_askv ?k_h_askv; (case l_h_askv => k_is); (case c_h_askv => k_is); (case k_h_askv => k_is))
    (case g_headof => k_is)
    (case h_headof => refine' Wb.fnIs ?l_h_headof ?c_h_headof ?k_h_headof; (case l_h_headof => k_is); (case c_h_headof => k_is); (case k_h_headof => k_is))
    (case g_putnew => k_is)
    (case h_putnew => refine' Wb.fnIs ?l_h_putnew ?c_h_putnew ?k_h_putnew; (case l_h_putnew => k_is); (case c_h_putnew => k_is); (case k_h_putnew => k_is))
    (case g_commit => k_is)
    (case h_commit => refine' Wb.fnIs ?l_h_commit ?c_h_commit ?k_h_commit; (case l_h_commit => k_is); (case c_h_commit => k_is); (case k_h_commit => k_is))
    (case g_setb => k_is)
    (case h_setb => refine' Wb.fnIs ?l_h_setb ?c_h_setb ?k_h_setb; (case l_h_setb => k_is); (case c_h_setb => k_is); (case k_h_setb => k_is))
    (case g_drop => k_is)
    (case h_drop => refine' Wb.fnIs ?l_h_drop ?c_h_drop ?k_h_drop; (case l_h_drop => k_is); (case c_h_drop => k_is); (case k_h_drop => k_is))
    (case g_head => k_is)
    (case h_head => refine' Wb.fnIs ?l_h_head ?c_h_head ?k_h_head; (case l_h_head => k_is); (case c_h_head => k_is); (case k_h_head => k_is))
    (case g_counted => k_is)
    (case h_counted => refine' Wb.fnIs ?l_h_counted ?c_h_counted ?k_h_counted; (case l_h_counted => k_is); (case c_h_counted => k_is); (case k_h_counted => k_is))
    (case g_ofver => k_is)
    (case h_ofver => refine' Wb.fnIs ?l_h_ofver ?c_h_ofver ?k_h_ofver; (case l_h_ofver => k_is); (case c_h_ofver => k_is); (case k_h_ofver => k_is))
    (case g_added => k_is)
    (case h_added => refine' Wb.fnIs ?l_h_added ?c_h_added ?k_h_added; (case l_h_added => k_is); (case c_h_added => k_is); (case k_h_added => k_is))
    (case g_oftwo => k_is)
    (case h_oftwo => refine' Wb.fnIs ?l_h_oftwo ?c_h_oftwo ?k_h_oftwo; (case l_h_oftwo => k_is); (case c_h_oftwo => k_is); (case k_h_oftwo => k_is))
    (case g_mdoc => k_is)
    (case h_mdoc => refine' Wb.fnIs ?l_h_mdoc ?c_h_mdoc ?k_h_mdoc; (case l_h_mdoc => k_is); (case c_h_mdoc => k_is); (case k_h_mdoc => k_is))
    (case g_putm => k_is)
    (case h_putm => refine' Wb.fnIs ?l_h_putm ?c_h_putm ?k_h_putm; (case l_h_putm => k_is); (case c_h_putm => k_is); (case k_h_putm => k_is))
    (case g_merge => k_is)
    (case h_merge => refine' Wb.fnIs ?l_h_merge ?c_h_merge ?k_h_merge; (case l_h_merge => k_is); (case c_h_merge => k_is); (case k_h_merge => k_is))
    (case g_ofbr => k_is)
    (case h_ofbr => refine' Wb.fnIs ?l_h_ofbr ?c_h_ofbr ?k_h_ofbr; (case l_h_ofbr => k_is); (case c_h_ofbr => k_is); (case k_h_ofbr => k_is))
    (case g_trym => k_is)
    (case h_trym => refine' Wb.fnIs ?l_h_trym ?c_h_trym ?k_h_trym; (case l_h_trym => k_is); (case c_h_trym => k_is); (case k_h_trym => k_is))
    (case g_told => k_is)
    (case h_told => refine' Wb.fnIs ?l_h_told ?c_h_told ?k_h_told; (case l_h_told => k_is); (case c_h_told => k_is); (case k_h_told => k_is))
    (case g_tor => k_is)
    (case h_tor => refine' Wb.fnIs ?l_h_tor ?c_h_tor ?k_h_tor; (case l_h_tor => k_is); (case c_h_tor => k_is); (case k_h_tor => k_is))
    (case j_KEPT => refine' Wb.gInt ?v_j_KEPT; (case v_j_KEPT => k_is))
    (case j_DROPPED => refine' Wb.gInt ?v_j_DROPPED; (case v_j_DROPPED => k_is))
    (case j_ADDED => refine' Wb.gInt ?v_j_ADDED; (case v_j_ADDED => k_is))
    (case j_MOST_VERSIONS => refine' Wb.gInt ?v_j_MOST_VERSIONS; (case v_j_MOST_VERSIONS => k_is))
    (case j_MOST_LINES => refine' Wb.gInt ?v_j_MOST_LINES; (case v_j_MOST_LINES => k_is))
    (case j_MOST_BYTES => refine' Wb.gInt ?v_j_MOST_BYTES; (case v_j_MOST_BYTES => k_is))
    (case j_MOST_BRANCHES => refine' Wb.gInt ?v_j_MOST_BRANCHES; (case v_j_MOST_BRANCHES => k_is))
    (case j_NOWHERE => refine' Wb.gInt ?v_j_NOWHERE; (case v_j_NOWHERE => k_is))
    (case j_NOT_SO => refine' Wb.gInt ?v_j_NOT_SO; (case v_j_NOT_SO => k_is))
    (case j_CLASHES => refine' Wb.gInt ?v_j_CLASHES; (case v_j_CLASHES => k_is))
    (case j_NONE_SUCH => refine' Wb.gInt ?v_j_NONE_SUCH; (case v_j_NONE_SUCH => k_is))
    (case j_FULL => refine' Wb.gInt ?v_j_FULL; (case v_j_FULL => k_is))
    (case j_COMMIT => refine' Wb.gInt ?v_j_COMMIT; (case v_j_COMMIT => k_is))
    (case j_BRANCH => refine' Wb.gInt ?v_j_BRANCH; (case v_j_BRANCH => k_is))
    (case j_DROP => refine' Wb.gInt ?v_j_DROP; (case v_j_DROP => k_is))
    (case j_HEAD => refine' Wb.gInt ?v_j_HEAD; (case v_j_HEAD => k_is))
    (case j_DOC => refine' Wb.gInt ?v_j_DOC; (case v_j_DOC => k_is))
    (case j_PARENTS => refine' Wb.gInt ?v_j_PARENTS; (case v_j_PARENTS => k_is))
    (case j_LOG => refine' Wb.gInt ?v_j_LOG; (case v_j_LOG => k_is))
    (case j_COMMON => refine' Wb.gInt ?v_j_COMMON; (case v_j_COMMON => k_is))
    (case j_WAY => refine' Wb.gInt ?v_j_WAY; (case v_j_WAY => k_is))
    (case j_MERGE => refine' Wb.gInt ?v_j_MERGE; (case v_j_MERGE => k_is))
    (case j_PICK => refine' Wb.gInt ?v_j_PICK; (case v_j_PICK => k_is))
    (case j_UNDO => refine' Wb.gInt ?v_j_UNDO; (case v_j_UNDO => k_is))
    (case j_TRY => refine' Wb.gInt ?v_j_TRY; (case v_j_TRY => k_is))
    (case j_ORIGINS => refine' Wb.gInt ?v_j_ORIGINS; (case v_j_ORIGINS => k_is))
    (case z_len => k_is)
    (case z_range => k_is)
    (case z_max => k_is)
    (case z_int => k_is)
    (case z_zip => k_is)
    (case z_enumerate => k_is)
    (case z_reversed => k_is)
    (case z_sorted => k_is)
    (case z_list => k_is)
    (case aR => k_is)
    (case xR => k_is)
    (case sa => k_is)
    (case ga => k_is)
    (case gg => k_is)
    (case nb => k_is)
    (case aI => k_is)
    (case tI => k_is)
    (case lI => k_is)
    (case cI => k_is)
    (case kC => k_is)
    (case eC => k_is)
    (case tC => k_is)
    (case hC => k_is)
    (case iC => k_is)
    (case sC => first | rfl | k_is)
    (case gA => k_is)
    (case lA => k_is)
    (case cA => k_is)
    (case kA => k_is)
  case S =>
    intro K H xs a hO hwi hask hx
    cases hx with
    | cons h1 h2 =>
      cases h2
      cases h1 with
      | lst hs ha =>
        have e := L2.ints_dw a.1 _ ha
        subst e
        have q : ((Codec.inLen 0 16000 a.1 && a.1.all (Codec.inInt 0 18446744073709551615)) && true) = true := hwi
        rw [Bool.and_eq_true, Bool.and_eq_true] at q
        have hl : a.1.length ≤ 16000 := (Codec.inNat_iff.mp q.1.1).2
        exact ⟨_, a.1, rfl, hs, Nat.le_trans hl (by decide), hask, fun H' p hp => .lst (L2.SqL.of hp) (L2.dw_ints _)⟩
