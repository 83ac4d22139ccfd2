import PyProof.Rows.All
import Wide.All
import OpenK.AllK
import Wide.FinOn
import HandS.ForMost
import HandS.Conv
import HandS.DictComp
import HandS.TupAny
import HandS.SortInts
import KE.GoesNew
import HandS.SortRule
import HandS.Strs
import HandS.SetFor
import HandS.Exc
import HandS.IsInst
import HandS.Flow
import HandS.Style
import HandS.TupLen
import PySem.Challenge.RW_longforms_k15_sides_of_pair_row
set_option Elab.async false
set_option linter.all false
set_option maxRecDepth 100000
set_option maxHeartbeats 4000000
/-! Plain mathematics: association lists, first-come lists, sorts by insertion, sums. -/
namespace LM
section
variable {κ β : Type} [DecidableEq κ]
def look (l : List (κ × β)) (k : κ) : Option β := (l.find? fun p => decide (p.1 = k)).map (·.2)
def put (l : List (κ × β)) (k : κ) (v : β) : List (κ × β) :=
  if (l.any fun p => decide (p.1 = k)) = true then l.map (fun p => if p.1 = k then (p.1, v) else p) else l ++ [(k, v)]
def keys (l : List (κ × β)) : List κ := l.map (·.1)
@[simp] theorem look_nil (k : κ) : look ([] : List (κ × β)) k = none := rfl
theorem look_cons (p : κ × β) (l : List (κ × β)) (k : κ) : look (p :: l) k = if p.1 = k then some p.2 else look l k := by
  unfold look
  rw [List.find?_cons]
  by_cases h : p.1 = k <;> simp [h]
theorem look_none {l : List (κ × β)} {k : κ} : look l k = none ↔ k ∉ keys l := by
  induction l with
  | nil => simp [look, keys]
  | cons p l ih =>
    rw [look_cons]
    by_cases h : p.1 = k
    · simp [h, keys]
    · rw [if_neg h, ih]
      simp only [keys, List.map_cons, List.mem_cons, not_or]
      constructor
      · intro h2
        exact ⟨fun e => h e.symm, h2⟩
      · intro h2
        exact h2.2
theorem look_some_mem {l : List (κ × β)} {k : κ} {v : β} (h : look l k = some v) : (k, v) ∈ l := by
  induction l with
  | nil => simp at h
  | cons p l ih =>
    rw [look_cons] at h
    by_cases e : p.1 = k
    · rw [if_pos e] at h
      cases h
      rw [← e]
      exact List.mem_cons_self
    · rw [if_neg e] at h
      exact List.mem_cons_of_mem _ (ih h)
theorem mem_keys_look {l : List (κ × β)} {k : κ} (h : k ∈ keys l) : ∃ v, look l k = some v := by
  cases e : look l k with
  | none => exact absurd h (look_none.mp e)
  | some v => exact ⟨v, rfl⟩
theorem look_of_mem {l : List (κ × β)} {k : κ} {v : β} (nd : (keys l).Nodup) (h : (k, v) ∈ l) : look l k = some v := by
  induction l with
  | nil => simp at h
  | cons p l ih =>
    rw [look_cons]
    simp only [keys, List.map_cons, List.nodup_cons] at nd
    rcases List.mem_cons.mp h with e | h
    · subst e
      simp
    · have hk : k ∈ keys l := List.mem_map.mpr ⟨_, h, rfl⟩
      rw [if_neg (fun e => nd.1 (by rw [e]; exact hk)), ih nd.2 h]
theorem any_look (l : List (κ × β)) (k : κ) : (l.any fun p => decide (p.1 = k)) = (look l k).isSome := by
  induction l with
  | nil => rfl
  | cons p l ih =>
    rw [look_cons, List.any_cons, ih]
    by_cases h : p.1 = k <;> simp [h]
theorem put_new {l : List (κ × β)} {k : κ} (v : β) (h : look l k = none) : put l k v = l ++ [(k, v)] := by
  unfold put
  rw [any_look, h]
  rfl
theorem put_old {l : List (κ × β)} {k : κ} (v : β) (h : look l k ≠ none) : put l k v = l.map (fun p => if p.1 = k then (p.1, v) else p) := by
  unfold put
  rw [any_look, if_pos (by cases e : look l k with | none => exact absurd e h | some _ => rfl)]
theorem keys_put (l : List (κ × β)) (k : κ) (v : β) : keys (put l k v) = if k ∈ keys l then keys l else keys l ++ [k] := by
  by_cases h : look l k = none
  · rw [put_new v h, if_neg (look_none.mp h)]
    simp [keys]
  · rw [put_old v h, if_pos (Classical.byContradiction fun e => h (look_none.mpr e))]
    unfold keys
    rw [List.map_map]
    apply List.map_congr_left
    intro p _
    show (if p.1 = k then (p.1, v) else p).1 = p.1
    by_cases e : p.1 = k <;> simp [e]
theorem nodup_put {l : List (κ × β)} (k : κ) (v : β) (nd : (keys l).Nodup) : (keys (put l k v)).Nodup := by
  rw [keys_put]
  by_cases h : k ∈ keys l
  · rw [if_pos h]
    exact nd
  · rw [if_neg h, List.nodup_append]
    exact ⟨nd, by simp, fun a ha b hb => by
      rw [List.mem_singleton] at hb
      subst hb
      intro e
      subst e
      exact h ha⟩
theorem look_append (l m : List (κ × β)) (k : κ) : look (l ++ m) k = (look l k).or (look m k) := by
  induction l with
  | nil => rfl
  | cons p l ih =>
    rw [List.cons_append, look_cons, look_cons, ih]
    by_cases h : p.1 = k <;> simp [h]
theorem look_put (l : List (κ × β)) (k j : κ) (v : β) : look (put l k v) j = if j = k then some v else look l j := by
  by_cases h : look l k = none
  · rw [put_new v h, look_append]
    by_cases e : j = k
    · subst e
      rw [h, if_pos rfl]
      simp [look_cons]
    · rw [if_neg e, look_cons, if_neg (fun q => e q.symm)]
      cases look l j <;> rfl
  · rw [put_old v h]
    have q : ∀ m : List (κ × β), look (m.map (fun p => if p.1 = k then (p.1, v) else p)) j = if j = k then (look m k).map (fun _ => v) else look m j := by
      intro m
      induction m with
      | nil => simp
      | cons p m ih =>
        rw [List.map_cons, look_cons, look_cons, look_cons, ih]
        by_cases h1 : p.1 = k
        · by_cases h2 : j = k
          · subst h2
            simp [h1]
          · have h3 : ¬ k = j := fun e => h2 e.symm
            simp [h1, h2, h3]
        · by_cases h2 : j = k
          · subst h2
            simp [h1]
          · simp [h1, h2]
    rw [q]
    by_cases e : j = k
    · rw [if_pos e, if_pos e]
      cases e2 : look l k with
      | none => exact absurd e2 h
      | some w => rfl
    · rw [if_neg e, if_neg e]
theorem length_put (l : List (κ × β)) (k : κ) (v : β) : (put l k v).length ≤ l.length + 1 := by
  unfold put
  split <;> simp
/-- two association lists that tell the same are rearrangements of each other -/
theorem perm_of_look [DecidableEq β] {l m : List (κ × β)} (nl : (keys l).Nodup) (nm : (keys m).Nodup) (h : ∀ k, look l k = look m k) : l.Perm m := by
  have ndl : l.Nodup := (List.pairwise_map.mp nl).imp fun h e => h (by rw [e])
  have ndm : m.Nodup := (List.pairwise_map.mp nm).imp fun h e => h (by rw [e])
  refine (List.perm_ext_iff_of_nodup ndl ndm).mpr fun p => ?_
  have q : p ∈ l ↔ p ∈ m := by
    constructor
    · intro hp
      have e := look_of_mem nl (k := p.1) (v := p.2) hp
      rw [h] at e
      exact look_some_mem e
    · intro hp
      have e := look_of_mem nm (k := p.1) (v := p.2) hp
      rw [← h] at e
      exact look_some_mem e
  exact q
end
/-! ### sums by keys -/
section
variable {κ : Type} [DecidableEq κ]
def S (P : κ → Bool) (l : List (κ × Int)) : Int := ((l.filter fun p => P p.1).map (·.2)).sum
@[simp] theorem S_nil (P : κ → Bool) : S P [] = 0 := rfl
theorem S_cons (P : κ → Bool) (p : κ × Int) (l : List (κ × Int)) : S P (p :: l) = (if P p.1 = true then p.2 else 0) + S P l := by
  unfold S
  rw [List.filter_cons]
  by_cases h : P p.1 = true
  · rw [if_pos h, if_pos h, List.map_cons, List.sum_cons]
  · rw [if_neg h, if_neg h, Int.zero_add]
theorem S_append (P : κ → Bool) (l m : List (κ × Int)) : S P (l ++ m) = S P l + S P m := by
  unfold S
  rw [List.filter_append, List.map_append, List.sum_append]
theorem S_perm (P : κ → Bool) {l m : List (κ × Int)} (h : l.Perm m) : S P l = S P m := by
  induction h with
  | nil => rfl
  | cons x _ ih => rw [S_cons, S_cons, ih]
  | swap x y l =>
    rw [S_cons, S_cons, S_cons, S_cons]
    omega
  | trans _ _ i j => rw [i, j]
theorem S_congr {P Q : κ → Bool} {l : List (κ × Int)} (h : ∀ p ∈ l, P p.1 = Q p.1) : S P l = S Q l := by
  unfold S
  rw [List.filter_congr fun p hp => by rw [h p hp]]
def acc (l : List (κ × Int)) (k : κ) (v : Int) : List (κ × Int) := put l k ((look l k).getD 0 + v)
theorem S_acc (P : κ → Bool) {l : List (κ × Int)} (nd : (keys l).Nodup) (k : κ) (v : Int) : S P (acc l k v) = S P l + if P k = true then v else 0 := by
  unfold acc
  by_cases h : look l k = none
  · rw [put_new _ h, S_append, S_cons, h]
    simp
  · rw [put_old _ h]
    obtain ⟨w, hw⟩ : ∃ w, look l k = some w := by
      cases e : look l k with
      | none => exact absurd e h
      | some w => exact ⟨w, rfl⟩
    rw [hw]
    clear h
    show S P (l.map (fun p => if p.1 = k then (p.1, w + v) else p)) = _
    induction l with
    | nil => simp at hw
    | cons p l ih =>
      simp only [keys, List.map_cons, List.nodup_cons] at nd
      rw [look_cons] at hw
      rw [List.map_cons, S_cons, S_cons]
      by_cases e : p.1 = k
      · rw [if_pos e] at hw
        cases hw
        have same : l.map (fun q => if q.1 = k then (q.1, p.2 + v) else q) = l := by
          have : l.map (fun q => if q.1 = k then (q.1, p.2 + v) else q) = l.map id := by
            apply List.map_congr_left
            intro q hq
            rw [if_neg fun e2 => nd.1 (by rw [e, ← e2]; exact List.mem_map.mpr ⟨q, hq, rfl⟩)]
            rfl
          rw [this, List.map_id]
        rw [same, if_pos e]
        subst e
        by_cases hp : P p.1 = true <;> simp [hp]
        omega
      · rw [if_neg e] at hw
        rw [ih nd.2 hw, if_neg e]
        omega
theorem nodup_acc {l : List (κ × Int)} (k : κ) (v : Int) (nd : (keys l).Nodup) : (keys (acc l k v)).Nodup := nodup_put _ _ nd
theorem look_acc (l : List (κ × Int)) (k j : κ) (v : Int) : look (acc l k v) j = if j = k then some ((look l k).getD 0 + v) else look l j := look_put _ _ _ _
def accs (l : List (κ × Int)) (cs : List (κ × Int)) : List (κ × Int) := cs.foldl (fun l c => acc l c.1 c.2) l
theorem nodup_accs (cs : List (κ × Int)) : ∀ {l : List (κ × Int)}, (keys l).Nodup → (keys (accs l cs)).Nodup := by
  induction cs with
  | nil => exact fun h => h
  | cons c cs ih => exact fun h => ih (nodup_acc _ _ h)
theorem S_accs (P : κ → Bool) (cs : List (κ × Int)) : ∀ {l : List (κ × Int)}, (keys l).Nodup → S P (accs l cs) = S P l + S P cs := by
  induction cs with
  | nil =>
    intro l _
    show S P l = S P l + 0
    omega
  | cons c cs ih =>
    intro l h
    show S P (accs (acc l c.1 c.2) cs) = _
    rw [ih (nodup_acc _ _ h), S_acc P h, S_cons]
    omega
theorem keys_accs (cs : List (κ × Int)) (k : κ) : ∀ {l : List (κ × Int)}, k ∈ keys (accs l cs) ↔ k ∈ keys l ∨ k ∈ keys cs := by
  induction cs with
  | nil =>
    intro l
    show k ∈ keys l ↔ _
    simp [keys]
  | cons c cs ih =>
    intro l
    show k ∈ keys (accs (acc l c.1 c.2) cs) ↔ _
    rw [ih]
    unfold acc
    rw [keys_put]
    by_cases h : c.1 ∈ keys l
    · rw [if_pos h]
      simp only [keys, List.map_cons, List.mem_cons] at *
      constructor
      · rintro (a | a)
        · exact .inl a
        · exact .inr (.inr a)
      · rintro (a | a | a)
        · exact .inl a
        · subst a
          exact .inl h
        · exact .inr a
    · rw [if_neg h]
      simp only [keys, List.map_cons, List.mem_cons, List.mem_append, List.not_mem_nil, or_false, or_assoc]
theorem S_look {l : List (κ × Int)} (nd : (keys l).Nodup) (k : κ) : S (fun j => decide (j = k)) l = (look l k).getD 0 := by
  induction l with
  | nil => rfl
  | cons p l ih =>
    simp only [keys, List.map_cons, List.nodup_cons] at nd
    rw [S_cons, look_cons, ih nd.2]
    by_cases e : p.1 = k
    · have : look l k = none := look_none.mpr (by rw [← e]; exact nd.1)
      simp [e, this]
    · simp [e]
theorem look_accs {cs : List (κ × Int)} {l : List (κ × Int)} (nd : (keys l).Nodup) (k : κ) :
    look (accs l cs) k = if k ∈ keys l ∨ k ∈ keys cs then some ((look l k).getD 0 + S (fun j => decide (j = k)) cs) else none := by
  by_cases h : k ∈ keys l ∨ k ∈ keys cs
  · rw [if_pos h]
    obtain ⟨v, hv⟩ := mem_keys_look ((keys_accs cs k).mpr h)
    have e := S_look (nodup_accs cs nd) k
    rw [S_accs _ _ nd, S_look nd, hv] at e
    rw [hv, e]
    rfl
  · rw [if_neg h, look_none, keys_accs]
    exact h
end
/-! ### lists without doubles, in the sequence in which they come -/
section
variable {α : Type} [DecidableEq α]
def addN (l : List α) (x : α) : List α := if x ∈ l then l else l ++ [x]
def dedup (xs : List α) : List α := xs.foldl addN []
theorem nodup_addN {l : List α} (x : α) (h : l.Nodup) : (addN l x).Nodup := by
  unfold addN
  by_cases hx : x ∈ l
  · rw [if_pos hx]
    exact h
  · rw [if_neg hx, List.nodup_append]
    exact ⟨h, by simp, fun a ha b hb e => hx (by rw [List.mem_singleton] at hb; subst hb; subst e; exact ha)⟩
theorem mem_addN {l : List α} {x y : α} : y ∈ addN l x ↔ y ∈ l ∨ y = x := by
  unfold addN
  by_cases hx : x ∈ l
  · rw [if_pos hx]
    constructor
    · exact .inl
    · rintro (h | h)
      · exact h
      · subst h
        exact hx
  · rw [if_neg hx]
    simp
theorem nodup_foldN (xs : List α) : ∀ {l : List α}, l.Nodup → (xs.foldl addN l).Nodup := by
  induction xs with
  | nil => exact fun h => h
  | cons x xs ih => exact fun h => ih (nodup_addN x h)
theorem mem_foldN (xs : List α) {y : α} : ∀ {l : List α}, y ∈ xs.foldl addN l ↔ y ∈ l ∨ y ∈ xs := by
  induction xs with
  | nil => intro l; simp
  | cons x xs ih =>
    intro l
    show y ∈ xs.foldl addN (addN l x) ↔ _
    rw [ih, mem_addN, List.mem_cons, or_assoc]
theorem nodup_dedup (xs : List α) : (dedup xs).Nodup := nodup_foldN xs List.nodup_nil
theorem mem_dedup {xs : List α} {y : α} : y ∈ dedup xs ↔ y ∈ xs := by
  unfold dedup
  rw [mem_foldN]
  simp
theorem len_foldN (xs : List α) : ∀ {l : List α}, (xs.foldl addN l).length ≤ l.length + xs.length := by
  induction xs with
  | nil => intro l; simp
  | cons x xs ih =>
    intro l
    have h := ih (l := addN l x)
    have h2 : (addN l x).length ≤ l.length + 1 := by
      unfold addN
      split <;> simp
    show (xs.foldl addN (addN l x)).length ≤ _
    rw [List.length_cons]
    omega
theorem len_dedup (xs : List α) : (dedup xs).length ≤ xs.length := by
  have h := len_foldN xs (l := ([] : List α))
  rw [List.length_nil, Nat.zero_add] at h
  exact h
end
/-! ### sorting by insertion -/
section
variable {α : Type} (le : α → α → Bool)
def ins (x : α) : List α → List α
  | [] => [x]
  | y :: r => if le x y = true then x :: y :: r else y :: ins x r
def isort (xs : List α) : List α := xs.foldr (ins le) []
theorem ins_perm (x : α) : ∀ l : List α, (ins le x l).Perm (x :: l)
  | [] => .refl _
  | y :: r => by
    unfold ins
    split
    · exact .refl _
    · exact ((ins_perm x r).cons y).trans (.swap x y r)
theorem isort_perm : ∀ l : List α, (isort le l).Perm l
  | [] => .refl _
  | x :: r => (ins_perm le x _).trans ((isort_perm r).cons x)
theorem ins_sorted (tot : ∀ a b, le a b = true ∨ le b a = true) (tr : ∀ a b c, le a b = true → le b c = true → le a c = true) (x : α) : ∀ {l : List α}, l.Pairwise (fun a b => le a b = true) → (ins le x l).Pairwise fun a b => le a b = true
  | [], _ => by simp [ins]
  | y :: r, h => by
    unfold ins
    have h1 := List.pairwise_cons.mp h
    split
    · rename_i hxy
      exact List.pairwise_cons.mpr ⟨fun z hz => by
        rcases List.mem_cons.mp hz with e | hz
        · rw [e]
          exact hxy
        · exact tr _ _ _ hxy (h1.1 z hz), h⟩
    · rename_i hxy
      refine List.pairwise_cons.mpr ⟨fun z hz => ?_, ins_sorted tot tr x h1.2⟩
      rcases List.mem_cons.mp ((ins_perm le x r).mem_iff.mp hz) with e | hz
      · rw [e]
        exact (tot x y).resolve_left hxy
      · exact h1.1 z hz
theorem isort_sorted (tot : ∀ a b, le a b = true ∨ le b a = true) (tr : ∀ a b c, le a b = true → le b c = true → le a c = true) : ∀ l : List α, (isort le l).Pairwise fun a b => le a b = true
  | [] => .nil
  | x :: r => ins_sorted le tot tr x (isort_sorted tot tr r)
theorem sorted_uniq (anti : ∀ a b, le a b = true → le b a = true → a = b) : ∀ {l m : List α}, l.Pairwise (fun a b => le a b = true) → m.Pairwise (fun a b => le a b = true) → l.Perm m → l = m
  | [], m, _, _, h => (List.Perm.eq_nil h.symm).symm
  | x :: l, [], _, _, h => absurd h.length_eq (by simp)
  | x :: l, y :: m, hl, hm, h => by
    have a := List.pairwise_cons.mp hl
    have b := List.pairwise_cons.mp hm
    have e : x = y := by
      rcases List.mem_cons.mp (h.mem_iff.mp List.mem_cons_self) with e | hx
      · exact e
      · rcases List.mem_cons.mp (h.mem_iff.mpr List.mem_cons_self) with e | hy
        · exact e.symm
        · exact anti _ _ (a.1 y hy) (b.1 x hx)
    subst e
    rw [sorted_uniq anti a.2 b.2 h.cons_inv]
end
def leI (a b : Int) : Bool := decide (a ≤ b)
def sortI (l : List Int) : List Int := isort leI l
theorem sortI_eq {l m : List Int} (p : l.Perm m) (s : l.Pairwise (· ≤ ·)) : l = sortI m :=
  sorted_uniq leI (fun a b h1 h2 => by have := of_decide_eq_true h1; have := of_decide_eq_true h2; omega) (s.imp fun h => decide_eq_true h)
    (isort_sorted leI (fun a b => by by_cases h : a ≤ b; exact .inl (decide_eq_true h); exact .inr (decide_eq_true (by omega))) (fun a b c h1 h2 => by have := of_decide_eq_true h1; have := of_decide_eq_true h2; exact decide_eq_true (by omega)) m) (p.trans (isort_perm leI m).symm)
theorem sortI_perm (l : List Int) : (sortI l).Perm l := isort_perm _ _
theorem sortI_sorted (m : List Int) : (sortI m).Pairwise (· ≤ ·) := (isort_sorted leI (fun a b => by by_cases h : a ≤ b; exact .inl (decide_eq_true h); exact .inr (decide_eq_true (by omega))) (fun a b c h1 h2 => by have := of_decide_eq_true h1; have := of_decide_eq_true h2; exact decide_eq_true (by omega)) m).imp fun h => of_decide_eq_true h
/-- pairs, by the first, then by the second -/
def leP (a b : Int × Int) : Bool := decide (a.1 < b.1 ∨ (a.1 = b.1 ∧ a.2 ≤ b.2))
theorem leP_tot (a b : Int × Int) : leP a b = true ∨ leP b a = true := by
  unfold leP
  rw [decide_eq_true_iff, decide_eq_true_iff]
  omega
theorem leP_tr (a b c : Int × Int) (h1 : leP a b = true) (h2 : leP b c = true) : leP a c = true := by
  unfold leP at *
  rw [decide_eq_true_iff] at *
  omega
theorem leP_anti (a b : Int × Int) (h1 : leP a b = true) (h2 : leP b a = true) : a = b := by
  unfold leP at *
  rw [decide_eq_true_iff] at *
  exact Prod.ext (by omega) (by omega)
def sortP (l : List (Int × Int)) : List (Int × Int) := isort leP l
theorem sortP_eq {l m : List (Int × Int)} (p : l.Perm m) (s : l.Pairwise (fun a b => leP a b = true)) : l = sortP m :=
  sorted_uniq leP leP_anti s (isort_sorted leP leP_tot leP_tr m) (p.trans (isort_perm leP m).symm)
theorem sortP_perm (l : List (Int × Int)) : (sortP l).Perm l := isort_perm _ _
end LM

/-! Rows of numbers: neighbours, sides, pairs: plain mathematics. -/
namespace LM
abbrev P2 := Int × Int
def zipT (row : List Int) : List P2 := row.zip (row.drop 1)
def ones (ps : List P2) : List (P2 × Int) := ps.map fun p => (p, 1)
def counts (row : List Int) : List (P2 × Int) := accs [] (ones (zipT row))
def nums (row : List Int) : List Int := dedup row
/-- what neighbours (a, b), c of them, add to the weights of x -/
def con (x : Int) (p : P2) (c : Int) : List (Int × Int) := (if p.1 = x then [(p.2, c)] else []) ++ (if p.2 = x then [(p.1, c)] else [])
def innerC (cs : List (P2 × Int)) (x : Int) : List (Int × Int) := accs [] (cs.flatMap fun e => con x e.1 e.2)
theorem S_one (k a b x c : Int) : S (fun j => decide (j = k)) (if a = x then [(b, c)] else []) = if (a, b) = (x, k) then c else 0 := by
  by_cases h1 : a = x
  · rw [if_pos h1, S_cons, S_nil, Int.add_zero]
    by_cases h2 : b = k
    · rw [if_pos (decide_eq_true h2), if_pos (by rw [h1, h2])]
    · rw [if_neg (by simpa using h2), if_neg (fun e => h2 (congrArg Prod.snd e))]
  · rw [if_neg h1, S_nil, if_neg (fun e => h1 (congrArg Prod.fst e))]
theorem S_con (x k : Int) (p : P2) (c : Int) : S (fun j => decide (j = k)) (con x p c) = (if p = (x, k) then c else 0) + (if p = (k, x) then c else 0) := by
  obtain ⟨a, b⟩ := p
  unfold con
  rw [S_append, S_one, S_one]
  have e : ((b, a) = ((x, k) : Int × Int)) ↔ ((a, b) = ((k, x) : Int × Int)) := by
    constructor <;> (intro h; cases h; rfl)
  by_cases h : (b, a) = ((x, k) : Int × Int)
  · rw [if_pos h, if_pos (e.mp h)]
  · rw [if_neg h, if_neg (fun z => h (e.mpr z))]
theorem S_flat (x k : Int) : ∀ cs : List (P2 × Int), S (fun j => decide (j = k)) (cs.flatMap fun e => con x e.1 e.2) = S (fun p => decide (p = (x, k))) cs + S (fun p => decide (p = (k, x))) cs
  | [] => rfl
  | e :: cs => by
    rw [List.flatMap_cons, S_append, S_flat x k cs, S_con, S_cons, S_cons]
    simp only [decide_eq_true_eq]
    omega
theorem mem_keys_con (x k : Int) (p : P2) (c : Int) : k ∈ keys (con x p c) ↔ p = (x, k) ∨ p = (k, x) := by
  obtain ⟨a, b⟩ := p
  unfold con keys
  by_cases h1 : a = x <;> by_cases h2 : b = x <;> simp [h1, h2] <;> omega
theorem mem_keys_flat (x k : Int) (cs : List (P2 × Int)) : k ∈ keys (cs.flatMap fun e => con x e.1 e.2) ↔ (x, k) ∈ keys cs ∨ (k, x) ∈ keys cs := by
  induction cs with
  | nil => simp [keys]
  | cons e cs ih =>
    have : k ∈ keys ((e :: cs).flatMap fun e => con x e.1 e.2) ↔ k ∈ keys (con x e.1 e.2) ∨ k ∈ keys (cs.flatMap fun e => con x e.1 e.2) := by
      rw [List.flatMap_cons]
      simp [keys]
    rw [this, ih, mem_keys_con]
    simp only [keys, List.map_cons, List.mem_cons]
    constructor
    · rintro ((h | h) | (h | h))
      · exact .inl (.inl h.symm)
      · exact .inr (.inl h.symm)
      · exact .inl (.inr h)
      · exact .inr (.inr h)
    · rintro ((h | h) | (h | h))
      · exact .inl (.inl h.symm)
      · exact .inr (.inl h)
      · exact .inl (.inr h.symm)
      · exact .inr (.inr h)
theorem nd_nil {κ β : Type} : (keys ([] : List (κ × β))).Nodup := List.nodup_nil
/-- the weights by pairs with counts are those by pairs one by one -/
theorem inner_perm (row : List Int) (x : Int) : (innerC (counts row) x).Perm (innerC (ones (zipT row)) x) := by
  refine perm_of_look (nodup_accs _ nd_nil) (nodup_accs _ nd_nil) fun k => ?_
  unfold innerC
  rw [look_accs nd_nil, look_accs nd_nil]
  have e : ∀ q : P2, q ∈ keys (counts row) ↔ q ∈ keys (ones (zipT row)) := fun q => by
    unfold counts
    rw [keys_accs]
    simp [keys]
  have h1 : (k ∈ keys ([] : List (Int × Int)) ∨ k ∈ keys ((counts row).flatMap fun e => con x e.1 e.2)) ↔ (k ∈ keys ([] : List (Int × Int)) ∨ k ∈ keys ((ones (zipT row)).flatMap fun e => con x e.1 e.2)) := by
    rw [mem_keys_flat, mem_keys_flat, e, e]
  have h2 : S (fun j => decide (j = k)) ((counts row).flatMap fun e => con x e.1 e.2) = S (fun j => decide (j = k)) ((ones (zipT row)).flatMap fun e => con x e.1 e.2) := by
    rw [S_flat, S_flat]
    unfold counts
    rw [S_accs _ _ nd_nil, S_accs _ _ nd_nil, S_nil, S_nil]
    omega
  rw [h2]
  by_cases h : k ∈ keys ([] : List (Int × Int)) ∨ k ∈ keys ((counts row).flatMap fun e => con x e.1 e.2)
  · rw [if_pos h, if_pos (h1.mp h)]
  · rw [if_neg h, if_neg (fun z => h (h1.mpr z))]
/-! ### sides -/
def sumOn (sd : List (Int × Int)) (i : Int) (l : List (Int × Int)) : Int := S (fun b => decide (look sd b = some i)) l
def sideStep (inner : Int → List (Int × Int)) (sd : List (Int × Int)) (x : Int) : List (Int × Int) :=
  put sd x (if sumOn sd 1 (inner x) < sumOn sd 0 (inner x) then 1 else 0)
def sidesAll (inner : Int → List (Int × Int)) (srt : List Int) : List (Int × Int) := srt.foldl (sideStep inner) []
def sv (sd : List (Int × Int)) (x : Int) : Int := (look sd x).getD 0
def ahead (sd : List (Int × Int)) (cs : List (P2 × Int)) : Int := S (fun p => decide (sv sd p.1 < sv sd p.2)) cs
def behind (sd : List (Int × Int)) (cs : List (P2 × Int)) : Int := S (fun p => decide (sv sd p.2 < sv sd p.1)) cs
def leftBy (inner : Int → List (Int × Int)) (cs : List (P2 × Int)) (srt : List Int) : List Int :=
  srt.filter fun x => decide (sv (sidesAll inner srt) x = if ahead (sidesAll inner srt) cs < behind (sidesAll inner srt) cs then 1 else 0)
def leftNums (row : List Int) : List Int := leftBy (innerC (counts row)) (counts row) (sortI (nums row))
theorem sidesAll_perm {i j : Int → List (Int × Int)} (h : ∀ x, (i x).Perm (j x)) (srt : List Int) : sidesAll i srt = sidesAll j srt := by
  unfold sidesAll
  have : sideStep i = sideStep j := by
    funext sd x
    unfold sideStep sumOn
    rw [S_perm _ (h x), S_perm _ (h x)]
  rw [this]
theorem leftBy_ones (row : List Int) (srt : List Int) : leftBy (innerC (ones (zipT row))) (ones (zipT row)) srt = leftBy (innerC (counts row)) (counts row) srt := by
  unfold leftBy
  rw [sidesAll_perm (fun x => (inner_perm row x).symm)]
  have e : ∀ P, S P (counts row) = S P (ones (zipT row)) := fun P => by
    unfold counts
    rw [S_accs _ _ nd_nil, S_nil]
    omega
  unfold ahead behind
  rw [e, e]
/-- the sides are 0 and 1 -/
theorem sidesAll_01 (inner : Int → List (Int × Int)) (srt : List Int) : ∀ {sd : List (Int × Int)}, (∀ k v, look sd k = some v → v = 0 ∨ v = 1) → ∀ k v, look (srt.foldl (sideStep inner) sd) k = some v → v = 0 ∨ v = 1 := by
  induction srt with
  | nil => exact fun h => h
  | cons x srt ih =>
    intro sd h
    refine ih fun k v e => ?_
    unfold sideStep at e
    rw [look_put] at e
    by_cases hk : k = x
    · rw [if_pos hk] at e
      have := Option.some.inj e
      subst this
      split <;> omega
    · rw [if_neg hk] at e
      exact h k v e
theorem keys_sides (inner : Int → List (Int × Int)) (srt : List Int) (k : Int) : ∀ {sd : List (Int × Int)}, k ∈ keys (srt.foldl (sideStep inner) sd) ↔ k ∈ keys sd ∨ k ∈ srt := by
  induction srt with
  | nil => intro sd; simp
  | cons x srt ih =>
    intro sd
    show k ∈ keys (srt.foldl (sideStep inner) (sideStep inner sd x)) ↔ _
    rw [ih]
    unfold sideStep
    rw [keys_put, List.mem_cons]
    by_cases h : x ∈ keys sd
    · rw [if_pos h]
      constructor
      · rintro (a | a)
        · exact .inl a
        · exact .inr (.inr a)
      · rintro (a | a | a)
        · exact .inl a
        · subst a
          exact .inl h
        · exact .inr a
    · rw [if_neg h]
      simp [or_assoc]
theorem keys_sides_eq (inner : Int → List (Int × Int)) : ∀ (srt : List Int) {sd : List (Int × Int)}, srt.Nodup → (∀ x ∈ srt, x ∉ keys sd) → keys (srt.foldl (sideStep inner) sd) = keys sd ++ srt
  | [], sd, _, _ => by simp
  | x :: srt, sd, nd, h => by
    have n2 := List.nodup_cons.mp nd
    have e : keys (sideStep inner sd x) = keys sd ++ [x] := by
      unfold sideStep
      rw [keys_put, if_neg (h x List.mem_cons_self)]
    show keys (srt.foldl (sideStep inner) (sideStep inner sd x)) = _
    rw [keys_sides_eq inner srt n2.2 fun y hy => ?_, e]
    · simp
    · rw [e, List.mem_append, List.mem_singleton, not_or]
      exact ⟨h y (List.mem_cons_of_mem _ hy), fun q => n2.1 (q ▸ hy)⟩
/-! ### pairs -/
def isK (lf : Int → Bool) (p : P2) : Bool := lf p.1 && !lf p.2
def pkeys (row : List Int) (lf : Int → Bool) : List P2 := dedup ((zipT row).filter (isK lf))
def pairsOf (row : List Int) (lf : Int → Bool) : List P2 := sortP (pkeys row lf)
def numOf (ps : List P2) (used : Int) (p : P2) : Int := used + (ps.idxOf p : Nat)
def prow (ps : List P2) (used : Int) : List Int → List Int
  | [] => []
  | [a] => [a]
  | a :: b :: r => if (a, b) ∈ ps then numOf ps used (a, b) :: prow ps used r else a :: prow ps used (b :: r)
/-- the same, one number after the other: is the one ahead the first of a pair with it? -/
def lrow (ps : List P2) (used : Int) : Bool → List Int → List Int
  | _, [] => []
  | true, [_] => []
  | false, [a] => [a]
  | true, a :: b :: r => lrow ps used (decide ((a, b) ∈ ps)) (b :: r)
  | false, a :: b :: r => (if (a, b) ∈ ps then numOf ps used (a, b) else a) :: lrow ps used (decide ((a, b) ∈ ps)) (b :: r)
theorem lrow_prow {ps : List P2} {used : Int} {lf : Int → Bool} (h : ∀ p ∈ ps, isK lf p = true) : ∀ row : List Int, lrow ps used false row = prow ps used row
  | [] => rfl
  | [a] => rfl
  | [a, b] => by
    unfold lrow prow
    by_cases hp : (a, b) ∈ ps
    · rw [if_pos hp, if_pos hp, decide_eq_true hp]
      rfl
    · rw [if_neg hp, if_neg hp, decide_eq_false hp]
      rfl
  | a :: b :: c :: r => by
    unfold lrow prow
    by_cases hp : (a, b) ∈ ps
    · rw [if_pos hp, if_pos hp, decide_eq_true hp]
      have hb : (b, c) ∉ ps := fun q => by
        have h1 := h _ hp
        have h2 := h _ q
        unfold isK at h1 h2
        simp only [Bool.and_eq_true, Bool.not_eq_true'] at h1 h2
        rw [h1.2] at h2
        cases h2.1
      show _ :: lrow ps used (decide ((b, c) ∈ ps)) (c :: r) = _
      rw [decide_eq_false hb, lrow_prow h (c :: r)]
    · rw [if_neg hp, if_neg hp, decide_eq_false hp, lrow_prow h (b :: c :: r)]
def pairRow (row : List Int) (lf : Int → Bool) (used : Int) : List Int × List P2 := (prow (pairsOf row lf) used row, pairsOf row lf)
theorem pairs_isK (row : List Int) (lf : Int → Bool) : ∀ p ∈ pairsOf row lf, isK lf p = true := fun p hp => by
  have h1 := (sortP_perm _).mem_iff.mp hp
  have h2 := mem_dedup.mp h1
  exact (List.mem_filter.mp h2).2
theorem pairs_nodup (row : List Int) (lf : Int → Bool) : (pairsOf row lf).Nodup := (sortP_perm _).nodup_iff.mpr (nodup_dedup _)
theorem mem_pairs {row : List Int} {lf : Int → Bool} {p : P2} : p ∈ pairsOf row lf ↔ p ∈ zipT row ∧ isK lf p = true := by
  unfold pairsOf pkeys
  rw [(sortP_perm _).mem_iff, mem_dedup, List.mem_filter]
/-- the pairs with their numbers, as a table -/
def numTab (ps : List P2) (used : Int) : List (P2 × Int) := (List.range ps.length).map fun i => (ps.getD i (0, 0), used + (i : Nat))
theorem look_numTab {ps : List P2} (nd : ps.Nodup) (used : Int) (p : P2) : look (numTab ps used) p = if p ∈ ps then some (numOf ps used p) else none := by
  by_cases h : p ∈ ps
  · rw [if_pos h]
    have hi := List.idxOf_lt_length_of_mem h
    have hk : keys (numTab ps used) = ps := by
      unfold keys numTab
      rw [List.map_map]
      apply List.ext_getElem
      · simp
      · intro i h1 h2
        simp [List.getElem_map, h2]
    refine look_of_mem (by rw [hk]; exact nd) ?_
    unfold numTab
    refine List.mem_map.mpr ⟨ps.idxOf p, List.mem_range.mpr hi, ?_⟩
    unfold numOf
    rw [List.getD_eq_getElem?_getD, List.getElem?_eq_getElem hi]
    simp
  · rw [if_neg h, look_none]
    intro q
    apply h
    unfold keys numTab at q
    rw [List.map_map] at q
    obtain ⟨i, hi, e⟩ := List.mem_map.mp q
    have hl := List.mem_range.mp hi
    rw [← e]
    show ps.getD i (0, 0) ∈ ps
    rw [List.getD_eq_getElem?_getD, List.getElem?_eq_getElem hl]
    exact List.getElem_mem hl
end LM

set_option maxRecDepth 100000
/-! LR: more rules over the layer: zip and enumerate over lists and tuples in any mix. -/
namespace LR
open PySem PySem.Spec PyProof.Rows L2

/-! ### a list (false) or a tuple (true) that is read -/
def SqA (k : Bool) (K : PySem.W.Frag) (H : Hp) (a : Addr) (xs : List V) : Prop := match k with | true => SqT K H a xs | false => SqL K H a xs
def ItrA (k : Bool) (h : Heap) (it a : Addr) (i : Nat) : Prop := match k with | true => h.IsTupleIter it a i | false => h.IsListIter it a i
def IsA (k : Bool) (h : Heap) (a : Addr) (its : Array Value) : Prop := match k with | true => h.IsTuple a its | false => h.IsList a its
def itrO (k : Bool) (a : Addr) : Obj := match k with | true => { cls := .type "tuple_iterator", data := .fields #[.ref a, .int 0 0] } | false => { cls := .type "list_iterator", data := .fields #[.ref a, .int 0 0] }
theorem drawsA (k : Bool) {prog : Program} {w : World} {A : Around} (hh : A.handled = none) (it a : Addr) (hne : a ≠ it) (items : Array Value) :
    Draws prog w A it [it, a] items.size (fun i v => items[i]? = some v) (fun i h => ItrA k h it a i ∧ IsA k h a items) := by
  cases k with
  | true => exact Draws.tuple hh it a hne items
  | false => exact Draws.list hh it a hne items
theorem beginsA (k : Bool) (a : Addr) (items : Array Value) : Begins (.ref a) (itrO k a) fun h => IsA k h a items := by
  cases k with
  | true => exact begins_tuple a items
  | false => exact begins_list a items
theorem itrA_0 {k : Bool} {h : Heap} {it a : Addr} (e : h.get? it = some (itrO k a)) : ItrA k h it a 0 := by
  cases k with
  | true => exact ⟨_, e, rfl, rfl⟩
  | false => exact ⟨_, e, rfl, rfl⟩
theorem ItrA.at {k : Bool} {h h' : Heap} {it a : Addr} {i : Nat} (x : ItrA k h it a i) (e : ∀ o, h.get? it = some o → h'.get? it = some o) : ItrA k h' it a i := by
  cases k with
  | true => exact Heap.IsTupleIter.at x e
  | false => exact Heap.IsListIter.at x e
theorem ItrA.obj {k : Bool} {h : Heap} {it a : Addr} {i : Nat} (x : ItrA k h it a i) : ∃ o, h.get? it = some o ∧ ∀ v, o.data ≠ .cell v := by
  cases k with
  | true =>
    obtain ⟨o, e, _, d⟩ := x
    exact ⟨o, e, fun v q => by rw [d] at q; cases q⟩
  | false =>
    obtain ⟨o, e, _, d⟩ := x
    exact ⟨o, e, fun v q => by rw [d] at q; cases q⟩
section
variable {X : Cx} {pins : List (Addr × Obj)} {σ : L2.St} {H : Hp} {s : Shared} {a : Addr} {xs ys : List V} {k : Bool}
theorem seqA (I : Inv X pins σ H s) (h : SqA k X.K H a xs) : ∃ its : List Value, Vals xs its ∧ IsA k s.heap a its.toArray ∧ xs.length ≤ sizeLine ∧ a < s.heap.objs.size := by
  cases k with
  | true =>
    obtain ⟨its, r, p, z⟩ := I.tuple h
    exact ⟨its, r, p, z, p.lt⟩
  | false =>
    obtain ⟨its, r, p, z⟩ := I.list h
    exact ⟨its, r, p.isList, z, p.lt⟩
theorem seqA_inj (I : Inv X pins σ H s) (h : SqA k X.K H a xs) (h' : SqA k X.K H a ys) : xs = ys := by
  cases k with
  | true => exact I.tuple_inj h h'
  | false => exact I.list_inj h h'
end

/-! ### zip(x, y) -/
def Itz2 (k1 k2 : Bool) (K : PySem.W.Frag) (a b : Addr) : It :=
  ⟨fun i H => ∃ (xs ys : List V) (x y : V), SqA k1 K H a xs ∧ SqA k2 K H b ys ∧ xs[i]? = some x ∧ ys[i]? = some y,
    fun i H v H' => ∃ T x y, v = .ref T ∧ H T = none ∧ H' = upd H T (.tup [x, y]) ∧ (∀ xs, SqA k1 K H a xs → xs[i]? = some x) ∧ ∀ ys, SqA k2 K H b ys → ys[i]? = some y,
    fun i H => ∃ xs ys : List V, SqA k1 K H a xs ∧ SqA k2 K H b ys ∧ i = min xs.length ys.length⟩
theorem turn_zip2 {P : Program} {w : World} {K : PySem.W.Frag} {elts : List Expr} {kk : Nat} {tpos : Pos} {a b z TI TO i1 i2 : Addr} {k1 k2 : Bool} (D : ZipSep2 z TI TO i1 i2 [i1, a] [i2, b]) (na : a ≠ i1) (nb : b ≠ i2) :
    Turn P w K (.Tuple elts kk tpos) (Itz2 k1 k2 K a b) [z, TI, TO, i1, i2] z (fun i h => IsZip h z TI TO .none ∧ IsTupOf2 h TI (.ref i1) (.ref i2) ∧ (∃ x y, IsTupOf2 h TO x y) ∧ ItrA k1 h i1 a i ∧ ItrA k2 h i2 b i) where
  mem := by simp
  obj := fun i h st c hc => by
    obtain ⟨hz, hTI, ⟨x, y, hTO⟩, h1, h2⟩ := st
    have e' : c = z ∨ c = TI ∨ c = TO ∨ c = i1 ∨ c = i2 := by simpa using hc
    rcases e' with q | q | q | q | q
    · rw [q]; exact ⟨_, hz, fun v q => nomatch q⟩
    · rw [q]; exact ⟨_, hTI, fun v q => nomatch q⟩
    · rw [q]; exact ⟨_, hTO, fun v q => nomatch q⟩
    · rw [q]; exact h1.obj
    · rw [q]; exact h2.obj
  keep := fun i h h' st k => by
    obtain ⟨hz, hTI, ⟨x, y, hTO⟩, h1, h2⟩ := st
    exact ⟨k z (by simp) _ hz, k TI (by simp) _ hTI, ⟨x, y, k TO (by simp) _ hTO⟩, h1.at fun o q => k i1 (by simp) o q, h2.at fun o q => k i2 (by simp) o q⟩
  item := by
    intro X hP hw hK hc i pins s σ H E I hf st hg
    subst hP hw hK
    obtain ⟨hz, hTI, hTO, h1, h2⟩ := st
    obtain ⟨xs, ys, x, y, hqx, hqy, hx, hy⟩ := hg
    obtain ⟨its, rv, p, _, _⟩ := seqA I hqx
    obtain ⟨its2, rv2, p2, _, _⟩ := seqA I hqy
    have lx := (List.getElem?_eq_some_iff.mp hx).1
    have ly := (List.getElem?_eq_some_iff.mp hy).1
    have l1 := rv.length
    have l2 := rv2.length
    have hh : X.A.in1.handled = none := I.ok.hd hc
    have G := GoesN.zip2 (prog := X.prog) (w := X.w) (A := X.A) (elts := elts) (x1 := kk) (pos := tpos) D (drawsA k1 hh i1 a na its.toArray) (drawsA k2 hh i2 b nb its2.toArray)
    have hlt : i < min its.toArray.size its2.toArray.size := by
      rw [List.size_toArray, List.size_toArray]
      omega
    refine G.goes i s _ E hlt ⟨hz, hTI, hTO, ⟨h1, p⟩, ⟨h2, p2⟩⟩ fun v h' tk hY st' hk htk => ?_
    obtain ⟨T, u, u2, rfl, hT, hu, hu2, hTT⟩ := hY
    obtain ⟨z', TI', TO', ⟨h1', _⟩, ⟨h2', _⟩⟩ := st'
    obtain ⟨w1, e1, r1⟩ := rv.get hx
    obtain ⟨w2, e2, r2⟩ := rv2.get hy
    have q1 : u = w1 := by
      rw [List.getElem?_toArray, e1] at hu
      exact (Option.some.inj hu).symm
    have q2 : u2 = w2 := by
      rw [List.getElem?_toArray, e2] at hu2
      exact (Option.some.inj hu2).symm
    subst q1 q2
    have new : ObjOk X.prog X.w (upd H T (.tup [x, y])) h' T (.tup [x, y]) :=
      ⟨by show 2 ≤ sizeLine; decide, [u, u2], .cons r1 (.cons r2 .nil), hTT⟩
    have I1 : L2.Inv X pins σ (upd H T (.tup [x, y])) { s with heap := h', toks := tk } :=
      I.turnedNew (t' := tk) (ch := [z, TI, TO, i1, i2]) (fun c o hb q => hk c o (fun m => hb (by
        have e' : c = z ∨ c = TO ∨ c = i1 ∨ c = i2 := by simpa using m
        rcases e' with q | q | q | q <;> simp [q])) q) hf hT new
    refine ⟨.ref T, _, I1, rfl, ⟨_, x, y, rfl, I.hok.fresh hT, rfl, fun l hl => by rw [seqA_inj I hl hqx]; exact hx, fun l hl => by rw [seqA_inj I hl hqy]; exact hy⟩, ⟨z', TI', TO', h1', h2'⟩, fun c hcm => ?_⟩
    have hlt : c < s.heap.objs.size := by
      have e' : c = z ∨ c = TI ∨ c = TO ∨ c = i1 ∨ c = i2 := by simpa using hcm
      rcases e' with q | q | q | q | q
      · rw [q]; exact Heap.lt_size hz
      · rw [q]; exact Heap.lt_size hTI
      · obtain ⟨_, _, hTO⟩ := hTO
        rw [q]; exact Heap.lt_size hTO
      · obtain ⟨_, e1, _⟩ := h1.obj
        rw [q]; exact Heap.lt_size e1
      · obtain ⟨_, e1, _⟩ := h2.obj
        rw [q]; exact Heap.lt_size e1
    rw [upd_ne (Nat.ne_of_lt (Nat.lt_of_lt_of_le hlt hT))]
    exact (hf c hcm).1
  done := by
    intro X hP hw hK hc i pins s σ H E I hf st hg
    subst hP hw hK
    obtain ⟨hz, hTI, hTO, h1, h2⟩ := st
    obtain ⟨xs, ys, hqx, hqy, hi⟩ := hg
    obtain ⟨its, rv, p, _, _⟩ := seqA I hqx
    obtain ⟨its2, rv2, p2, _, _⟩ := seqA I hqy
    have l1 := rv.length
    have l2 := rv2.length
    have hh : X.A.in1.handled = none := I.ok.hd hc
    have G := GoesN.zip2 (prog := X.prog) (w := X.w) (A := X.A) (elts := elts) (x1 := kk) (pos := tpos) D (drawsA k1 hh i1 a na its.toArray) (drawsA k2 hh i2 b nb its2.toArray)
    have hi' : i = min its.toArray.size its2.toArray.size := by
      rw [List.size_toArray, List.size_toArray]
      omega
    subst hi'
    exact G.stops s (fun s1 => L2.Inv X pins σ H s1) E ⟨hz, hTI, hTO, ⟨h1, p⟩, ⟨h2, p2⟩⟩ fun h' tk hk htk => I.turnedL (t' := tk) (ch := [z, TI, TO, i1, i2]) (fun c o hb q => hk c o (fun m => hb (by
        have e' : c = z ∨ c = TO ∨ c = i1 ∨ c = i2 := by simpa using m
        rcases e' with q | q | q | q <;> simp [q])) q) hf
  self := fun A i s Q E st h => wpAny_pyIter_zip st.1 h
def iZip2 (k1 k2 : Bool) (K : PySem.W.Frag) (ta : TA) : TI := fun σ H R => ta σ H fun vs H1 => ∃ a b xs ys, vs = [.ref a, .ref b] ∧ SqA k1 K H1 a xs ∧ SqA k2 K H1 b ys ∧ R (Itz2 k1 k2 K a b) H1
/-- for x, y in zip(a, b): each a list (false) or a tuple (true) -/
theorem pi_zip2 {X : Cx} (k1 k2 : Bool) {e e2 : Expr} {ta : TA} {p pos tpos : Pos} {elts : List Expr} {kk : Nat} (hg : Gl X "zip") (hm : X.mg "zip" = none) (ha : PA X [e, e2] ta)
    (hs : starEach [e, e2] X.env = (false, eval e X.env) :: starEach [e2] X.env := by rfl) (hpl : (backTo pos (starEach [e2] X.env)).any (·.1) = false := by rfl) :
    PI X (.Tuple elts kk tpos) (.Call (.Name "zip" p) [e, e2] [] pos) (iZip2 k1 k2 X.K ta) := by
  refine ⟨fun pins s σ H R I h => ?_⟩
  refine Call_ (ld_blt I hg hm PyProof.Rows.boot_zip (PyProof.Rows.callWith_type1 (thn (ha.run pos pins s σ H _ I h) fun us s1 ⟨vs, H1, I1, r1, q1⟩ => ?_) hs hpl))
  obtain ⟨a, b, xs, ys, ex, hqx, hqy, q⟩ := q1
  subst ex
  cases r1 with
  | cons r rr =>
    cases rr with
    | cons r' rr =>
      cases rr
      cases r
      cases r'
      obtain ⟨its, rv, p1, _, la⟩ := seqA I1 hqx
      obtain ⟨its2, rv2, p2, _, lb⟩ := seqA I1 hqy
      refine zip_begins2 (beginsA k1 a its.toArray) (beginsA k2 b its2.toArray) p1 p2 fun h' hz hTI hTO h1 h2 hsz hk => wpAny_pyIter_zip hz ?_
      have I2 : L2.Inv X pins σ H1 { s1 with heap := h' } := I1.kept (t' := s1.toks) hk
      refine ⟨s1.heap.objs.size + 4, [s1.heap.objs.size + 4, s1.heap.objs.size + 2, s1.heap.objs.size + 3, s1.heap.objs.size, s1.heap.objs.size + 1], _, _, H1, rfl, I2, turn_zip2 (zip_sep2 (by simpa using la) (by simpa using lb)) (Nat.ne_of_lt la) (Nat.ne_of_lt (Nat.lt_succ_of_lt lb)), ⟨hz, hTI, ⟨_, _, hTO⟩, itrA_0 h1, itrA_0 h2⟩, fun c hcm => ?_, q⟩
      have e' : c = s1.heap.objs.size + 4 ∨ c = s1.heap.objs.size + 2 ∨ c = s1.heap.objs.size + 3 ∨ c = s1.heap.objs.size ∨ c = s1.heap.objs.size + 1 := by simpa using hcm
      have hle : s1.heap.objs.size ≤ c := by
        rcases e' with z | z | z | z | z
        · rw [z]; exact Nat.le_add_right _ _
        · rw [z]; exact Nat.le_add_right _ _
        · rw [z]; exact Nat.le_add_right _ _
        · rw [z]; exact Nat.le_refl _
        · rw [z]; exact Nat.le_add_right _ _
      exact I1.fpOk hle (I1.hok.fresh hle)

/-! ### enumerate(x) -/
def Ite2 (k : Bool) (K : PySem.W.Frag) (a : Addr) : It :=
  ⟨fun i H => ∃ (xs : List V) (x : V), SqA k K H a xs ∧ xs[i]? = some x, fun i H v H' => ∃ T x, v = .ref T ∧ H T = none ∧ H' = upd H T (.tup [.int (i : Nat), x]) ∧ ∀ xs, SqA k K H a xs → xs[i]? = some x, fun i H => ∃ xs : List V, SqA k K H a xs ∧ i = xs.length⟩
theorem turn_enum2 {P : Program} {w : World} {K : PySem.W.Frag} {elts : List Expr} {kk : Nat} {tpos : Pos} {a e it : Addr} {k : Bool} (hei : e ≠ it) (nea : e ≠ a) (na : a ≠ it) :
    Turn P w K (.Tuple elts kk tpos) (Ite2 k K a) [e, it] e (fun i h => (∃ old, IsEnum h e it ((i : Nat) : Int) old) ∧ ItrA k h it a i) where
  mem := by simp
  obj := fun i h st b hb => by
    obtain ⟨⟨old, he⟩, h1⟩ := st
    have e' : b = e ∨ b = it := by simpa using hb
    rcases e' with z | z
    · rw [z]; exact ⟨_, he, fun v q => nomatch q⟩
    · rw [z]; exact h1.obj
  keep := fun i h h' st k => let ⟨⟨old, he⟩, hi⟩ := st; ⟨⟨old, k e (by simp) _ he⟩, hi.at fun o q => k it (by simp) o q⟩
  item := by
    intro X hP hw hK hc i pins s σ H E I hf st hg
    subst hP hw hK
    obtain ⟨⟨old, he⟩, h1⟩ := st
    obtain ⟨xs, x, hqx, hx⟩ := hg
    obtain ⟨its, rv, p, _, _⟩ := seqA I hqx
    have lx := (List.getElem?_eq_some_iff.mp hx).1
    have l1 := rv.length
    have hh : X.A.in1.handled = none := I.ok.hd hc
    have G := GoesN.enumFrom (prog := X.prog) (w := X.w) (A := X.A) (elts := elts) (x1 := kk) (pos := tpos) 0 (drawsA k hh it a na its.toArray) e hei (by simp [hei, nea]) (by simp)
    have hlt : i < its.toArray.size := by
      rw [List.size_toArray]
      omega
    have hz : (0 : Int) + (i : Int) = (i : Int) := Int.zero_add _
    refine G.goes i s _ E hlt ⟨⟨old, by rw [hz]; exact he⟩, ⟨h1, p⟩⟩ fun v h' tk hY st' hk htk => ?_
    obtain ⟨T, t, u, rfl, hT, hu, hTT⟩ := hY
    rw [hz] at hTT
    obtain ⟨⟨old', he'⟩, ⟨h1', _⟩⟩ := st'
    have hz' : (0 : Int) + ((i + 1 : Nat) : Int) = ((i + 1 : Nat) : Int) := Int.zero_add _
    rw [hz'] at he'
    obtain ⟨w1, e1, r1⟩ := rv.get hx
    have q1 : u = w1 := by
      rw [List.getElem?_toArray, e1] at hu
      exact (Option.some.inj hu).symm
    subst q1
    have new : ObjOk X.prog X.w (upd H T (.tup [.int (i : Nat), x])) h' T (.tup [.int (i : Nat), x]) :=
      ⟨by show 2 ≤ sizeLine; decide, [.int i t, u], .cons ⟨_, rfl⟩ (.cons r1 .nil), hTT⟩
    have I1 : L2.Inv X pins σ (upd H T (.tup [.int (i : Nat), x])) { s with heap := h', toks := tk } :=
      I.turnedNew (t' := tk) (ch := [e, it]) (fun c o hb q => hk c o hb q) hf hT new
    refine ⟨.ref T, _, I1, rfl, ⟨_, x, rfl, I.hok.fresh hT, rfl, fun l hl => by rw [seqA_inj I hl hqx]; exact hx⟩, ⟨⟨old', he'⟩, h1'⟩, fun c hcm => ?_⟩
    have hlt : c < s.heap.objs.size := by
      have e' : c = e ∨ c = it := by simpa using hcm
      rcases e' with q | q
      · rw [q]; exact Heap.lt_size he
      · obtain ⟨_, e1, _⟩ := h1.obj
        rw [q]; exact Heap.lt_size e1
    rw [upd_ne (Nat.ne_of_lt (Nat.lt_of_lt_of_le hlt hT))]
    exact (hf c hcm).1
  done := by
    intro X hP hw hK hc i pins s σ H E I hf st hg
    subst hP hw hK
    obtain ⟨⟨old, he⟩, h1⟩ := st
    obtain ⟨xs, hqx, hi⟩ := hg
    obtain ⟨its, rv, p, _, _⟩ := seqA I hqx
    have l1 := rv.length
    have hh : X.A.in1.handled = none := I.ok.hd hc
    have G := GoesN.enumFrom (prog := X.prog) (w := X.w) (A := X.A) (elts := elts) (x1 := kk) (pos := tpos) 0 (drawsA k hh it a na its.toArray) e hei (by simp [hei, nea]) (by simp)
    have hi' : i = its.toArray.size := by
      rw [List.size_toArray]
      omega
    subst hi'
    exact G.stops s (fun s1 => L2.Inv X pins σ H s1) E ⟨⟨old, by rw [Int.zero_add]; exact he⟩, ⟨h1, p⟩⟩ fun h' tk hk htk => I.turnedL (t' := tk) (ch := [e, it]) (fun c o hb q => hk c o hb q) hf
  self := fun A i s Q E st h => let ⟨⟨_, he⟩, _⟩ := st; wpAny_pyIter_enum he h

set_option maxHeartbeats 1000000 in
theorem meets_enumerate_newB1 {v : Value} {o : Obj} {H : Heap → Prop} (B : Begins v o H) :
    Meets (Builtin.«enumerate.__new__» ⟨[.type "enumerate", v], []⟩) (fun _ R s => H s.heap ∧
      R (.ok (.ret (.ref (s.heap.push o).objs.size))) { s with heap := (s.heap.push o).push { cls := .type "enumerate", data := .fields #[.none, .bool false, .ref s.heap.objs.size, rawInt 0, .none, .none] } }) :=
  .of_wp fun prog w A R s h => by
    obtain ⟨hp, g, d, tk, os⟩ := s; obtain ⟨h1, h⟩ := h
    have hsub := sub_enumerate
    have q1 : ∀ {A' : Around} {E : Value → Shared → Prop} {Q : Value → Shared → Prop}, Q (.ref hp.objs.size) ⟨hp.push o, g, d, tk, os⟩ → wpAny (model prog w) A' (pyIter v) Q E ⟨hp, g, d, tk, os⟩ :=
      fun q => B.iter prog w _ _ ⟨hp, g, d, tk, os⟩ _ h1 q
    wp_walk using q1
    refine wpAny_stack_any fun st => wpAny_pure ?_
    split
    · rename_i c _ _ _ _ _
      cases (c == Value.type "enumerate")
      · wp_walk using q1
        exact ⟨_, rfl, h⟩
      · wp_walk using q1
        exact ⟨_, rfl, h⟩
    · wp_walk using q1
      exact ⟨_, rfl, h⟩
theorem enum_begins1 {prog : Program} {w : World} {A : Around} {E : Value → Shared → Prop} {s : Shared} {v : Value} {o : Obj} {H : Heap → Prop} {Q : Value → Shared → Prop} (B : Begins v o H) (h1 : H s.heap)
    (h : ∀ h', IsEnum h' (s.heap.objs.size + 1) s.heap.objs.size 0 .none → h'.get? s.heap.objs.size = some o → h'.objs.size = s.heap.objs.size + 2 →
      (∀ b o, s.heap.get? b = some o → h'.get? b = some o) → Q (.ref (s.heap.objs.size + 1)) { s with heap := h' }) :
    wpAny (model prog w) A (call (.type "enumerate") [v]) Q E s := by
  refine callType_new F.called_enumerate (by decide) (F.typeCall_enumerate_1 _) (F.newCall_enumerate_1 _) (fun obj => F.args_object_init_2 obj _) F.entry_enumerate_new
    (meets_enumerate_newB1 B) ⟨h1, ?_⟩
  have hz : (s.heap.push o).objs.size = s.heap.objs.size + 1 := Heap.size_push ..
  show _ ∧ _
  rw [hz]
  have he : IsEnum ((s.heap.push o).push { cls := .type "enumerate", data := .fields #[.none, .bool false, .ref s.heap.objs.size, rawInt 0, .none, .none] }) (s.heap.objs.size + 1) s.heap.objs.size 0 .none := by
    have := Heap.get?_push_size (s.heap.push o) (o := { cls := .type "enumerate", data := .fields #[.none, .bool false, .ref s.heap.objs.size, rawInt 0, .none, .none] }) rfl
    rw [hz] at this; exact this
  refine ⟨⟨_, he, rfl⟩, h _ he (Heap.get?_push_of_some _ (Heap.get?_push_size _ B.free)) (by rw [Heap.size_push, hz]) fun b o x => Heap.get?_push_of_some _ (Heap.get?_push_of_some _ x)⟩
def iEnum2 (k : Bool) (K : PySem.W.Frag) (ta : TA) : TI := fun σ H R => ta σ H fun vs H1 => ∃ a xs, vs = [.ref a] ∧ SqA k K H1 a xs ∧ R (Ite2 k K a) H1
/-- for i, x in enumerate(a) -/
theorem pi_enum2 {X : Cx} (k : Bool) {e : Expr} {ta : TA} {p pos tpos : Pos} {elts : List Expr} {kk : Nat} (hg : Gl X "enumerate") (hm : X.mg "enumerate" = none) (ha : PA X [e] ta) (hs : starEach [e] X.env = [(false, eval e X.env)] := by rfl) :
    PI X (.Tuple elts kk tpos) (.Call (.Name "enumerate" p) [e] [] pos) (iEnum2 k X.K ta) := by
  refine ⟨fun pins s σ H R I h => ?_⟩
  refine Call_ (ld_blt I hg hm boot_enumerate (PyProof.Rows.callWith_type1 (thn (ha.run pos pins s σ H _ I h) fun us s1 ⟨vs, H1, I1, r1, q1⟩ => ?_) hs rfl))
  obtain ⟨a, xs, ex, hq, q⟩ := q1
  subst ex
  cases r1 with
  | cons r rr =>
    cases rr
    cases r
    obtain ⟨its, rv, p', hz, la⟩ := seqA I1 hq
    refine enum_begins1 (beginsA k a its.toArray) p' fun h' he hit hsz hk => wpAny_pyIter_enum he ?_
    have I2 : L2.Inv X pins σ H1 { s1 with heap := h' } := I1.kept (t' := s1.toks) hk
    refine ⟨s1.heap.objs.size + 1, [s1.heap.objs.size + 1, s1.heap.objs.size], _, _, H1, rfl, I2, turn_enum2 (a := a) (it := s1.heap.objs.size) (Nat.succ_ne_self _) (Nat.ne_of_gt (Nat.lt_succ_of_lt la)) (Nat.ne_of_lt la), ⟨⟨.none, he⟩, itrA_0 hit⟩, fun b hb => ?_, q⟩
    have e' : b = s1.heap.objs.size + 1 ∨ b = s1.heap.objs.size := by simpa using hb
    have hle : s1.heap.objs.size ≤ b := by
      rcases e' with z | z
      · rw [z]; exact Nat.le_add_right _ _
      · rw [z]; exact Nat.le_refl _
    exact I1.fpOk hle (I1.hok.fresh hle)
end LR

set_option maxRecDepth 100000
set_option maxHeartbeats 4000000
/-! LS: sorted of lists, dicts and sets of any size, told as the one sorted list. -/
namespace LS
open PySem PySem.Spec PyProof.Rows L2 LM

/-! ### pairs of ints that stand in the heap -/
def AtP (H : Hp) (b : Addr) (q : Int × Int) : Prop := H b = some (.tup [.int q.1, .int q.2])
abbrev AtPs (H : Hp) (bs : List Addr) (ps : List (Int × Int)) : Prop := Paired (AtP H) bs ps
def kH (H : Hp) : V → Int × Int
  | .ref t => match H t with
    | some (.tup [.int i, .int j]) => (i, j)
    | _ => (0, 0)
  | _ => (0, 0)
theorem kH_at {H : Hp} {b : Addr} {q : Int × Int} (h : AtP H b q) : kH H (.ref b) = q := by
  have e : H b = some (.tup [.int q.1, .int q.2]) := h
  show (match H b with | some (.tup [.int i, .int j]) => (i, j) | _ => (0, 0)) = q
  rw [e]
theorem kH_map {H : Hp} : ∀ {bs : List Addr} {ps : List (Int × Int)}, AtPs H bs ps → bs.map (fun b => kH H (.ref b)) = ps
  | _, _, .nil => rfl
  | _, _, .cons r t => by
    rw [List.map_cons, kH_at r, kH_map t]
theorem atPs_mem {H : Hp} {bs : List Addr} {ps : List (Int × Int)} (h : AtPs H bs ps) : ∀ b ∈ bs, AtP H b (kH H (.ref b)) := by
  induction h with
  | nil => exact fun _ h => nomatch h
  | cons r t ih =>
    intro b hb
    rcases List.mem_cons.mp hb with e | hb
    · subst e
      rw [kH_at r]
      exact r
    · exact ih b hb
theorem atPs_of {H : Hp} : ∀ {bs : List Addr}, (∀ b ∈ bs, AtP H b (kH H (.ref b))) → AtPs H bs (bs.map fun b => kH H (.ref b))
  | [], _ => .nil
  | b :: bs, h => .cons (h b List.mem_cons_self) (atPs_of fun c hc => h c (List.mem_cons_of_mem _ hc))
theorem lexB_leP (a b : Int × Int) : SrtO.lexB b a = false → leP a b = true := fun h => by
  have := SrtO.lexB_no.mp h
  unfold leP
  rw [decide_eq_true_iff]
  omega
/-- what a sort by pairs leaves is the one sorted list -/
theorem sorted_refs {H : Hp} {bs : List Addr} {ps : List (Int × Int)} {ys : List V} (h : AtPs H bs ps) (s : SrtO.Srtd (ltP (kH H)) ys) (p : ys.Perm (bs.map V.ref)) : ∃ cs, ys = cs.map V.ref ∧ AtPs H cs (sortP ps) := by
  have hr : ∀ y ∈ ys, ∃ b ∈ bs, y = V.ref b := fun y hy => by
    obtain ⟨b, hb, e⟩ := List.mem_map.mp (p.mem_iff.mp hy)
    exact ⟨b, hb, e.symm⟩
  have hcs : ∃ cs : List Addr, ys = cs.map V.ref ∧ ∀ c ∈ cs, c ∈ bs := by
    clear s p
    induction ys with
    | nil => exact ⟨[], rfl, fun _ h => nomatch h⟩
    | cons y ys ih =>
      obtain ⟨b, hb, e⟩ := hr y List.mem_cons_self
      obtain ⟨cs, e2, h2⟩ := ih fun z hz => hr z (List.mem_cons_of_mem _ hz)
      exact ⟨b :: cs, by rw [e, e2]; rfl, fun c hc => by
        rcases List.mem_cons.mp hc with e3 | hc
        · rw [e3]
          exact hb
        · exact h2 c hc⟩
  obtain ⟨cs, e, hm⟩ := hcs
  refine ⟨cs, e, ?_⟩
  have h1 := atPs_of fun c hc => atPs_mem h c (hm c hc)
  have e2 : cs.map (fun b => kH H (.ref b)) = ys.map (kH H) := by
    rw [e, List.map_map]
    rfl
  have e3 : ys.map (kH H) = sortP ps := by
    refine sortP_eq ?_ ?_
    · have q := p.map (kH H)
      rw [List.map_map] at q
      rw [← kH_map h]
      exact q
    · exact List.pairwise_map.mpr (s.imp fun {x y} h => lexB_leP _ _ h)
  rw [e2, e3] at h1
  exact h1
section
variable {K : PySem.W.Frag} {H : Hp} {a : Addr} {Q : VK}
/-- sorted(xs), xs a list of ints -/
theorem rd_sortedI {ns : List Int} (hs : SqL K H a (ns.map V.int)) (q : ∀ p, H p = none → Q (.ref p) (upd H p (.lst ((sortI ns).map V.int)))) : rSortedI K [.ref a] H Q :=
  ⟨a, ns, rfl, hs, fun ns' p pm st hp => by
    rw [sortI_eq pm st]
    exact q p hp⟩
/-- sorted(xs), xs a list of pairs of ints -/
theorem rd_sortedP {bs : List Addr} {ps : List (Int × Int)} (hs : SqL K H a (bs.map V.ref)) (h : AtPs H bs ps) (q : ∀ p cs, H p = none → AtPs H cs (sortP ps) → Q (.ref p) (upd H p (.lst (cs.map V.ref)))) : rSortedPO K [.ref a] H Q :=
  ⟨a, bs.map V.ref, kH H, rfl, hs, fun x hx => by
    obtain ⟨b, hb, e⟩ := List.mem_map.mp hx
    subst e
    exact ⟨b, rfl, atPs_mem h b hb⟩, fun ys p s st hp => by
    obtain ⟨cs, e, hc⟩ := sorted_refs h s st.perm
    rw [e]
    exact q p cs hp hc⟩
end

/-! ### sorted(d), d a dict with ints as keys -/
def rSortDI : List V → Hp → VK → Prop := fun xs H Q => ∃ (a : Addr) (kvs : List (Key × V)) (ks : List Int), xs = [.ref a] ∧ Rd H a (.dK kvs) ∧ kvs.map (·.1) = ks.map Sum.inl ∧ ∀ p, H p = none → Q (.ref p) (upd H p (.lst ((sortI ks).map V.int)))
section
variable {X : Cx}
theorem ints_keys {vs : List (Key × Value)} {ks : List Int} {acc : Array Value} {P : Program} {w : World} (hkeys : vs.map (·.1) = ks.map Sum.inl) (hal : acc.toList.length = ks.length)
    (h : ∀ (j : Nat) (v : Value), acc[j]? = some v → ∃ (k : Key) (x : Value), vs[j]? = some (k, x) ∧ (mixKind P w).is k v = true) : IntsAre acc.toList ks :=
  ints_each hal fun j v e => by
    obtain ⟨k, x, e1, e2⟩ := h j v (by rw [← Array.getElem?_toList]; exact e)
    have e3 : (ks.map (Sum.inl : Int → Key))[j]? = some k := by rw [← hkeys, List.getElem?_map, e1]; rfl
    rw [List.getElem?_map] at e3
    cases e4 : ks[j]? with
    | none => rw [e4] at e3; cases e3
    | some y =>
      rw [e4] at e3
      cases e3
      obtain ⟨t, ev⟩ := Value.isInt_shape (k := y) (v := v) e2
      exact ⟨y, t, rfl, ev⟩
theorem cr_sortDI (hcalm : X.calm = true) : CallR X (.builtin "sorted") rSortDI := by
  intro pins s σ H xs us Q I r q
  obtain ⟨a, kvs, ks, ex, hd, hks, q⟩ := q
  subst ex
  obtain ⟨u, eu, rx⟩ := vals1 r
  subst eu
  cases rx
  obtain ⟨z, lo, vs, rel, dd⟩ := dk_rd I.hok hd
  obtain ⟨ep, hat⟩ := dd.dictAt
  have hkeys : vs.map (·.1) = ks.map Sum.inl := rel.keys.symm.trans hks
  have hl : vs.length = ks.length := by
    have e := congrArg List.length hkeys
    rw [List.length_map, List.length_map] at e
    exact e
  have hlk : kvs.length = ks.length := by
    have e := congrArg List.length hks
    rw [List.length_map, List.length_map] at e
    exact e
  have h16 : vs.length ≤ sizeLine := by rw [hl, ← hlk]; exact z
  refine Calls.call_function_entry PyProof.Rows.kind_sorted PyProof.Rows.plain_sorted PyProof.Rows.entry_sorted (PyProof.Rows.args_sorted1 _) ?_
  unfold Builtin.«sorted»
  refine wpAny_bind (m := checkCount "sorted" 1 1 _) (wpAny_pure ?_)
  refine wpAny_bind (PySem.W.kdu_collect (A := X.A.in1) (PySem.W.kdl_dict (knd := mixKind X.prog X.w) (kvs := vs) (ep := ep) lo) (I.ok.hd hcalm) hat h16 fun h' tk acc hk hacc => ?_)
  have hal : acc.toList.length = ks.length := by rw [Array.length_toList, hacc.1, hl]
  have hS : IntsAre acc.toList ks := ints_keys hkeys hal hacc.2
  have I1 : L2.Inv X pins σ H { s with heap := h', toks := tk } := I.kept hk
  refine wpAny_bind (wpAny_newList ?_ (by rw [hal, ← hl]; exact h16))
  have hoL : (h'.push (seqObj "list" acc.toList.toArray 0)).get? h'.objs.size = some (seqObj "list" acc.toList.toArray 0) := Heap.get?_push_size _ rfl
  show wpAny _ _ _ _ _ { s with heap := h'.push (seqObj "list" acc.toList.toArray 0), toks := tk }
  refine wpAny_bind (wpAny_holding (wpAny_call_entry PyProof.Rows.slot_list_sort ⟨_, hoL, rfl⟩ PyProof.Rows.entry_list_sort
    (SrtO.list_sort_ord SrtO.swo_int hoL (by rw [hal, ← hl]; exact h16) (fun h2 => SrtO.ints_sortable hS h2) fun out g1 g2 => ⟨_, rfl, ?_⟩) (PyProof.Rows.args_list_sort _)))
  obtain ⟨k1, k2, k3⟩ := SrtO.ints_out hS g1 g2
  obtain ⟨e', he'⟩ := PyProof.Rows.sortedHeap_at (vs := acc.toList) (out := out.toArray) hoL
  have hlen : ((sortI ks).map V.int).length ≤ sizeLine := by
    rw [List.length_map, (sortI_perm ks).length_eq, ← hl]
    exact h16
  have eo : out.map SrtO.iv = sortI ks := sortI_eq k2 k3
  rw [eo] at k1
  refine wpAny_pure ⟨_, rfl, .ref h'.objs.size, upd H h'.objs.size (.lst ((sortI ks).map V.int)), I1.laid (t' := tk) (fun b u e => ?_) (Nat.le_refl _)
    (show ObjOk X.prog X.w _ _ _ (.lst ((sortI ks).map V.int)) from ⟨hlen, out, e', vals_of_ints k1, he'⟩), rfl, q _ (I1.hok.fresh (Nat.le_refl _))⟩
  have hb : b < h'.objs.size := Heap.lt_size e
  rw [PyProof.Rows.sortedHeap_old (Nat.ne_of_lt hb) (by rw [size_push']; exact Nat.lt_succ_of_lt hb)]
  exact Heap.get?_push_of_some _ e
end

/-! ### sorted(d), d a dict with pairs of ints as keys -/
def pK (q : Int × Int) : List Key := [.inl q.1, .inl q.2]
def rSortDP : List V → Hp → VK → Prop := fun xs H Q => ∃ (a : Addr) (kvs : List (List Key × V)) (ps : List (Int × Int)), xs = [.ref a] ∧ Rd H a (.dT kvs) ∧ kvs.map (·.1) = ps.map pK ∧
  ∀ p cs, H p = none → AtPs H cs (sortP ps) → Q (.ref p) (upd H p (.lst (cs.map V.ref)))
theorem atPs_keys {H : Hp} : ∀ {kvs : List (List Key × V)} {xs : List (List Key × Addr × Value)} {ps : List (Int × Int)}, KT H kvs xs → kvs.map (·.1) = ps.map pK → AtPs H (xs.map fun x => x.2.1) ps
  | _, _, [], .nil, _ => .nil
  | _, _, p :: ps, .nil, e => nomatch e
  | _, _, [], .cons _ _, e => nomatch e
  | _, _, p :: ps, .cons r t, e => by
    obtain ⟨e1, e2⟩ := List.cons.inj e
    refine .cons ?_ (atPs_keys t e2)
    have h := r.2.1
    dsimp only at e1
    rw [e1] at h
    exact h
section
variable {X : Cx}
theorem cr_sortDP (hcalm : X.calm = true) : CallR X (.builtin "sorted") rSortDP := by
  intro pins s σ H xs us Q I r q
  obtain ⟨a, kvs, ps, ex, hd, hps, q⟩ := q
  subst ex
  obtain ⟨u, eu, rx⟩ := vals1 r
  subst eu
  cases rx
  obtain ⟨z, lo, ks, pr, o, es, ep, ho, hx, hdt, he, hn⟩ := (show ObjOk X.prog X.w H s.heap a (.dT kvs) from hd.ok I.hok)
  have l1 : es.size = ks.length := size_of_entries he
  have l2 : kvs.length = ks.length := Paired.length pr
  have hat := atPs_keys pr hps
  refine Calls.call_function_entry PyProof.Rows.kind_sorted PyProof.Rows.plain_sorted PyProof.Rows.entry_sorted (PyProof.Rows.args_sorted1 _) ?_
  unfold Builtin.«sorted»
  refine wpAny_bind (m := checkCount "sorted" 1 1 _) (wpAny_pure ?_)
  refine wpAny_bind (PySem.W.kdu_collect (A := X.A.in1) (kdl_raw lo hx hdt) (I.ok.hd hcalm) ho (by omega) fun h' tk acc hk hacc => ?_)
  have ea : acc.toList = ks.map fun x => Value.ref x.2.1 := by
    have hl : acc.toList.length = ks.length := by rw [Array.length_toList, hacc.1]; exact l1
    apply List.ext_getElem?
    intro j
    rw [List.getElem?_map]
    cases hj : acc.toList[j]? with
    | none =>
      have h1 := List.getElem?_eq_none_iff.mp hj
      rw [List.getElem?_eq_none (by omega)]
      all_goals rfl
    | some v =>
      obtain ⟨en, hen, hv⟩ := hacc.2 j v (by rw [← Array.getElem?_toList]; exact hj)
      have qe := entry_at he j
      rw [hen] at qe
      cases hb : ks[j]? with
      | none =>
        rw [hb] at qe
        exact nomatch (show some en = none from qe)
      | some b =>
        rw [hb] at qe
        have e2 : en = entryOfKey (tupleKind (mixKind X.prog X.w)) b := Option.some.inj qe
        rw [hv, e2]
        all_goals rfl
  have eb : acc.toList = (ks.map fun x => x.2.1).map Value.ref := by rw [ea, List.map_map]; all_goals rfl
  have hal : acc.toList.length ≤ sizeLine := by
    rw [eb, List.length_map, List.length_map]
    omega
  have I1 : L2.Inv X pins σ H { s with heap := h', toks := tk } := I.kept hk
  refine wpAny_bind (wpAny_newList ?_ hal)
  have hoL : (h'.push (seqObj "list" acc.toList.toArray 0)).get? h'.objs.size = some (seqObj "list" acc.toList.toArray 0) := Heap.get?_push_size _ rfl
  show wpAny _ _ _ _ _ { s with heap := h'.push (seqObj "list" acc.toList.toArray 0), toks := tk }
  have hpair : ∀ v ∈ acc.toList, Srt.IsPair (h'.push (seqObj "list" acc.toList.toArray 0)) v (kH H (backV v)).1 (kH H (backV v)).2 := fun v hv => by
    rw [eb] at hv
    obtain ⟨b, hb, e⟩ := List.mem_map.mp hv
    subst e
    have ht := atPs_mem hat b hb
    obtain ⟨_, its2, r2, o, ho, hc, n, hd⟩ := I1.hok _ _ ht
    obtain ⟨u1, u2, rfl, ri, rj⟩ := vals2 r2
    obtain ⟨t1, rfl⟩ := ri
    obtain ⟨t2, rfl⟩ := rj
    exact ⟨b, o, t1, t2, n, rfl, Heap.get?_push_of_some _ ho, hc, hd⟩
  refine wpAny_bind (wpAny_holding (wpAny_call_entry PyProof.Rows.slot_list_sort ⟨_, hoL, rfl⟩ PyProof.Rows.entry_list_sort
    (SrtO.list_sort_ord (SrtO.swo_lex fun u => kH H (backV u)) hoL hal (fun h2 => SrtO.pairs_sortableO (by omega) hpair fun o e => ?_) fun out g1 g2 => ⟨_, rfl, ?_⟩) (PyProof.Rows.args_list_sort _)))
  · have e' : some o = some (seqObj "list" acc.toList.toArray 0) := e.symm.trans hoL
    cases e'
    intro c
    exact absurd (Value.type.inj c) (by decide)
  have h3 : ∀ u ∈ out, ∃ a, u = Value.ref a := fun u hu => by
    have m := g2.perm.mem_iff.mp hu
    rw [eb] at m
    obtain ⟨b, _, e⟩ := List.mem_map.mp m
    exact ⟨b, e.symm⟩
  obtain ⟨e', he'⟩ := PyProof.Rows.sortedHeap_at (vs := acc.toList) (out := out.toArray) hoL
  have pm : (out.map backV).Perm ((ks.map fun x => x.2.1).map V.ref) := by
    have q1 := g2.perm.map backV
    rw [eb, List.map_map] at q1
    exact q1
  obtain ⟨cs, ecs, hcs⟩ := sorted_refs hat (SrtO.srtd_map g1) pm
  have hlen : (out.map backV).length ≤ sizeLine := by
    rw [pm.length_eq, List.length_map, List.length_map]
    omega
  refine wpAny_pure ⟨_, rfl, .ref h'.objs.size, upd H h'.objs.size (.lst (out.map backV)), I1.laid (t' := tk) (fun b u e => ?_) (Nat.le_refl _)
    (show ObjOk X.prog X.w _ _ _ (.lst (out.map backV)) from ⟨hlen, out, e', vals_back h3, he'⟩), rfl, ?_⟩
  · have hb : b < h'.objs.size := Heap.lt_size e
    rw [PyProof.Rows.sortedHeap_old (Nat.ne_of_lt hb) (by rw [size_push']; exact Nat.lt_succ_of_lt hb)]
    exact Heap.get?_push_of_some _ e
  · rw [ecs]
    exact q _ cs (I1.hok.fresh (Nat.le_refl _)) hcs
end

/-! ### set(xs) of ints, sorted(s) -/
section
variable {P : Program} {w : World} {A : Around} {E : Value → Shared → Prop} {s : Shared}
set_option maxRecDepth 100000 in
set_option maxHeartbeats 3200000 in
theorem call_set_listI {l : Addr} {items : Array Value} (ns : List Int) {Q : Value → Shared → Prop} (hh : A.handled = none) (hl : s.heap.IsList l items) (hit : IntsAre items.toList ns) (hb : ns.length + 1 < scanBound)
    (h : ∀ (h' : Heap) (tk c : Nat), SetR w h' s.heap.objs.size (fun j => decide (j ∈ ns)) c → c ≤ ns.length → (∀ b o, s.heap.get? b = some o → h'.get? b = some o) → Q (.ref s.heap.objs.size) { s with heap := h', toks := tk }) :
    wpAny (model P w) A (call (.type "set") [.ref l]) Q E s := by
  have hisz : items.size = ns.length := by
    have q := IntsAre.length hit
    rw [Array.length_toList] at q
    exact q
  obtain ⟨c, tl, hmro⟩ := F.called_set.mro
  have hmade := F.called_set.made
  have hsub := F.called_set.sub
  refine wpAny_call (codeAny_of_tree ?_)
  show wpAny _ _ (callAny (.type "set") _) _ _ _
  refine wpAny_pure ⟨Code.quiet_builtin _ (by decide +kernel), codeAny_builtin F.entry_type_call ?_⟩
  rw [Around.under_plain (weight_type_call_type "set" [.ref l] []) rfl]
  have h1 := F.called_set.notType
  have h2 := F.called_set.canCreate
  have hct := F.typeCall_set_1 (.ref l)
  repeat (any_goals (first | assumption | wp_step))
  refine codeAny_mono (code_set_led1 (.ref l) (E := E) (Q₁ := fun obj s₁ => obj = .ref s.heap.objs.size ∧ s₁ = { s with heap := s.heap.push { cls := .type "set", dict := none, data := .set #[] 0 (.fresh 0 0 (!w.params.followText "set-order")) } }) ⟨rfl, rfl⟩) fun r s₁ hr => ?_
  cases r with
  | error e => exact hr
  | ok fl =>
    cases fl with
    | ret obj =>
      obtain ⟨rfl, rfl⟩ := hr
      have hS : (s.heap.push { cls := .type "set", dict := none, data := .set #[] 0 (.fresh 0 0 (!w.params.followText "set-order")) }).get? s.heap.objs.size = some { cls := .type "set", dict := none, data := .set #[] 0 (.fresh 0 0 (!w.params.followText "set-order")) } := Heap.get?_push_size _ rfl
      have hT : Shared.TypeIs { s with heap := s.heap.push { cls := .type "set", dict := none, data := .set #[] 0 (.fresh 0 0 (!w.params.followText "set-order")) } } (.ref s.heap.objs.size) "set" := ⟨_, hS, rfl⟩
      have hli := F.called_set.init.lookup
      have hbi := F.called_set.init.bind (.ref s.heap.objs.size)
      repeat (any_goals (first | assumption | wp_step))
      refine codeAny_mono (codeAny_call_builtin (R := wants (fun r s₂ => r = .none ∧ ∃ h' tk c, s₂ = { s with heap := h', toks := tk } ∧ SetR w h' s.heap.objs.size (fun j => decide (j ∈ ns)) c ∧ c ≤ ns.length ∧
          (∀ b o, s.heap.get? b = some o → h'.get? b = some o)) E) F.called_set.init.plain F.entry_set_init (check_set_init_1 hT ?_)) fun r₂ s₂ hr₂ => ?_
      · obtain ⟨ol, hol, hcl, nl, hdl⟩ := hl
        obtain ⟨ocls, odict, odata, oslots⟩ := ol
        simp only at hcl hdl
        subst hcl; subst hdl
        have hol' : (s.heap.push { cls := .type "set", dict := none, data := .set #[] 0 (.fresh 0 0 (!w.params.followText "set-order")) }).get? l = some { cls := .type "list", dict := odict, data := .seq items nl, slots := oslots } := Heap.get?_push_of_some _ hol
        have hsls := F.sub_list_set
        have hslf := F.sub_list_frozenset
        have hne : (Value.type "list" == Value.type "dict") = false := by decide
        have hl1 : (s.heap.push { cls := .type "set", dict := none, data := .set #[] 0 (.fresh 0 0 (!w.params.followText "set-order")) }).IsList l items := ⟨_, hol', rfl, nl, rfl⟩
        unfold Builtin.«set.__init__» noKeywords Builtin.Frozenset.updateFrom
        generalize hPI : pyIter = PI
        wp_walk
        subst hPI
        refine wpAny_pyIter_list hl1 ?_
        refine wpAny_bind (wpAny_runValue ?_)
        have hlS : l < s.heap.objs.size := Heap.lt_size hol
        have hh3 : A.in1.in1.in1.handled = none := by simp [hh]
        have hz1 : (s.heap.push { cls := .type "set", dict := none, data := .set #[] 0 (.fresh 0 0 (!w.params.followText "set-order")) }).objs.size = s.heap.objs.size + 1 := Heap.size_push ..
        have hneI : l ≠ (s.heap.push { cls := .type "set", dict := none, data := .set #[] 0 (.fresh 0 0 (!w.params.followText "set-order")) }).objs.size := by
          rw [Heap.size_push]; exact Nat.ne_of_lt (Nat.lt_succ_of_lt hlS)
        have hSf : s.heap.objs.size ∉ [(s.heap.push { cls := .type "set", dict := none, data := .set #[] 0 (.fresh 0 0 (!w.params.followText "set-order")) }).objs.size, l] := by
          rw [Heap.size_push]; simp only [List.mem_cons, List.mem_singleton, List.not_mem_nil, or_false, not_or]
          exact ⟨Nat.ne_of_lt (Nat.lt_succ_self _), Nat.ne_of_gt hlS⟩
        have hval : ∀ (i : Nat) (v : Value), items[i]? = some v → ∃ k t, ns[i]? = some k ∧ v = .int k t := fun i v hv => by
          have hi : i < ns.length := by rw [← hisz]; exact (Array.getElem?_eq_some_iff.mp hv).1
          obtain ⟨t, e⟩ := PyProof.Rows.IntsAre.int_at hit i v (by rw [Array.getElem?_toList]; exact hv)
          refine ⟨ns[i], t, List.getElem?_eq_getElem hi, ?_⟩
          rw [e, List.getD_eq_getElem?_getD, List.getElem?_eq_getElem hi] <;> rfl
        refine set_update_ints ((Walks.list hh3 _ l hneI items).toS) s.heap.objs.size
          hSf ns hisz hb hval (items.size - 0) 0 _ (by omega) (Nat.zero_le _)
          ⟨⟨_, Heap.get?_push_size _ rfl, rfl, rfl⟩, (hl1.push _)⟩ ?hS0 ?hR
        case hS0 =>
          have hget : ((s.heap.push { cls := .type "set", dict := none, data := .set #[] 0 (.fresh 0 0 (!w.params.followText "set-order")) }).push { cls := .type "list_iterator", data := .fields #[.ref l, .int 0 0] }).get? s.heap.objs.size
              = some { cls := .type "set", dict := none, data := .set #[] 0 (.fresh 0 0 (!w.params.followText "set-order")) } := Heap.get?_push_of_some _ hS
          exact ⟨0, Nat.le_refl 0, setR_new_at hget⟩
        case hR =>
          intro s' c' hm hc' hS'
          obtain ⟨h', g2, d', tk', os'⟩ := s'
          have eg : g2 = s.gens := hm.gens
          have ed : d' = s.drawn := hm.drawn
          have eo : os' = s.os := hm.os
          subst eg; subst ed; subst eo
          show wpAny _ _ _ _ _ _
          refine wpAny_pure ?_
          show wpAny _ _ (ret Value.none) _ _ _
          rw [hisz] at hc'
          refine wpAny_pure ⟨rfl, h', tk', c', rfl, hS', hc', fun b o e => ?_⟩
          have hb0 : b < s.heap.objs.size := Heap.lt_size e
          have hb1 : b ≠ s.heap.objs.size := Nat.ne_of_lt hb0
          have hb2 : b ≠ (s.heap.push { cls := .type "set", dict := none, data := .set #[] 0 (.fresh 0 0 (!w.params.followText "set-order")) }).objs.size := by
            rw [Heap.size_push]; exact Nat.ne_of_lt (Nat.lt_succ_of_lt hb0)
          exact hm.heap b o (by simp only [List.mem_cons, List.mem_singleton, List.not_mem_nil, or_false, not_or]; exact ⟨hb1, hb2⟩) (Heap.get?_push_of_some _ (Heap.get?_push_of_some _ e))
      · cases r₂ with
        | error e => exact hr₂
        | ok fl₂ =>
          cases fl₂ with
          | ret r =>
            obtain ⟨rfl, h', tk, c', rfl, hS', hc', hk'⟩ := hr₂
            repeat (any_goals (first | assumption | wp_step))
            exact h _ _ _ hS' hc' hk'
          | _ => exact hr₂.elim
    | _ => exact hr.elim
theorem sorted_setA {S : Int → Bool} {n : Nat} {Q : Value → Shared → Prop} (R : SetR w s.heap a S n) (hh : A.handled = none) (h64 : n ≤ sizeLine)
    (hQ : ∀ s' p (out : List Value) (c : Nat) (ns : List Int), (∀ b o, s.heap.get? b = some o → s'.heap.get? b = some o) → s'.gens = s.gens → s'.os = s.os → s.heap.objs.size ≤ p →
      s'.heap.get? p = some (seqObj "list" out.toArray c) → IntsAre out ns → ns.Pairwise (· < ·) → (∀ k, k ∈ ns ↔ S k = true) → ns.length = n → Q (.ref p) s') :
    wpAny (model P w) A (call (.builtin "sorted") [.ref a]) Q E s := by
  obtain ⟨o, es, ep, t, ho, hex, hd, g, nd, hm, hb, hf, hn, hr, hl⟩ := R
  refine Calls.call_function_entry PyProof.Rows.kind_sorted PyProof.Rows.plain_sorted PyProof.Rows.entry_sorted (PyProof.Rows.args_sorted1 _) ?_
  unfold Builtin.«sorted»
  refine wpAny_bind (m := checkCount "sorted" 1 1 _) (wpAny_pure ?_)
  refine wpAny_bind (collect_set (A := A.in1) hh ⟨o, ho, hex.1, hd⟩ hf hb hr hl fun s1 vs k1 hz g1 o1 pm => ?_)
  have hvl : vs.length = n := by rw [pm.length_eq, List.length_map, Array.length_toList]; exact hn
  have hI : IntsAre vs (vs.map Builtin.Re.reRawOf) := ints_of vs fun v hv => by
    obtain ⟨e, he, q⟩ := List.mem_map.mp (pm.mem_iff.mp hv)
    obtain ⟨k, tk, h1, _⟩ := g e he
    exact ⟨k, tk, by rw [← q]; exact h1⟩
  have pk : (vs.map Builtin.Re.reRawOf).Perm (es.toList.map keyOf) := by
    have q := pm.map Builtin.Re.reRawOf
    rw [List.map_map] at q
    exact q
  refine wpAny_bind (wpAny_newList ?_ (by rw [hvl]; exact h64))
  have hoL : (s1.heap.push (seqObj "list" vs.toArray 0)).get? s1.heap.objs.size = some (seqObj "list" vs.toArray 0) := Heap.get?_push_size _ rfl
  refine wpAny_bind (wpAny_holding (wpAny_call_entry PyProof.Rows.slot_list_sort ⟨_, hoL, rfl⟩ PyProof.Rows.entry_list_sort
    (SrtO.list_sort_ord SrtO.swo_int hoL (by rw [hvl]; exact h64) (fun h2 => SrtO.ints_sortable hI h2) fun out g1' g2' => ⟨_, rfl, ?_⟩) (PyProof.Rows.args_list_sort _)))
  obtain ⟨a1, a2, a3⟩ := SrtO.ints_out hI g1' g2'
  obtain ⟨c, hc⟩ := PyProof.Rows.sortedHeap_at (vs := vs) (out := out.toArray) hoL
  have pn : (out.map SrtO.iv).Perm (es.toList.map keyOf) := a2.trans pk
  refine wpAny_pure ⟨_, rfl, hQ _ s1.heap.objs.size out c (out.map SrtO.iv) (fun b u e => ?_) g1 o1 hz hc a1 (lt_of_le_nodup _ a3 (pn.nodup_iff.mpr nd)) (fun k => by rw [pn.mem_iff, ← hm k]) ?_⟩
  · have q := k1 b u e
    have hlt := Heap.lt_size q
    show (PyProof.Rows.sortedHeap (s1.heap.push (seqObj "list" vs.toArray 0)) s1.heap.objs.size vs out.toArray).get? b = some u
    rw [PyProof.Rows.sortedHeap_old (Nat.ne_of_lt hlt) (by rw [size_push']; exact Nat.lt_succ_of_lt hlt)]
    exact Heap.get?_push_of_some _ q
  · rw [pn.length_eq, List.length_map, Array.length_toList]; exact hn
end
/-- set(xs), xs a list or a tuple of ints -/
def rSetI (K : PySem.W.Frag) (w : World) : List V → Hp → VK → Prop := fun xs H Q => ∃ (l : Addr) (ns : List Int), xs = [V.ref l] ∧ (SqL K H l (ns.map V.int) ∨ SqT K H l (ns.map V.int)) ∧ ns.length + 1 < 4096 ∧
  ∀ p c, H p = none → c ≤ ns.length → Q (.ref p) (upd H p (SetO w p (fun j => decide (j ∈ ns)) c))
/-- sorted(s), s a set of ints -/
def rSortSet (w : World) : List V → Hp → VK → Prop := fun xs H Q => ∃ (a : Addr) (ns : List Int) (c : Nat), xs = [V.ref a] ∧ H a = some (SetO w a (fun j => decide (j ∈ ns)) c) ∧ c ≤ ns.length ∧ ns.length + 1 < 4096 ∧
  ∀ p, H p = none → Q (.ref p) (upd H p (.lst ((sortI (dedup ns)).map V.int)))
theorem lt_uniq {l m : List Int} (hl : l.Pairwise (· < ·)) (h : ∀ k, k ∈ l ↔ k ∈ m) : l = sortI (dedup m) := by
  refine sortI_eq ?_ (hl.imp fun h => by omega)
  exact (List.perm_ext_iff_of_nodup (hl.imp fun h e => by omega) (nodup_dedup m)).mpr fun k => by rw [h k, mem_dedup]
section
variable {X : Cx}
theorem cr_setI (hc : X.calm = true) : CallR X (.type "set") (rSetI X.K X.w) := by
  intro pins s σ H xs us Q I r h
  obtain ⟨l, ns, rfl, hs, hb, q⟩ := h
  obtain ⟨u, rfl, ru⟩ := vals1 r
  obtain rfl : u = Value.ref l := ru
  rcases hs with hs | hs
  · obtain ⟨its, rv, pl, hz⟩ := I.list hs
    refine call_set_listI ns (I.ok.hd hc) pl.isList (by simpa using rv.ints) hb fun h' tk c hS hcl hk => ?_
    exact ⟨.ref _, _, I.laid (t' := tk) hk (Nat.le_refl _) (setO_new hS), rfl, q _ c (I.hok.fresh (Nat.le_refl _)) hcl⟩
  · obtain ⟨its, rv, pl, hz⟩ := I.tuple hs
    refine call_set_tupI ns (I.ok.hd hc) pl (by simpa using rv.ints) hb fun h' tk c hS hcl hk => ?_
    exact ⟨.ref _, _, I.laid (t' := tk) hk (Nat.le_refl _) (setO_new hS), rfl, q _ c (I.hok.fresh (Nat.le_refl _)) hcl⟩
theorem cr_sortSet (hc : X.calm = true) : CallR X (.builtin "sorted") (rSortSet X.w) := by
  intro pins s σ H vs us Q I r h
  obtain ⟨a, ns, n, rfl, ha, hn, hb, q⟩ := h
  have R := setO_get I ha
  rw [Vals.ref1 r]
  refine sorted_setA R (I.ok.hd hc) (by rw [sizeLine_eq]; omega) fun s' p out c ks k g o hp hg hi hs hm hl => ?_
  have ek : ks = sortI (dedup ns) := lt_uniq hs fun j => by rw [hm j]; simp
  subst ek
  have hlen : ((sortI (dedup ns)).map V.int).length ≤ sizeLine := by rw [List.length_map, hl, sizeLine_eq]; omega
  have hn : H p = none := I.hok.fresh hp
  have J : L2.Inv X pins σ (upd H p (.lst ((sortI (dedup ns)).map V.int))) { s with heap := s'.heap, gens := s'.gens, drawn := s'.drawn, toks := s'.toks } :=
    I.call (ch := []) (Un.laid k hp hn) (I.hok.laid k hp ⟨hlen, out, c, vals_of_ints hi, hg⟩) (by rw [g]; exact I.bare) (fun _ z => nomatch z)
  have e : s' = { s with heap := s'.heap, gens := s'.gens, drawn := s'.drawn, toks := s'.toks } := by
    cases s'
    cases s
    cases o
    rfl
  rw [e]
  exact ⟨.ref p, _, J, rfl, q p hn⟩
end
end LS

set_option maxRecDepth 100000
/-! LD: dict comprehensions whose keys are tuples of ints and texts. -/
set_option pp.maxSteps 200
namespace LD
open PySem PySem.Spec PyProof.Rows L2
section
variable {X : Cx}
/-- d[k] = v by a comprehension, k a tuple -/
theorem d_dictSetT {pins : List (Addr × Obj)} {σ : L2.St} {H : Hp} {s : Shared} {E : Value → Shared → Prop} {D b : Addr} {kvs : List (List Key × V)} {k : List Key} {v : V} {r : Value} {Q : Unit → Shared → Prop} (hu : X.A.units + 1 < cLine) (I : L2.Inv X pins σ H s)
    (hD : H D = some (.dT kvs)) (hb : H b = some (.tup (k.map kV))) (hz : kvs.length < sizeLine) (rv : RelV v r) (h : ∀ s', L2.Inv X pins σ (upd H D (.dT (putK kvs k v))) s' → Q () s') : wpAny (model X.prog X.w) X.A (dictSet D (.ref b) r) Q E s := by
  obtain ⟨z, hd, xs, rel, dd⟩ := dt_of I.hok hD
  have hzx : xs.length ≤ sizeLine := by rw [← Paired.length rel]; exact z
  have hl : (putK kvs k v).length ≤ sizeLine := by have := length_putK kvs k v; omega
  refine wpAny_dictSet_heap (hsz := hzx) (show X.A.units < cLine from Nat.lt_of_succ_lt hu) (key_of I.hok hb) dd fun h' dd' hs => h _ ?_
  obtain ⟨q, es, ep, hq, h2, h3, h4, _, h5⟩ := dd'
  refine d_write I (by rw [hD]; exact True.intro) hs ⟨q, hq⟩ ⟨hl, hd, _, (rel.put k hb rv).keeps fun c ys ec => ?_, q, es, ep, hq, h2, h3, h4, h5⟩
  rw [upd_ne (ne_of ec hD (fun z => nomatch z))]
  exact ec
/-- {k: v for target in iter if ..}, keys ints or texts: D the new dict -/
def tDcT (wi : TI) (g : TG) (tt : TT) (tk tv : TE) (vs : List Nat) : TE := fun σ H Q => wi σ H fun J H1 => ∀ D, H1 D = none → ∃ W : Nat → Nat → Hp → Prop, (∃ m, W 0 m (upd H1 D (.dT []))) ∧ ∀ i m H, W i m H →
  (J.stop i H ∧ Q (.ref D) H) ∨ (J.go i H ∧ ∃ Nx : Hp → Prop, (∀ H', Nx H' → ∃ m', m' < m ∧ W (i + 1) m' H') ∧ ∀ x H', J.yld i H x H' → g x (wipe σ vs) H' fun σ2 H2 => wipe σ2 vs = wipe σ vs ∧ tt σ2 H2 fun b H3 =>
    if b = true then tk σ2 H3 fun y H4 => tv σ2 H4 fun z H5 => ∃ kvs k b, y = .ref b ∧ H5 b = some (.tup (k.map kV)) ∧ H5 D = some (.dT kvs) ∧ kvs.length < sizeLine ∧ Nx (upd H5 D (.dT (putK kvs k z))) else Nx H3)
theorem dc_coreT {pins : List (Addr × Obj)} {s : Shared} {σ : L2.St} {H : Hp} {Q : VK} {kx vx tg iter : Expr} {ifs : List Expr} {scope : Scope} {own : List (Str × Nat)} {pos pos' : Pos} {wi : TI} {g : TG} {tt : TT} {tk tv : TE} {use : Option (Value → Sem Unit)} {Qf : Value → Shared → Prop}
    (hu : X.A.units + 1 < cLine) (hc : X.calm = true) (hN : X.N.Nodup) (I : L2.Inv X pins σ H s) (hi : PI X tg iter wi) (ok : BlkOk X.N X.env.scope scope own)
    (hg : ∀ (s : Shared) (H : Hp) (C : Addr) (cl : List (Str × Addr)) (fp : List Addr), PG (X.blk s H scope (compEnvC scope cl C X.env) fp) tg g) (ht : ∀ (s : Shared) (H : Hp) (C : Addr) (cl : List (Str × Addr)) (fp : List Addr), PTs (X.blk s H scope (compEnvC scope cl C X.env) fp) ifs tt)
    (hk : ∀ (s : Shared) (H : Hp) (C : Addr) (cl : List (Str × Addr)) (fp : List Addr), PE (X.blk s H scope (compEnvC scope cl C X.env) fp) kx tk)
    (he : ∀ (s : Shared) (H : Hp) (C : Addr) (cl : List (Str × Addr)) (fp : List Addr), PE (X.blk s H scope (compEnvC scope cl C X.env) fp) vx tv) (hs : ∀ x, foldedSetIterable iter X.env x = pure x)
    (h : tDcT wi g tt tk tv (own.map (·.2)) σ H Q)
    (hRR : ∀ D C s' m H', L2.Inv X pins σ H' s' → Q (.ref D) H' → s'.heap.Ns C m → FpOk X pins H' C → compPost (model X.prog X.w) X.A X.xe use Qf (.ref D) C (.ok .next) s') :
    wpAny (model X.prog X.w) X.A (comprehension (.DictComp kx vx [⟨tg, iter, ifs, 0⟩] scope pos) scope X.env pos' newDict false (eval iter X.env) use) Qf X.xe s := by
  have hfree : ∀ y ∈ scope.names, y.2 = .free → ∃ c, X.env.cells.lookup y.1 = some c := fun y hy e => by
    rcases ok.free y hy e with k | k
    · exact I.ok.has _ (.inl k)
    · exact I.ok.has _ (.inr k)
  refine wpAny_comprehension_free (use := use) rfl hs (closure_ok hfree) ok.kind (fun y hy e => by rw [ok.uniq y hy, e])
    (thn (hi.run pins s σ H _ I h) fun xv s1 hx => thn hx fun itv s2 h2 => ?_)
  obtain ⟨it, fp, tn, J, H2, e, I2, T, st2, f2, q⟩ := h2
  subst e
  refine wpAny_newObj_type (newEnv_comp ?_)
  generalize hD : s2.heap.objs.size = D
  have hDn : H2 D = none := I2.hok.fresh (Nat.le_of_eq hD)
  obtain ⟨W, ⟨m0, w0⟩, turn⟩ := q D hDn
  -- the new list
  generalize hs3 : ({ s2 with heap := s2.heap.push { cls := .type "dict", data := .dict #[] } } : Shared) = s3
  have I3 : L2.Inv X pins σ (upd H2 D (.dT [])) s3 := by
    rw [← hs3]
    refine I2.laid (t' := s2.toks) (fun b o e => Heap.get?_push_of_some _ e) (Nat.le_of_eq hD) ?_
    rw [← hD]
    exact dt_empty s2.heap I2.big
  have h3 : s3.heap = s2.heap.push { cls := .type "dict", data := .dict #[] } := by rw [← hs3]
  have sz : ∀ b ∈ fp, b < s2.heap.objs.size := fun b hb => by
    obtain ⟨o, e, _⟩ := T.obj _ _ st2 b hb
    exact Heap.lt_size e
  have f3 : ∀ b ∈ fp, FpOk X pins (upd H2 D (.dT [])) b ∧ b < s3.heap.objs.size := fun b hb => by
    have hlt := sz b hb
    refine ⟨⟨?_, (f2 b hb).2⟩, by rw [h3, Heap.size_push]; exact Nat.lt_succ_of_lt hlt⟩
    rw [upd_ne (by rw [← hD]; exact Nat.ne_of_lt hlt)]
    exact (f2 b hb).1
  have st3 : tn 0 s3.heap := T.keep _ _ _ st2 fun b _ o e => by rw [h3]; exact Heap.get?_push_of_some _ e
  have I4 := block_start I3 ok hN f3
  have pg := hg s3 (upd H2 D (.dT [])) s3.heap.objs.size (cellsFrom (s3.heap.objs.size + 1) scope.names (cloFrom X.env.cells scope.names [])) fp
  have pt := ht s3 (upd H2 D (.dT [])) s3.heap.objs.size (cellsFrom (s3.heap.objs.size + 1) scope.names (cloFrom X.env.cells scope.names [])) fp
  have pk := hk s3 (upd H2 D (.dT [])) s3.heap.objs.size (cellsFrom (s3.heap.objs.size + 1) scope.names (cloFrom X.env.cells scope.names [])) fp
  have pe := he s3 (upd H2 D (.dT [])) s3.heap.objs.size (cellsFrom (s3.heap.objs.size + 1) scope.names (cloFrom X.env.cells scope.names [])) fp
  show codeAny _ _ (.compStart (.DictComp kx vx [⟨tg, iter, ifs, 0⟩] scope pos) 0 (.ref it) (.ref D) (compEnvC scope (cellsFrom (s3.heap.objs.size + 1) scope.names (cloFrom X.env.cells scope.names [])) s3.heap.objs.size X.env)) (compPost (model X.prog X.w) X.A X.xe use Qf (.ref D) s3.heap.objs.size) { s3 with heap := pushCells (s3.heap.push { cls := .type "dict", data := .dict #[] }) scope.names }
  have nfp : ∀ b ∈ fp, (upd H2 D (.dT [])) b = none := fun b hb => (f3 b hb).1.1
  generalize hce : compEnvC scope (cellsFrom (s3.heap.objs.size + 1) scope.names (cloFrom X.env.cells scope.names [])) s3.heap.objs.size X.env = ce at I4 pg pt pk pe ⊢
  have cL : ce.locals = s3.heap.objs.size := by subst hce; rfl
  generalize hH3 : upd H2 D (.dT []) = H3 at I3 I4 pg pt pk pe w0 nfp f3
  generalize hs4 : ({ s3 with heap := pushCells (s3.heap.push { cls := .type "dict", data := .dict #[] }) scope.names } : Shared) = s4 at I4 ⊢
  have st4 : tn 0 s4.heap := T.keep _ _ _ st3 fun b _ o e => by rw [← hs4]; exact pushCells_keeps _ _ _ _ (Heap.get?_push_of_some _ e)
  have stat : ∀ {σ' : L2.St} {H' : Hp} {s' : Shared}, L2.Inv (X.blk s3 H3 scope ce fp) [] σ' H' s' → (∀ b ∈ fp, H' b = none) → ∀ b ∈ fp, FpOk (X.blk s3 H3 scope ce fp) [] H' b := fun {σ' H' s'} I' hn b hb =>
    ⟨hn b hb, (I'.ok.exf b hb).1, I'.ok.exfs b hb, .inl hb, fun x c e => (I'.ok.exf b hb).2 x c e, fun p hp => absurd (show p ∈ ([] : List (Addr × Obj)) ++ [] from hp) (by simp)⟩
  have loop : codeAny (model X.prog X.w) X.A (.compLoop (.DictComp kx vx [⟨tg, iter, ifs, 0⟩] scope pos) 0 (.ref it) (.ref D) ce) (compPost (model X.prog X.w) X.A X.xe use Qf (.ref D) s3.heap.objs.size) s4 := by
    refine compLoop_anyD (fun n s' => ∃ i H', L2.Inv (X.blk s3 H3 scope ce fp) [] (wipe σ (own.map (·.2))) H' s' ∧ tn i s'.heap ∧ (∀ b ∈ fp, H' b = none) ∧ W i n H') ?_ m0 ⟨0, H3, I4, st4, nfp, w0⟩
    rintro n s5 ⟨i, H5, I5, st5, n5, w5⟩
    rcases turn i n H5 w5 with ⟨stop, qq⟩ | ⟨go, Nx, hNx, step⟩
    · have td := T.done (X.blk s3 H3 scope ce fp) rfl rfl rfl hc i [] s5 _ H5 (fun _ _ => False) I5 (stat I5 n5) st5 stop
      refine thnF td fun r s6 ⟨hr, I6⟩ => ?_
      subst hr
      -- back in the def's context
      have I7 : L2.Inv X pins σ H5 s6 := I3.call' (ch := fp) I6.os I6.base I6.hok I6.bare fun b hb => ⟨(f3 b hb).1.2.2.2.1, (f3 b hb).1.2.1, (f3 b hb).1.2.2.2.2.1, (f3 b hb).1.2.2.2.2.2⟩
      have nC : H5 s3.heap.objs.size = none := by
        have z : H5 ce.locals = none := I6.free
        rw [cL] at z
        exact z
      obtain ⟨m, hn, _⟩ := I6.loc
      have hn : s6.heap.Ns ce.locals m := hn
      rw [cL] at hn
      exact hRR D s3.heap.objs.size s6 m H5 I7 qq hn (I3.fpOk (Nat.le_refl _) nC)
    · have ti := T.item (X.blk s3 H3 scope ce fp) rfl rfl rfl hc i [] s5 _ H5 (fun _ _ => False) I5 (stat I5 n5) st5 go
      refine thnF ti fun r s6 ⟨u, hr, h6⟩ => ?_
      subst hr
      refine thnF h6 fun _ s7 ⟨x, H7, I7, r7, y7, st7, n7⟩ => ?_
      have I7' := I7.pinned (stat I7 n7) (T.obj _ _ st7)
      refine thnF (pg.run _ s7 _ H7 x u _ I7' r7 (step x H7 y7)) fun _ s8 ⟨σ8, H8, I8, hw8, q8⟩ => ?_
      refine thnF (pt.run _ s8 σ8 H8 _ I8 q8) fun b s9 ⟨H9, I9, q9⟩ => ?_
      -- the turn's end
      have fin : ∀ {s' : Shared} {H' : Hp}, L2.Inv (X.blk s3 H3 scope ce fp) ([] ++ pinsAt fp s7.heap) σ8 H' s' → Nx H' → ∃ m, m < n ∧ ∃ i H', L2.Inv (X.blk s3 H3 scope ce fp) [] (wipe σ (own.map (·.2))) H' s' ∧ tn i s'.heap ∧ (∀ b ∈ fp, H' b = none) ∧ W i m H' := fun {s' H'} I' nx => by
        obtain ⟨m', hm, w'⟩ := hNx H' nx
        have pin' : ∀ b ∈ fp, ∀ o, s7.heap.get? b = some o → s'.heap.get? b = some o ∧ H' b = none := fun b hb o e =>
          let z := I'.pin (b, o) (List.mem_append_right _ (List.mem_append_right _ (mem_pinsAt hb e)))
          ⟨z.1, z.2.1⟩
        have hl : (wipe σ (own.map (·.2))).length = σ8.length := by rw [← hw8, wipe_length]
        refine ⟨m', hm, i + 1, H', (I'.unpinned (pins := [])).weak hl (fun j v e => ?_), T.keep _ _ _ st7 fun b hb o e => (pin' b hb o e).1, fun b hb => ?_, w'⟩
        · rw [← hw8] at e
          exact (wipe_some e).1
        · obtain ⟨o, e, _⟩ := T.obj _ _ st7 b hb
          exact (pin' b hb o e).2
      cases b with
      | false =>
        simp only [Bool.false_eq_true, if_false] at q9 ⊢
        exact fin I9 q9
      | true =>
        simp only [if_true] at q9 ⊢
        refine thnF (pk.run _ s9 σ8 H9 _ I9 q9) fun z s10 ⟨yk, H10, I10, r10, q10⟩ => ?_
        refine thnF (pe.run _ s10 σ8 H10 _ I10 q10) fun z2 s11 ⟨yv, H11, I11, r11, kvs, k, bk, ek, hbk, hD11, hz11, nx⟩ => ?_
        subst ek
        cases r10
        exact d_dictSetT (X := X.blk s3 H3 scope ce fp) hu I11 hD11 hbk hz11 r11 fun s12 I12 => fin I12 nx
  exact codeAny_compStart_dict loop (T.self X.A 0 _ _ _ st4 loop)
/-- as a value -/
theorem pe_dcT {kx vx tg iter : Expr} {ifs : List Expr} {scope : Scope} {own : List (Str × Nat)} {pos : Pos} {wi : TI} {g : TG} {tt : TT} {tk tv : TE} (hu : X.A.units + 1 < cLine) (hc : X.calm = true) (hN : X.N.Nodup) (hi : PI X tg iter wi) (ok : BlkOk X.N X.env.scope scope own)
    (hg : ∀ (s : Shared) (H : Hp) (C : Addr) (cl : List (Str × Addr)) (fp : List Addr), PG (X.blk s H scope (compEnvC scope cl C X.env) fp) tg g) (ht : ∀ (s : Shared) (H : Hp) (C : Addr) (cl : List (Str × Addr)) (fp : List Addr), PTs (X.blk s H scope (compEnvC scope cl C X.env) fp) ifs tt)
    (hk : ∀ (s : Shared) (H : Hp) (C : Addr) (cl : List (Str × Addr)) (fp : List Addr), PE (X.blk s H scope (compEnvC scope cl C X.env) fp) kx tk)
    (he : ∀ (s : Shared) (H : Hp) (C : Addr) (cl : List (Str × Addr)) (fp : List Addr), PE (X.blk s H scope (compEnvC scope cl C X.env) fp) vx tv) (hs : ∀ x, foldedSetIterable iter X.env x = pure x := by intro _; rfl) :
    PE X (.DictComp kx vx [⟨tg, iter, ifs, 0⟩] scope pos) (tDcT wi g tt tk tv (own.map (·.2))) := by
  refine ⟨fun pins s σ H Q I h => ?_⟩
  rw [arm_eval_DictComp]
  refine dc_coreT hu hc hN I hi ok hg ht hk he hs h fun D C s' m H' I' q hn f => ⟨m, hn, fun h'' sb => ?_⟩
  obtain ⟨f0, f1, f2, f3, f4, f5⟩ := f
  exact ⟨.ref D, H', I'.turned (t' := s'.toks) (fun b o hb e => (sb.2 b hb).trans e) f0 f1 f3 f4 f5, rfl, q⟩
end
end LD

namespace LD
open PySem PySem.Spec PyProof.Rows L2
section
variable {X : Cx} {CX : CXT} {k : Nat} {f : Addr} {fd : FuncData} {ps ks : List Str} {sp : Sp} {E : XK} {x : Str} {p pos : Pos} {kws : List Keyword} {tk : TA} {g : List Value → List Value → List Value} {gV : List V → List V → List V}
/-- f(k = v, ..) -/
theorem pe_callK0 (F : FnOk X.prog X.w X.K X.mg X.base CX k f fd ps sp) (hr : Room k X.A) (hg : Gl X x) (hm : X.mg x = some (.ref f)) (hk : PySem.W.keepIn X.K (.ref f) = true) (hb : KBinds X.K fd ps ks g gV) (hx : Passes CX X E)
    (hkw : PK X kws tk) (hall : (backToKw pos (keywordEach kws X.env)).all (·.1.isSome) = true := by rfl) (hks : (backToKw pos (keywordEach kws X.env)).filterMap (·.1) = ks := by rfl)
    (hdb : (x == ("__debug__" : Str)) = false := by decide)
    (hpl : ((backTo pos (starEach [] X.env)).any (·.1) || (backToKw pos (keywordEach kws X.env)).any (·.1.isNone)) = false := by rfl) :
    PE X (.Call (.Name x p) [] kws pos) (tCallK sp gV E tNil tk) := by
  refine ⟨fun pins s σ H Q I h => ?_⟩
  refine wpAny_Call_Name_kw (ld_glob I hg hm ?_ hdb)
  refine PySem.W.callWith_KW0 (h₀ := X.base) I.ok.mod.kin hk hall ?_ hpl
  refine thn (hkw.run pos pins s σ H _ I h) fun ws s2 ⟨zs, H2, I2, rz, q2⟩ => ⟨I2.kIn, ?_⟩
  rw [hks]
  exact run_fnk (us := []) (vs := []) F hr hb hx I2 .nil rz q2
end
/-- one keyword alone; the value is handed on -/
def gKw1 {α : Type} : List α → List α → List α
  | [], [a] => [a]
  | _, _ => []
/-- three keywords alone, in the contrary sequence -/
def gKw321 {α : Type} : List α → List α → List α
  | [], [a, b, c] => [c, b, a]
  | _, _ => []
theorem gKw1_rel {vs : List V} {us : List Value} {zs : List V} {ws : List Value} (q : Vals vs us) (r : Vals zs ws) : Vals (gKw1 vs zs) (gKw1 us ws) := by
  match vs, us, q with
  | [], _, .nil =>
    match zs, ws, r with
    | [], _, .nil => exact .nil
    | [_], _, .cons r .nil => exact .cons r .nil
    | _ :: _ :: _, _, .cons _ (.cons _ _) => exact .nil
  | _ :: _, _, .cons _ _ =>
    show Vals [] []
    exact .nil
theorem gKw321_rel {vs : List V} {us : List Value} {zs : List V} {ws : List Value} (q : Vals vs us) (r : Vals zs ws) : Vals (gKw321 vs zs) (gKw321 us ws) := by
  match vs, us, q with
  | [], _, .nil =>
    match zs, ws, r with
    | [], _, .nil => exact .nil
    | [_], _, .cons _ .nil => exact .nil
    | [_, _], _, .cons _ (.cons _ .nil) => exact .nil
    | [_, _, _], _, .cons r1 (.cons r2 (.cons r3 .nil)) => exact .cons r3 (.cons r2 (.cons r1 .nil))
    | _ :: _ :: _ :: _ :: _, _, .cons _ (.cons _ (.cons _ (.cons _ _))) => exact .nil
  | _ :: _, _, .cons _ _ =>
    show Vals [] []
    exact .nil
end LD

namespace LDx
open PySem PySem.Spec PyProof.Rows L2 LD
section
variable {X : Cx}
theorem ps_setDc {i : Nat} {y : Str} {py : Pos} {kx vx tg iter : Expr} {ifs : List Expr} {scope : Scope} {own : List (Str × Nat)} {pos spos : Pos} {wi : TI} {g : TG} {tt : TT} {tk tv : TE} (hc : X.calm = true) (hN : X.N.Nodup) (hy : X.N[i]? = some y) (hyl : X.env.scope.names.lookup y = some .local)
    (hsw : swapsWith (.DictComp kx vx [⟨tg, iter, ifs, 0⟩] scope pos) (some (.Name y py)) spos.line X.env = pure true) (hi : PI X tg iter wi) (ok : BlkOk X.N X.env.scope scope own)
    (hg : ∀ (s : Shared) (H : Hp) (C : Addr) (cl : List (Str × Addr)) (fp : List Addr), PG (X.blk s H scope (compEnvC scope cl C X.env) fp) tg g) (ht : ∀ (s : Shared) (H : Hp) (C : Addr) (cl : List (Str × Addr)) (fp : List Addr), PTs (X.blk s H scope (compEnvC scope cl C X.env) fp) ifs tt)
    (hk : ∀ (s : Shared) (H : Hp) (C : Addr) (cl : List (Str × Addr)) (fp : List Addr), PE (X.blk s H scope (compEnvC scope cl C X.env) fp) kx tk)
    (he : ∀ (s : Shared) (H : Hp) (C : Addr) (cl : List (Str × Addr)) (fp : List Addr), PE (X.blk s H scope (compEnvC scope cl C X.env) fp) vx tv) (hs : ∀ x, foldedSetIterable iter X.env x = pure x := by intro _; rfl) :
    PS X (.Assign [.Name y py] (.DictComp kx vx [⟨tg, iter, ifs, 0⟩] scope pos) spos) (tAsg (tDc wi g tt tk tv (own.map (·.2))) (gName i)) := by
  refine ⟨fun pins s σ H D I h => ?_⟩
  rw [exec_Assign_Name_used _ _ _ _ hsw]
  refine wpAny_bind (wpAny_standAt (wpAny_bind ?_))
  show wpAny _ X.A (do let _ ← comprehension (.DictComp kx vx [⟨tg, iter, ifs, 0⟩] scope pos) scope X.env (firstIterPos [⟨tg, iter, ifs, 0⟩] pos) newDict false (eval iter X.env) (some (assign (.Name y py) X.env))) _ _ s
  have h : tDc wi g tt tk tv (own.map (·.2)) σ H (fun x H1 => gName i x σ H1 D.nx) := h
  refine wpAny_bind (thn (dc_core (Qf := fun _ s' => SP X pins D .next s') hc hN I hi ok hg ht hk he hs h fun L C s' m H' I' q hn f => ?_) fun _ s' hq => wpAny_pure (wpAny_pure hq))
  show wpAny _ _ (assign (.Name y py) X.env (.ref L)) _ _ _
  refine wpAny_assign_Name (store_ok2 (v := V.ref L) I' hN hy (.inl hyl) rfl (fun s2 I2 ⟨a, sb, ha⟩ => ?_) (.inr hyl))
  obtain ⟨f0, f1, f2, f3, f4, f5⟩ := f
  have haC : C ≠ a := by
    rcases ha with z | z
    · rw [z]; exact f1
    · exact fun e => f4 y a z e.symm
  refine ⟨m, hn.sameBut sb haC, fun h3 sb3 => ?_⟩
  exact ⟨_, H', I2.turned (t' := s2.toks) (fun b o hb e => (sb3.2 b hb).trans e) f0 f1 f3 f4 f5, q⟩
theorem ps_setDcT {i : Nat} {y : Str} {py : Pos} {kx vx tg iter : Expr} {ifs : List Expr} {scope : Scope} {own : List (Str × Nat)} {pos spos : Pos} {wi : TI} {g : TG} {tt : TT} {tk tv : TE} (hu : X.A.units + 1 < cLine) (hc : X.calm = true) (hN : X.N.Nodup) (hy : X.N[i]? = some y) (hyl : X.env.scope.names.lookup y = some .local)
    (hsw : swapsWith (.DictComp kx vx [⟨tg, iter, ifs, 0⟩] scope pos) (some (.Name y py)) spos.line X.env = pure true) (hi : PI X tg iter wi) (ok : BlkOk X.N X.env.scope scope own)
    (hg : ∀ (s : Shared) (H : Hp) (C : Addr) (cl : List (Str × Addr)) (fp : List Addr), PG (X.blk s H scope (compEnvC scope cl C X.env) fp) tg g) (ht : ∀ (s : Shared) (H : Hp) (C : Addr) (cl : List (Str × Addr)) (fp : List Addr), PTs (X.blk s H scope (compEnvC scope cl C X.env) fp) ifs tt)
    (hk : ∀ (s : Shared) (H : Hp) (C : Addr) (cl : List (Str × Addr)) (fp : List Addr), PE (X.blk s H scope (compEnvC scope cl C X.env) fp) kx tk)
    (he : ∀ (s : Shared) (H : Hp) (C : Addr) (cl : List (Str × Addr)) (fp : List Addr), PE (X.blk s H scope (compEnvC scope cl C X.env) fp) vx tv) (hs : ∀ x, foldedSetIterable iter X.env x = pure x := by intro _; rfl) :
    PS X (.Assign [.Name y py] (.DictComp kx vx [⟨tg, iter, ifs, 0⟩] scope pos) spos) (tAsg (tDcT wi g tt tk tv (own.map (·.2))) (gName i)) := by
  refine ⟨fun pins s σ H D I h => ?_⟩
  rw [exec_Assign_Name_used _ _ _ _ hsw]
  refine wpAny_bind (wpAny_standAt (wpAny_bind ?_))
  show wpAny _ X.A (do let _ ← comprehension (.DictComp kx vx [⟨tg, iter, ifs, 0⟩] scope pos) scope X.env (firstIterPos [⟨tg, iter, ifs, 0⟩] pos) newDict false (eval iter X.env) (some (assign (.Name y py) X.env))) _ _ s
  have h : tDcT wi g tt tk tv (own.map (·.2)) σ H (fun x H1 => gName i x σ H1 D.nx) := h
  refine wpAny_bind (thn (dc_coreT (Qf := fun _ s' => SP X pins D .next s') hu hc hN I hi ok hg ht hk he hs h fun L C s' m H' I' q hn f => ?_) fun _ s' hq => wpAny_pure (wpAny_pure hq))
  show wpAny _ _ (assign (.Name y py) X.env (.ref L)) _ _ _
  refine wpAny_assign_Name (store_ok2 (v := V.ref L) I' hN hy (.inl hyl) rfl (fun s2 I2 ⟨a, sb, ha⟩ => ?_) (.inr hyl))
  obtain ⟨f0, f1, f2, f3, f4, f5⟩ := f
  have haC : C ≠ a := by
    rcases ha with z | z
    · rw [z]; exact f1
    · exact fun e => f4 y a z e.symm
  refine ⟨m, hn.sameBut sb haC, fun h3 sb3 => ?_⟩
  exact ⟨_, H', I2.turned (t' := s2.toks) (fun b o hb e => (sb3.2 b hb).trans e) f0 f1 f3 f4 f5, q⟩
theorem sw_trueD {kx vx : Expr} {gs : List Comprehension} {scope : Scope} {pos py : Pos} {y : Str} {l : Nat} {env : Env} (hk : env.scope.kind = .function) (hy : env.scope.names.lookup y = some .local) (hl : (py.line == pos.line) = true)
    (ha : (scope.names.any fun (n, k) => n == y && (k == .local || k == .cell)) = false) : swapsWith (.DictComp kx vx gs scope pos) (some (.Name y py)) l env = pure true := by
  have ky : env.kindOf y = some .local := hy
  have hb : env.blockKind = .function := by unfold Env.blockKind; rw [hk]; rfl
  unfold swapsWith
  simp only [hb, ky, ha, Expr.pos, hl]
  rfl
end
end LDx

set_option maxRecDepth 100000
/-! LW: the steps of a reading, and what a def of the text promises to its callers. -/
namespace LW
open PySem PySem.Spec PyProof.Rows L2

/-! ### short names of what operators and built-ins ask -/
abbrev oAdd : R2 := rI0 fun i j => .int (i + j)
abbrev oSub : R2 := rI0 fun i j => .int (i - j)
abbrev oMul : R2 := rI CMul fun i j => .int (i * j)
abbrev oFdiv : R2 := rI CDivN fun i j => .int (i.fdiv j)
abbrev oMod : R2 := rI (fun _ j => j ≠ 0) fun i j => .int (i.fmod j)
abbrev oPow : R2 := rI CPow fun i j => .int (i ^ j.toNat)
abbrev oNeg : V → Hp → VK → Prop := rU fun i => .int (-i)
abbrev oLt : R2 := rI0 fun i j => .bl (decide (i < j))
abbrev oLe : R2 := rI0 fun i j => .bl (decide (i ≤ j))
abbrev oGt : R2 := rI0 fun i j => .bl (decide (j < i))
abbrev oGe : R2 := rI0 fun i j => .bl (decide (j ≤ i))
abbrev oIsN : R2 := fun x y H Q => y = .non ∧ Q (.bl (decide (x = .non))) H
abbrev oNotN : R2 := fun x y H Q => y = .non ∧ Q (.bl (!decide (x = .non))) H
abbrev oAddS : R2 := fun x y H Q => ∃ i j, x = .str i ∧ y = .str j ∧ i.length + j.length ≤ sizeLine ∧ Q (.str (i ++ j)) H
abbrev oInS : R2 := fun x y H Q => ∃ (c : Nat) (z : Str), x = .str ⟨#[c]⟩ ∧ y = .str z ∧ Q (.bl (decide (c ∈ z.cps.toList))) H
abbrev oNotInS : R2 := fun x y H Q => ∃ (c : Nat) (z : Str), x = .str ⟨#[c]⟩ ∧ y = .str z ∧ Q (.bl (!decide (c ∈ z.cps.toList))) H
abbrev oLtS : R2 := fun x y H Q => ∃ i j, x = .str i ∧ y = .str j ∧ Q (.bl (decide (i.cps.toList < j.cps.toList))) H
abbrev oLeS : R2 := fun x y H Q => ∃ i j, x = .str i ∧ y = .str j ∧ Q (.bl (!decide (j.cps.toList < i.cps.toList))) H
abbrev oGtS : R2 := fun x y H Q => ∃ i j, x = .str i ∧ y = .str j ∧ Q (.bl (decide (j.cps.toList < i.cps.toList))) H
abbrev oGeS : R2 := fun x y H Q => ∃ i j, x = .str i ∧ y = .str j ∧ Q (.bl (!decide (i.cps.toList < j.cps.toList))) H
abbrev RL := List V → Hp → VK → Prop
abbrev oLen (K : PySem.W.Frag) : RL := fun xs H Q => ∃ p ys, xs = [.ref p] ∧ (SqL K H p ys ∨ SqT K H p ys) ∧ Q (.int ys.length) H
abbrev oLenS : RL := fun xs H Q => ∃ z, xs = [.str z] ∧ z.length ≤ sizeLine ∧ Q (.int z.length) H
abbrev oLenD : RL := fun xs H Q => ∃ (a : Addr) (kvs : List (Key × V)), xs = [V.ref a] ∧ H a = some (.dK kvs) ∧ Q (.int kvs.length) H
abbrev oInt : RL := fun xs H Q => (∃ i, xs = [.int i] ∧ Q (.int i) H) ∨ ∃ k, xs = [.bl k] ∧ Q (.int (if k then 1 else 0)) H
abbrev oMax2 : RL := fun xs H Q => ∃ i j, xs = [.int i, .int j] ∧ Q (.int (if j > i then j else i)) H
abbrev oMin2 : RL := fun xs H Q => ∃ i j, xs = [.int i, .int j] ∧ Q (.int (if j < i then j else i)) H
abbrev oListOf (K : PySem.W.Frag) : RL := fun xs H Q => ∃ p ys, xs = [.ref p] ∧ (SqL K H p ys ∨ SqT K H p ys) ∧ ∀ l, H l = none → Q (.ref l) (upd H l (.lst ys))
abbrev oListT : RL := fun xs H Q => ∃ d kvs, xs = [V.ref d] ∧ Rd H d (.dT kvs) ∧ ∀ p bs, H p = none → IsKeys H kvs bs → Q (.ref p) (upd H p (.lst (bs.map V.ref)))
abbrev oTru (K : PySem.W.Frag) (ta : TE) : TT := fun σ H Q => ta σ H fun x H' => ∃ k, TruV K x H' k ∧ Q k H'
section
variable {K : PySem.W.Frag} {σ : L2.St} {H H' : Hp} {D : Ends} {Q : VK} {QT : Bool → Hp → Prop} {QA : List V → Hp → Prop} {v x y z : V} {i j l : Nat} {t u : TS} {ta tb te tc : TE} {ct : TT} {tA tB' : TT} {g : TG} {aa ab : TA} {a p q : Addr} {xs ys : List V} {o w : HO} {E : XK}
/-! ### statements -/
theorem s_seq (h : t { D with nx := u D } σ H) : tSeq t u D σ H := h
theorem s_next (h : D.nx σ H) : tNext D σ H := h
theorem s_brk (h : D.bk σ H) : tBreak D σ H := h
theorem s_cont (h : D.ct σ H) : tCont D σ H := h
theorem s_asg (h : te σ H fun x H1 => g x σ H1 D.nx) : tAsg te g D σ H := h
theorem s_ret (h : te σ H D.rt) : tRet te D σ H := h
theorem s_retN (h : D.rt .non H) : tRetN D σ H := h
theorem s_drop (h : te σ H fun _ H1 => D.nx σ H1) : tDrop te D σ H := h
theorem s_ifs (h : ct σ H fun b H1 => if b = true then t D σ H1 else u D σ H1) : tIfS ct t u D σ H := h
theorem s_aug {ti : TIp} (hx : σ[i]? = some (some x)) (h : te σ H fun y H1 => ti x y H1 fun z H2 => D.nx (σ.set i (some z)) H2) : tAug i te ti D σ H := ⟨x, hx, h⟩
theorem s_par (h : aa σ H fun vs H1 => ∃ v w, vs = [v, w] ∧ D.nx ((σ.set i (some v)).set j (some w)) H1) : tPar i j aa D σ H := h
theorem s_par3 (h : aa σ H fun vs H1 => ∃ u v w, vs = [u, v, w] ∧ D.nx (((σ.set i (some u)).set j (some v)).set l (some w)) H1) : tPar3 i j l aa D σ H := h
theorem s_par_end {P : V → V → Prop} (h : P x y) : ∃ v w, [x, y] = [v, w] ∧ P v w := ⟨x, y, rfl, h⟩
theorem s_par3_end {P : V → V → V → Prop} (h : P x y z) : ∃ u v w, [x, y, z] = [u, v, w] ∧ P u v w := ⟨x, y, z, rfl, h⟩
theorem s_dput (h : te σ H fun v H1 => ta σ H1 fun x H2 => tb σ H2 fun y H3 => ∃ a H4, x = .ref a ∧ DPut H3 a y v H4 ∧ D.nx σ H4) : sDPut ta tb te D σ H := h
/-! ### targets -/
theorem g_name {R : L2.St → Hp → Prop} (h : R (σ.set i (some v)) H) : gName i v σ H R := h
theorem g_sub {ts : TSet} {R : L2.St → Hp → Prop} (h : ta σ H fun o H1 => tb σ H1 fun i H2 => ts o i v H2 fun H3 => R σ H3) : gSub ta tb ts v σ H R := h
theorem g_nil {R : L2.St → Hp → Prop} (h : R σ H) : gNil [] σ H R := ⟨rfl, h⟩
theorem g_cons {u : TGs} {R : L2.St → Hp → Prop} (h : g v σ H fun σ' H' => u xs σ' H' R) : gCons g u (v :: xs) σ H R := ⟨v, xs, rfl, h⟩
theorem g_tup {n : Nat} {u : TGs} {R : L2.St → Hp → Prop} (hs : SqT K H a xs) (hl : xs.length = n) (h : u xs σ H R) : gTup K n u (.ref a) σ H R := ⟨a, xs, rfl, hs, hl, h⟩
theorem g_setL {k : Int} {R : Hp → Prop} (hp : H p = some (.lst xs)) (hj : ixN xs.length k = some j) (h : R (upd H p (.lst (xs.set j v)))) : rSetL (.ref p) (.int k) v H R := ⟨p, xs, k, j, rfl, rfl, hp, hj, h⟩
/-! ### expressions -/
theorem e_var (hx : σ[i]? = some (some v)) (h : Q v H) : tVar i σ H Q := ⟨v, hx, h⟩
theorem e_c (h : Q v H) : tC v σ H Q := h
theorem e_op {r : R2} (h : ta σ H fun x H1 => tb σ H1 fun y H2 => r x y H2 Q) : tOp r ta tb σ H Q := h
theorem e_un {r : V → Hp → VK → Prop} (h : ta σ H fun x H1 => r x H1 Q) : tUn r ta σ H Q := h
theorem e_if (h : ct σ H fun c H1 => if c = true then ta σ H1 Q else tb σ H1 Q) : tIf ct ta tb σ H Q := h
theorem e_andV (h : ta σ H fun x H1 => ∃ c, x = .bl c ∧ if c = true then tb σ H1 Q else Q (.bl false) H1) : tAndV ta tb σ H Q := h
theorem e_orV (h : ta σ H fun x H1 => ∃ c, x = .bl c ∧ if c = true then Q (.bl true) H1 else tb σ H1 Q) : tOrV ta tb σ H Q := h
theorem e_notV (h : ta σ H fun x H1 => ∃ c, x = .bl c ∧ Q (.bl (!c)) H1) : tNotV ta σ H Q := h
theorem e_cb {r : List V → Hp → VK → Prop} (h : aa σ H fun vs H1 => r vs H1 Q) : tCB r aa σ H Q := h
theorem e_call {sp : Sp} {dvs : List V} (h : aa σ H fun vs H1 => sp (vs ++ dvs) H1 Q E) : tCall sp dvs E aa σ H Q := h
theorem e_callK {sp : Sp} {gV : List V → List V → List V} (h : aa σ H fun vs H1 => ab σ H1 fun zs H2 => sp (gV vs zs) H2 Q E) : tCallK sp gV E aa ab σ H Q := h
theorem e_tup (h : aa σ H fun xs H1 => xs.length ≤ sizeLine ∧ ∀ p, H1 p = none → Q (.ref p) (upd H1 p (.tup xs))) : tTup aa σ H Q := h
theorem e_lst (h : aa σ H fun xs H1 => xs.length ≤ sizeLine ∧ ∀ p, H1 p = none → Q (.ref p) (upd H1 p (.lst xs))) : tLst aa σ H Q := h
theorem e_dnewK (h : ∀ p, H p = none → Q (.ref p) (upd H p (.dK []))) : tDNewK σ H Q := h
theorem e_dnewT (h : ∀ p, H p = none → Q (.ref p) (upd H p (.dT []))) : tDNewT σ H Q := h
theorem e_dget (h : ta σ H fun x H1 => tb σ H1 fun y H2 => ∃ a v, x = .ref a ∧ DGet H2 a y (some v) ∧ Q v H2) : tDGet ta tb σ H Q := h
theorem e_dget2 (h : ta σ H fun x H1 => ∃ a, x = .ref a ∧ IsD H1 a ∧ tb σ H1 fun y H2 => tc σ H2 fun z H3 => ∃ o, DGet H3 a y o ∧ Q (o.getD z) H3) : tDGet2 ta tb tc σ H Q := h
theorem e_din (h : ta σ H fun y H1 => tb σ H1 fun x H2 => ∃ a o, x = .ref a ∧ DGet H2 a y o ∧ Q (.bl o.isSome) H2) : tDIn ta tb σ H Q := h
theorem e_dnotin (h : ta σ H fun y H1 => tb σ H1 fun x H2 => ∃ a o, x = .ref a ∧ DGet H2 a y o ∧ Q (.bl (!o.isSome)) H2) : tDNotIn ta tb σ H Q := h
theorem e_then {k : V → Hp → VK → Prop} (h : ta σ H fun x H1 => k x H1 Q) : tThen ta k σ H Q := h
theorem e_bm {T : String} {r : V → List V → Hp → VK → Prop} (h : ta σ H fun x H1 => tyV K T x H1 ∧ aa σ H1 fun xs H2 => r x xs H2 Q) : tBM K T r ta aa σ H Q := h
theorem e_bm0 {T : String} {r : V → List V → Hp → VK → Prop} (h : ta σ H fun x H1 => tyV K T x H1 ∧ r x [] H1 Q) : tBM0 K T r ta σ H Q := h
theorem e_sl {r : V → Option Int → Option Int → Hp → VK → Prop} {tl th : TO} (h : ta σ H fun x H1 => tl σ H1 fun l H2 => th σ H2 fun u H3 => r x l u H3 Q) : tSl r ta tl th σ H Q := h
theorem o_none {R : Option Int → Hp → Prop} (h : R none H) : tNoPart σ H R := h
theorem o_part {R : Option Int → Hp → Prop} (h : te σ H fun x H1 => ∃ i, x = .int i ∧ R (some i) H1) : tPart te σ H R := h
theorem o_part_end {R : Int → Prop} {n : Int} (h : R n) : ∃ i, V.int n = .int i ∧ R i := ⟨n, rfl, h⟩
theorem a_nil (h : QA [] H) : tNil σ H QA := h
theorem a_cons (h : ta σ H fun x H1 => aa σ H1 fun xs H2 => QA (x :: xs) H2) : tCons ta aa σ H QA := h
/-! ### tests -/
theorem t_test (h : te σ H fun x H' => ∃ k, x = .bl k ∧ QT k H') : tTest te σ H QT := h
theorem t_B (h : te σ H fun x H' => ∃ k, x = .bl k ∧ QT k H') : tB te σ H QT := h
theorem t_end {b : Bool} {R : Bool → Prop} (h : R b) : ∃ k, V.bl b = .bl k ∧ R k := ⟨b, rfl, h⟩
theorem t_and (h : tA σ H fun c H1 => if c = true then tB' σ H1 QT else QT false H1) : tAnd tA tB' σ H QT := h
theorem t_or (h : tA σ H fun c H1 => if c = true then QT true H1 else tB' σ H1 QT) : tOr tA tB' σ H QT := h
theorem t_not (h : tA σ H fun c H1 => QT (!c) H1) : tNot tA σ H QT := h
theorem t_ite {b : Bool} {A B : Prop} (h1 : b = true → A) (h2 : b = false → B) : if b = true then A else B := by
  cases b with
  | true => exact h1 rfl
  | false => exact h2 rfl
theorem t_iteD {c : Prop} [Decidable c] {A B : Prop} (h1 : c → A) (h2 : ¬ c → B) : if decide c = true then A else B := by
  by_cases h : c
  · rw [if_pos (decide_eq_true h)]
    exact h1 h
  · rw [if_neg (by rw [decide_eq_false h]; exact Bool.false_ne_true)]
    exact h2 h
theorem t_iteN {c : Prop} [Decidable c] {A B : Prop} (h1 : ¬ c → A) (h2 : c → B) : if (!decide c) = true then A else B := by
  by_cases h : c
  · rw [if_neg (by rw [decide_eq_true h]; decide)]
    exact h2 h
  · rw [if_pos (by rw [decide_eq_false h]; rfl)]
    exact h1 h
/-! ### operators by values -/
theorem r_I0 {f : Int → Int → V} {m n : Int} (h : Q (f m n) H) : rI0 f (.int m) (.int n) H Q := ⟨m, n, rfl, rfl, h⟩
theorem r_I {C : Int → Int → Prop} {f : Int → Int → V} {m n : Int} (hc : C m n) (h : Q (f m n) H) : rI C f (.int m) (.int n) H Q := ⟨m, n, rfl, rfl, hc, h⟩
theorem r_mulR {f : Int → Int → V} {m n : Int} (hc : -(2 ^ 64) < n ∧ n < 2 ^ 64) (h : Q (f m n) H) : rI CMul f (.int m) (.int n) H Q := ⟨m, n, rfl, rfl, .inr hc, h⟩
theorem r_fdiv {f : Int → Int → V} {m n : Int} (hc : n ≠ 0) (hn : n.natAbs < 1073741824) (h : Q (f m n) H) : rI CDivN f (.int m) (.int n) H Q := ⟨m, n, rfl, rfl, ⟨hc, hn⟩, h⟩
theorem r_eqI {m n : Int} (h : Q (.bl (decide (m = n))) H) : rEq (.int m) (.int n) H Q := ⟨rfl, by
  have e : decide (V.int m = V.int n) = decide (m = n) := by
    by_cases z : m = n
    · subst z
      rw [decide_eq_true rfl, decide_eq_true rfl]
    · rw [decide_eq_false z, decide_eq_false fun q => z (V.int.inj q)]
  rw [e]
  exact h⟩
theorem r_neI {m n : Int} (h : Q (.bl (!decide (m = n))) H) : rNe (.int m) (.int n) H Q := ⟨rfl, by
  have e : decide (V.int m = V.int n) = decide (m = n) := by
    by_cases z : m = n
    · subst z
      rw [decide_eq_true rfl, decide_eq_true rfl]
    · rw [decide_eq_false z, decide_eq_false fun q => z (V.int.inj q)]
  rw [e]
  exact h⟩
theorem r_neg {f : Int → V} {m : Int} (h : Q (f m) H) : rU f (.int m) H Q := ⟨m, rfl, h⟩
theorem r_ixL {n : Int} (hs : SqL K H p xs) (hi : atI xs n = some v) (h : Q v H) : rIxL K (.ref p) (.int n) H Q := ⟨p, xs, n, v, rfl, rfl, hs, hi, h⟩
theorem r_ixT {n : Int} (hs : SqT K H p xs) (hi : atI xs n = some v) (h : Q v H) : rIxT K (.ref p) (.int n) H Q := ⟨p, xs, n, v, rfl, rfl, hs, hi, h⟩
theorem r_len {fl : Bool} (hs : SqL K H p xs ∨ SqT K H p xs) (h : Q (.int xs.length) H) : (fun (xs : List V) (H : Hp) (Q : VK) => ∃ p ys, xs = [.ref p] ∧ (SqL K H p ys ∨ SqT K H p ys) ∧ Q (.int ys.length) H) [.ref p] H Q := ⟨p, xs, rfl, hs, h⟩
theorem r_intI {n : Int} (h : Q (.int n) H) : (fun (xs : List V) (H : Hp) (Q : VK) => (∃ i, xs = [.int i] ∧ Q (.int i) H) ∨ ∃ k, xs = [.bl k] ∧ Q (.int (if k then 1 else 0)) H) [.int n] H Q := .inl ⟨n, rfl, h⟩
theorem r_intB {k : Bool} (h : Q (.int (if k then 1 else 0)) H) : (fun (xs : List V) (H : Hp) (Q : VK) => (∃ i, xs = [.int i] ∧ Q (.int i) H) ∨ ∃ k, xs = [.bl k] ∧ Q (.int (if k then 1 else 0)) H) [.bl k] H Q := .inr ⟨k, rfl, h⟩
theorem r_app {l : Addr} (hl : H l = some (.lst xs)) (hz : xs.length < sizeLine) (h : Q .non (upd H l (.lst (xs ++ [v])))) : rAppend (.ref l) [v] H Q := ⟨l, xs, v, rfl, rfl, hl, hz, h⟩
theorem r_tyL {l : Addr} {R : Prop} (hl : SqL K H l xs) (h : R) : tyV K "list" (.ref l) H ∧ R := ⟨.inl ⟨rfl, _, hl⟩, h⟩
theorem r_new {n : Nat} {R : Prop} (hn : n ≤ 1000) (h : R) : n ≤ sizeLine ∧ R := ⟨Nat.le_trans hn (by decide), h⟩
theorem r_add {m n : Int} (h : Q (.int (m + n)) H) : oAdd (.int m) (.int n) H Q := ⟨m, n, rfl, rfl, h⟩
theorem r_sub {m n : Int} (h : Q (.int (m - n)) H) : oSub (.int m) (.int n) H Q := ⟨m, n, rfl, rfl, h⟩
theorem r_mul {m n : Int} (hc : CMul m n) (h : Q (.int (m * n)) H) : oMul (.int m) (.int n) H Q := ⟨m, n, rfl, rfl, hc, h⟩
theorem r_fdivN {m n : Int} (hc : n ≠ 0 ∧ n.natAbs < 1073741824) (h : Q (.int (m.fdiv n)) H) : oFdiv (.int m) (.int n) H Q := ⟨m, n, rfl, rfl, hc, h⟩
theorem r_mod {m n : Int} (hc : n ≠ 0) (h : Q (.int (m.fmod n)) H) : oMod (.int m) (.int n) H Q := ⟨m, n, rfl, rfl, hc, h⟩
theorem r_pow {m n : Int} (hc : CPow m n) (h : Q (.int (m ^ n.toNat)) H) : oPow (.int m) (.int n) H Q := ⟨m, n, rfl, rfl, hc, h⟩
theorem r_lt {m n : Int} (h : Q (.bl (decide (m < n))) H) : oLt (.int m) (.int n) H Q := ⟨m, n, rfl, rfl, h⟩
theorem r_le {m n : Int} (h : Q (.bl (decide (m ≤ n))) H) : oLe (.int m) (.int n) H Q := ⟨m, n, rfl, rfl, h⟩
theorem r_gt {m n : Int} (h : Q (.bl (decide (n < m))) H) : oGt (.int m) (.int n) H Q := ⟨m, n, rfl, rfl, h⟩
theorem r_ge {m n : Int} (h : Q (.bl (decide (n ≤ m))) H) : oGe (.int m) (.int n) H Q := ⟨m, n, rfl, rfl, h⟩
theorem r_max2 {m n : Int} (h : Q (.int (if n > m then n else m)) H) : oMax2 [.int m, .int n] H Q := ⟨m, n, rfl, h⟩
theorem r_min2 {m n : Int} (h : Q (.int (if n < m then n else m)) H) : oMin2 [.int m, .int n] H Q := ⟨m, n, rfl, h⟩
theorem r_int {n : Int} (h : Q (.int n) H) : oInt [.int n] H Q := .inl ⟨n, rfl, h⟩
theorem r_intb {k : Bool} (h : Q (.int (if k then 1 else 0)) H) : oInt [.bl k] H Q := .inr ⟨k, rfl, h⟩
theorem r_lenL (hs : SqL K H p xs) (h : Q (.int xs.length) H) : oLen K [.ref p] H Q := ⟨p, xs, rfl, .inl hs, h⟩
theorem r_lenT (hs : SqT K H p xs) (h : Q (.int xs.length) H) : oLen K [.ref p] H Q := ⟨p, xs, rfl, .inr hs, h⟩
theorem r_listL (hs : SqL K H p xs) (h : ∀ l, H l = none → Q (.ref l) (upd H l (.lst xs))) : oListOf K [.ref p] H Q := ⟨p, xs, rfl, .inl hs, h⟩
theorem r_listT (hs : SqT K H p xs) (h : ∀ l, H l = none → Q (.ref l) (upd H l (.lst xs))) : oListOf K [.ref p] H Q := ⟨p, xs, rfl, .inr hs, h⟩
theorem r_tupL (hs : SqL K H p xs) (h : ∀ q, H q = none → Q (.ref q) (upd H q (.tup xs))) : kTup K (.ref p) H Q := .inl ⟨p, xs, rfl, hs, h⟩
theorem r_tupT (hs : SqT K H p xs) (h : Q (.ref p) H) : kTup K (.ref p) H Q := .inr ⟨p, xs, rfl, hs, h⟩
theorem r_sum {ns : List Int} (hs : SqL K H p (ns.map V.int)) (h : Q (.int ns.sum) H) : rSum K [.ref p] H Q := ⟨p, ns, rfl, hs, h⟩
theorem r_max {ns : List Int} (hs : SqL K H p (ns.map V.int)) (h0 : 0 < ns.length) (h : ∀ m, m ∈ ns → (∀ y, y ∈ ns → y ≤ m) → Q (.int m) H) : rMax K [.ref p] H Q := ⟨p, ns, rfl, hs, h0, h⟩
theorem t_yes {c : Prop} [Decidable c] {A B : Prop} (hc : c) (h : A) : if decide c = true then A else B := by
  rw [if_pos (decide_eq_true hc)]
  exact h
theorem t_noo {c : Prop} [Decidable c] {A B : Prop} (hc : ¬ c) (h : B) : if decide c = true then A else B := by
  rw [if_neg (by rw [decide_eq_false hc]; exact Bool.false_ne_true)]
  exact h
/-! ### the heap -/
theorem u_old (h : H q = some o) (hp : H p = none) : upd H p w q = some o := by
  rw [upd_ne (ne_of_none h hp)]
  exact h
theorem u_oth (hn : q ≠ p) (h : H q = some o) : upd H p w q = some o := by
  rw [upd_ne hn]
  exact h
theorem u_kind {o' : HO} (h : H q = some o) (hp : H p = some o') (d : o ≠ o') : upd H p w q = some o := by
  rw [upd_ne (ne_of h hp d)]
  exact h
theorem u_none (h : H q = none) (hp : q ≠ p) : upd H p w q = none := by
  rw [upd_ne hp]
  exact h
theorem _root_.L2.Same.new (h : H p = none) : Same H (upd H p o) := fun b u e => u_old e h
theorem _root_.L2.Same.mut {H0 : Hp} (s : Same H0 H) (h : H0 p = none) : Same H0 (upd H p o) := fun b u e => by
  rw [upd_ne (ne_of_none e h)]
  exact s b u e
theorem _root_.L2.Same.upd (s : Same H H') (h : H' p = none) : Same H (upd H' p o) := fun b u e => u_old (s b u e) h
theorem ne_none (hp : H p = none) (h : H q = some o) : q ≠ p := ne_of_none h hp
theorem same_app (s : Same H H') (h : H q = some o) : H' q = some o := s q o h
theorem _root_.L2.Same.sqT {K : PySem.W.Frag} (e : Same H H') (h : SqT K H a xs) : SqT K H' a xs := by
  rcases h with (h | ⟨o, h⟩) | h
  · exact .inl (.inl (e _ _ h))
  · exact .inl (.inr ⟨o, e _ _ h⟩)
  · exact .inr h
theorem same_sqT {K : PySem.W.Frag} (e : Same H H') (h : SqT K H a xs) : SqT K H' a xs := e.sqT h
theorem same_sqL {K : PySem.W.Frag} (e : Same H H') (h : SqL K H a xs) : SqL K H' a xs := e.seq h
theorem new_sqT {K : PySem.W.Frag} (e : H p = none) (h : SqT K H a xs) : SqT K (upd H p o) a xs := (L2.Same.new e).sqT h
theorem new_sqL {K : PySem.W.Frag} (e : H p = none) (h : SqL K H a xs) : SqL K (upd H p o) a xs := (L2.Same.new e).seq h
theorem mut_sqT {K : PySem.W.Frag} {u : HO} (hd : H p = some u) (hm : Mut (some u)) (h : SqT K H a xs) : SqT K (upd H p o) a xs := by
  rcases h with (h | ⟨ob, h⟩) | h
  · refine .inl (.inl (u_oth (fun e => ?_) h))
    subst e
    rw [hd] at h
    cases h
    exact hm
  · refine .inl (.inr ⟨ob, u_oth (fun e => ?_) h⟩)
    subst e
    rw [hd] at h
    cases h
    exact hm
  · exact .inr h
/-- all that was tracked but the thing at b is as it was -/
def Kb (b : Addr) (H H' : Hp) : Prop := ∀ c o, H c = some o → c ≠ b → H' c = some o
theorem kb_app {b : Addr} (s : Kb b H H') (hn : q ≠ b) (h : H q = some o) : H' q = some o := s q o h hn
theorem Kb.refl (b : Addr) (H : Hp) : Kb b H H := fun _ _ h _ => h
theorem Kb.trans {b : Addr} {H H1 H2 : Hp} (s : Kb b H H1) (u : Kb b H1 H2) : Kb b H H2 := fun c o h n => u c o (s c o h n) n
theorem Kb.same {b : Addr} {H H1 H2 : Hp} (s : Kb b H H1) (u : Same H1 H2) : Kb b H H2 := fun c o h n => u c o (s c o h n)
theorem Kb.of {b : Addr} {H H1 : Hp} (u : Same H H1) : Kb b H H1 := fun c o h n => u c o h
theorem Kb.new {b : Addr} (s : Kb b H H') (h : H' p = none) : Kb b H (upd H' p o) := fun c u e n => u_old (s c u e n) h
theorem Kb.mut {b : Addr} {H0 : Hp} (s : Kb b H0 H) (h : H0 p = none) : Kb b H0 (upd H p o) := fun c u e n => by
  rw [upd_ne (ne_of_none e h)]
  exact s c u e n
theorem Kb.self {b : Addr} {H0 : Hp} (s : Kb b H0 H) : Kb b H0 (upd H b o) := fun c u e n => by
  rw [upd_ne n]
  exact s c u e n
theorem Kb.free {b : Addr} (s : Kb b H H') (h : H' q = none) (hb : q ≠ b) : H q = none := by
  cases e : H q with
  | none => rfl
  | some o =>
    rw [s q o e hb] at h
    cases h
end
/-! ### items, rests -/
theorem at_int {ns : List Int} {n : Int} (h0 : 0 ≤ n) (h1 : n < ns.length) : atI (ns.map V.int) n = some (.int (ns.getD n.toNat 0)) := by
  have hn : ((n.toNat : Nat) : Int) = n := by omega
  have hl : n.toNat < ns.length := by omega
  have e := atI_nat (xs := ns.map V.int) (j := n.toNat) (v := .int (ns.getD n.toNat 0)) (by
    rw [List.getElem?_map, List.getElem?_eq_getElem hl, List.getD_eq_getElem?_getD, List.getElem?_eq_getElem hl]
    rfl)
  rw [hn] at e
  exact e
theorem at_nat {xs : List V} {n : Int} {v : V} (h0 : 0 ≤ n) (h : xs[n.toNat]? = some v) : atI xs n = some v := by
  have e := atI_nat h
  have hn : ((n.toNat : Nat) : Int) = n := by omega
  rw [hn] at e
  exact e
theorem fm_nn {m n : Int} (h : 0 < n) : 0 ≤ m.fmod n := by
  rw [Int.fmod_eq_emod_of_nonneg _ (by omega)]
  exact Int.emod_nonneg _ (by omega)
theorem fm_lt {m n : Int} (h : 0 < n) : m.fmod n < n := by
  rw [Int.fmod_eq_emod_of_nonneg _ (by omega)]
  exact Int.emod_lt_of_pos _ h
/-! ### promises by the number of arguments -/
def sp0 (P : Hp → VK → Prop) : Sp := fun vs H Q _ => vs = [] ∧ P H Q
def sp1 (P : V → Hp → VK → Prop) : Sp := fun vs H Q _ => ∃ a, vs = [a] ∧ P a H Q
def sp2 (P : V → V → Hp → VK → Prop) : Sp := fun vs H Q _ => ∃ a b, vs = [a, b] ∧ P a b H Q
def sp3 (P : V → V → V → Hp → VK → Prop) : Sp := fun vs H Q _ => ∃ a b c, vs = [a, b, c] ∧ P a b c H Q
def sp4 (P : V → V → V → V → Hp → VK → Prop) : Sp := fun vs H Q _ => ∃ a b c d, vs = [a, b, c, d] ∧ P a b c d H Q
def sp5 (P : V → V → V → V → V → Hp → VK → Prop) : Sp := fun vs H Q _ => ∃ a b c d e, vs = [a, b, c, d, e] ∧ P a b c d e H Q
section
variable {H : Hp} {Q : VK} {E : XK} {a b c d e : V} {vs : List V}
theorem c_sp1 {P : V → Hp → VK → Prop} (h : P a H Q) : sp1 P ([a] ++ []) H Q E := ⟨a, rfl, h⟩
theorem c_sp2 {P : V → V → Hp → VK → Prop} (h : P a b H Q) : sp2 P ([a, b] ++ []) H Q E := ⟨a, b, rfl, h⟩
theorem c_sp3 {P : V → V → V → Hp → VK → Prop} (h : P a b c H Q) : sp3 P ([a, b, c] ++ []) H Q E := ⟨a, b, c, rfl, h⟩
theorem c_sp4 {P : V → V → V → V → Hp → VK → Prop} (h : P a b c d H Q) : sp4 P ([a, b, c, d] ++ []) H Q E := ⟨a, b, c, d, rfl, h⟩
theorem c_sp5 {P : V → V → V → V → V → Hp → VK → Prop} (h : P a b c d e H Q) : sp5 P ([a, b, c, d, e] ++ []) H Q E := ⟨a, b, c, d, e, rfl, h⟩
end
/-! ### a def of the text as its callers see it -/
structure Df (K : PySem.W.Frag) (mg : Str → Option Value) (x : Str) (st : Stmt) : Prop where
  ex : ∃ (f : Addr) (fd : FuncData), Fun K x x st f fd ∧ mg x = some (.ref f)
theorem df_mk {K : PySem.W.Frag} {h : Heap} {mg : Str → Option Value} {x : Str} {st : Stmt} {f : Addr} {oc kV dc pm cd ct : Value} {od an : Option Addr} {sl : Array (Option Value)} (X : K.In h) (G : h.Ns mainGlobals mg)
    (a : PySem.W.nsIn K mainGlobals x = some (some (.ref f))) (l : K.lookup f = some ⟨oc, od, .func (PySem.W.fnOf x x (defArgs st) (defBody st) (defScope st) .none kV dc pm an cd ct), sl⟩)
    (c : PySem.W.codeIn K cd x = true) (k : PySem.W.keepIn K (.ref f) = true) : Df K mg x st := ⟨f, _, fun_mk l c k, PySem.W.mg_of X G a⟩
/-- the def x keeps the promise sp, called with values alone (ks = []) or by the names ks of its parameters -/
structure Cl (P : Program) (w : World) (K : PySem.W.Frag) (mg : Str → Option Value) (base : Heap) (k : Nat) (x : Str) (sp : Sp) : Prop where
  ex : ∃ (f : Addr) (fd : FuncData) (ps : List Str), FnOk P w K mg base CX0 k f fd ps sp ∧ mg x = some (.ref f) ∧ PySem.W.keepIn K (.ref f) = true ∧ Binds K fd ps []
structure ClK (P : Program) (w : World) (K : PySem.W.Frag) (mg : Str → Option Value) (base : Heap) (k : Nat) (x : Str) (sp : Sp) (ks : List Str) (gV : List V → List V → List V) : Prop where
  ex : ∃ (f : Addr) (fd : FuncData) (ps : List Str) (g : List Value → List Value → List Value), FnOk P w K mg base CX0 k f fd ps sp ∧ mg x = some (.ref f) ∧ PySem.W.keepIn K (.ref f) = true ∧ KBinds K fd ps ks g gV
section
variable {P : Program} {w : World} {K : PySem.W.Frag} {mg : Str → Option Value} {base : Heap} {x : Str} {st : Stmt} {N ps : List Str} {k : Nat} {sp : Sp}
abbrev Body (P : Program) (w : World) (K : PySem.W.Frag) (mg : Str → Option Value) (base : Heap) (x : Str) (st : Stmt) (N : List Str) (k : Nat) (sp : Sp) : Prop :=
  ∀ (f : Addr) (cdv : Value) (A : Around) (outer : List Env) (s : Shared) (H : Hp) (vs : List V) (Q : VK) (E : XK), Room k (A.deeper (envOfC x (defScope st) s.heap.objs.size f cdv)) → sp vs H Q E →
      ∃ t, PSs (cxOf CX0 P w K mg base N x (defScope st) f cdv A outer s H E).nox (defBody st) t ∧ t { nx := fun _ H' => Q .non H', rt := Q } (start N vs) H
theorem Df.fn (D : Df K mg x st) (S : FnScope N ps (defScope st)) (len : ∀ vs H Q E, sp vs H Q E → vs.length = ps.length) (hbody : Body P w K mg base x st N k sp) :
    ∃ f fd, Fun K x x st f fd ∧ mg x = some (.ref f) ∧ FnOk P w K mg base CX0 (k + 1) f fd ps sp := by
  obtain ⟨f, fd, F, m⟩ := D.ex
  exact ⟨f, fd, F, m, F.ok S len fun cdv A outer s H vs Q E => hbody f cdv A outer s H vs Q E⟩
theorem Df.cl (D : Df K mg x st) (S : FnScope N ps (defScope st))
    (hb : ∀ (kV doc pm : Value) (an : Option Addr) (cdv ct : Value) (us : List Value), us.length = ps.length → bindArgs (PySem.W.fnOf x x (defArgs st) (defBody st) (defScope st) .none kV doc pm an cdv ct) ⟨us, []⟩ = pure (ps.zip us))
    (len : ∀ vs H Q E, sp vs H Q E → vs.length = ps.length) (hbody : Body P w K mg base x st N k sp) : Cl P w K mg base (k + 1) x sp := by
  obtain ⟨f, fd, F, m, G⟩ := D.fn (P := P) (w := w) (base := base) S len hbody
  exact ⟨f, fd, ps, G, m, F.kp, F.binds hb⟩
/-- .. and by keywords -/
theorem Df.clK {ks : List Str} {g : List Value → List Value → List Value} {gV : List V → List V → List V} (D : Df K mg x st) (S : FnScope N ps (defScope st))
    (hb : ∀ (kV doc pm : Value) (an : Option Addr) (cdv ct : Value) (us ws : List Value), (g us ws).length = ps.length → bindArgs (PySem.W.fnOf x x (defArgs st) (defBody st) (defScope st) .none kV doc pm an cdv ct) ⟨us, ks.zip ws⟩ = pure (ps.zip (g us ws)))
    (hr : ∀ {vs : List V} {us : List Value} {zs : List V} {ws : List Value}, Vals vs us → Vals zs ws → Vals (gV vs zs) (g us ws))
    (len : ∀ vs H Q E, sp vs H Q E → vs.length = ps.length) (hbody : Body P w K mg base x st N k sp) : ClK P w K mg base (k + 1) x sp ks gV := by
  obtain ⟨f, fd, F, m, G⟩ := D.fn (P := P) (w := w) (base := base) S len hbody
  refine ⟨f, fd, ps, g, G, m, F.kp, ?_⟩
  obtain ⟨oc, od, kV, doc, pm, an, cdv, ct, osl, rfl, lk, hcd⟩ := F.ex
  exact ⟨fun s us ws _ hl => .of_eq (hb kV doc pm an cdv ct us ws hl), hr⟩
theorem len1 {P : V → Hp → VK → Prop} : ∀ vs H Q E, sp1 P vs H Q E → vs.length = 1 := fun _ _ _ _ h => by
  obtain ⟨a, rfl, _⟩ := h
  rfl
theorem len2 {P : V → V → Hp → VK → Prop} : ∀ vs H Q E, sp2 P vs H Q E → vs.length = 2 := fun _ _ _ _ h => by
  obtain ⟨a, b, rfl, _⟩ := h
  rfl
theorem len3 {P : V → V → V → Hp → VK → Prop} : ∀ vs H Q E, sp3 P vs H Q E → vs.length = 3 := fun _ _ _ _ h => by
  obtain ⟨a, b, c, rfl, _⟩ := h
  rfl
theorem len4 {P : V → V → V → V → Hp → VK → Prop} : ∀ vs H Q E, sp4 P vs H Q E → vs.length = 4 := fun _ _ _ _ h => by
  obtain ⟨a, b, c, d, rfl, _⟩ := h
  rfl
theorem len5 {P : V → V → V → V → V → Hp → VK → Prop} : ∀ vs H Q E, sp5 P vs H Q E → vs.length = 5 := fun _ _ _ _ h => by
  obtain ⟨a, b, c, d, e, rfl, _⟩ := h
  rfl
end
section
variable {X : Cx} {k j : Nat} {x : Str} {sp : Sp} {p pos : Pos} {e : Expr} {es : List Expr} {t tk : TA} {kws : List Keyword} {ks : List Str} {gV : List V → List V → List V}
/-- f(e, ..) -/
theorem pe_cl (c : Cl X.prog X.w X.K X.mg X.base k x sp) (hr : Room j X.A) (hk : k ≤ j) (hg : Gl X x) (ha : PA X (e :: es) t)
    (hdb : (x == ("__debug__" : Str)) = false := by decide) (he : starEach (e :: es) X.env = (false, eval e X.env) :: starEach es X.env := by rfl) (hpl : (backTo pos (starEach es X.env)).any (·.1) = false := by rfl) :
    PE X (.Call (.Name x p) (e :: es) [] pos) (tCall sp [] E0 t) := by
  obtain ⟨f, fd, ps, F, hm, kp, b⟩ := c.ex
  exact pe_call F (hr.mono hk) hg hm kp b .nil pass0 ha hdb he hpl
theorem pe_clK (c : ClK X.prog X.w X.K X.mg X.base k x sp ks gV) (hr : Room j X.A) (hk : k ≤ j) (hg : Gl X x) (hkw : PK X kws tk) (hall : (backToKw pos (keywordEach kws X.env)).all (·.1.isSome) = true := by rfl)
    (hks : (backToKw pos (keywordEach kws X.env)).filterMap (·.1) = ks := by rfl) (hdb : (x == ("__debug__" : Str)) = false := by decide)
    (hpl : ((backTo pos (starEach [] X.env)).any (·.1) || (backToKw pos (keywordEach kws X.env)).any (·.1.isNone)) = false := by rfl) : PE X (.Call (.Name x p) [] kws pos) (tCallK sp gV E0 tNil tk) := by
  obtain ⟨f, fd, ps, g, F, hm, kp, b⟩ := c.ex
  exact LD.pe_callK0 F (hr.mono hk) hg hm kp b pass0 hkw hall hks hdb hpl
end
end LW

set_option maxRecDepth 100000
/-! LE: dicts as association lists; loops and comprehensions over any iterator; locks. -/
namespace LW
open PySem PySem.Spec PyProof.Rows L2 LM

/-! ### a dict told by an association list -/
section
variable {κ κ' β : Type} [DecidableEq κ] [DecidableEq κ']
def encD (e : κ → κ') (f : β → V) (l : List (κ × β)) : List (κ' × V) := l.map fun p => (e p.1, f p.2)
theorem valV_enc {e : κ → κ'} {f : β → V} (inj : ∀ a b, e a = e b → a = b) (l : List (κ × β)) (k : κ) : valV (encD e f l) (e k) = (look l k).map f := by
  induction l with
  | nil => rfl
  | cons p l ih =>
    rw [look_cons]
    by_cases h : p.1 = k
    · rw [if_pos h]
      exact valV_pos (p := (e p.1, f p.2)) (by rw [h])
    · rw [if_neg h]
      exact (valV_neg (p := (e p.1, f p.2)) (r := encD e f l) (fun z => h (inj _ _ z))).trans ih
theorem putK_enc {e : κ → κ'} {f : β → V} (inj : ∀ a b, e a = e b → a = b) (l : List (κ × β)) (k : κ) (v : β) : putK (encD e f l) (e k) (f v) = encD e f (put l k v) := by
  have h1 : ((encD e f l).any fun kv => decide (kv.1 = e k)) = l.any fun p => decide (p.1 = k) := by
    unfold encD
    rw [List.any_map]
    congr 1
    funext p
    show decide (e p.1 = e k) = decide (p.1 = k)
    by_cases h : p.1 = k
    · rw [decide_eq_true h, decide_eq_true (by rw [h])]
    · rw [decide_eq_false h, decide_eq_false fun z => h (inj _ _ z)]
  show (if ((encD e f l).any fun kv => decide (kv.1 = e k)) = true then (encD e f l).map (fun kv => if kv.1 = e k then (kv.1, f v) else kv) else encD e f l ++ [(e k, f v)]) = encD e f (put l k v)
  rw [h1]
  unfold put
  by_cases h : (l.any fun p => decide (p.1 = k)) = true
  · rw [if_pos h, if_pos h]
    unfold encD
    rw [List.map_map, List.map_map]
    apply List.map_congr_left
    intro p _
    show (if e p.1 = e k then (e p.1, f v) else (e p.1, f p.2)) = _
    by_cases h2 : p.1 = k
    · simp [h2]
    · have : ¬ e p.1 = e k := fun z => h2 (inj _ _ z)
      simp [h2, this]
  · rw [if_neg h, if_neg h]
    unfold encD
    rw [List.map_append]
    rfl
theorem keys_enc (e : κ → κ') (f : β → V) (l : List (κ × β)) : (encD e f l).map (·.1) = (keys l).map e := by
  unfold encD keys
  rw [List.map_map, List.map_map]
  rfl
theorem len_enc (e : κ → κ') (f : β → V) (l : List (κ × β)) : (encD e f l).length = l.length := List.length_map _
end
def kI : Int → Key := Sum.inl
theorem kI_inj (a b : Int) (h : kI a = kI b) : a = b := Sum.inl.inj h
theorem pK_inj (a b : Int × Int) (h : LS.pK a = LS.pK b) : a = b := by
  obtain ⟨a1, a2⟩ := a
  obtain ⟨b1, b2⟩ := b
  unfold LS.pK at h
  have h1 : a1 = b1 := Sum.inl.inj (List.cons.inj h).1
  have h2 : a2 = b2 := Sum.inl.inj (List.cons.inj (List.cons.inj h).2).1
  rw [h1, h2]
/-- ints to ints; pairs to ints; ints to True -/
abbrev encI (l : List (Int × Int)) : List (Key × V) := encD kI V.int l
abbrev encP (l : List ((Int × Int) × Int)) : List (List Key × V) := encD LS.pK V.int l
abbrev encB (l : List (Int × Bool)) : List (Key × V) := encD kI V.bl l
abbrev encPB (l : List ((Int × Int) × Bool)) : List (List Key × V) := encD LS.pK V.bl l

section
variable {K : PySem.W.Frag} {σ : L2.St} {H H' H1 : Hp} {D : Ends} {Q : VK} {QT : Bool → Hp → Prop} {v x y z : V} {t u : TS} {ta tb te tc : TE} {g : TG} {aa : TA} {a b p q : Addr} {xs ys : List V} {o w : HO}
/-! ### dicts asked, stored -/
theorem rd_of_eq {u : HO} (h : H a = some u) : Rd H a u := .inl h
theorem rd_frz {u : HO} {od : Obj} (h : H a = some (.frz od u)) : Rd H a u := .inr ⟨od, h⟩
theorem isD_K {kvs : List (Key × V)} (h : Rd H a (.dK kvs)) : IsD H a := .inl ⟨kvs, h⟩
theorem isD_T {kvs : List (List Key × V)} (h : Rd H a (.dT kvs)) : IsD H a := .inr ⟨kvs, h⟩
theorem q_isD {R : Addr → Prop} (h : IsD H a) (r : R a) : ∃ a', V.ref a = .ref a' ∧ IsD H a' ∧ R a' := ⟨a, rfl, h, r⟩
/-- d[n] -/
theorem q_getI {kvs : List (Key × V)} {n : Int} {R : V → Prop} (hr : Rd H a (.dK kvs)) (he : valV kvs (kI n) = some v) (h : R v) : ∃ a' v', V.ref a = .ref a' ∧ DGet H a' (.int n) (some v') ∧ R v' :=
  ⟨a, v, rfl, .inl ⟨kvs, kI n, hr, rfl, he.symm⟩, h⟩
theorem q_getP {kvs : List (List Key × V)} {k : List Key} {R : V → Prop} (hr : Rd H a (.dT kvs)) (hb : H b = some (.tup (k.map kV))) (he : valV kvs k = some v) (h : R v) : ∃ a' v', V.ref a = .ref a' ∧ DGet H a' (.ref b) (some v') ∧ R v' :=
  ⟨a, v, rfl, .inr ⟨kvs, k, b, hr, rfl, hb, he.symm⟩, h⟩
/-- d.get(n, z) behind its parts -/
theorem q_get2I {kvs : List (Key × V)} {n : Int} {R : Option V → Prop} (hr : Rd H a (.dK kvs)) (h : R (valV kvs (kI n))) : ∃ o, DGet H a (.int n) o ∧ R o := ⟨_, .inl ⟨kvs, kI n, hr, rfl, rfl⟩, h⟩
theorem q_get2P {kvs : List (List Key × V)} {k : List Key} {R : Option V → Prop} (hr : Rd H a (.dT kvs)) (hb : H b = some (.tup (k.map kV))) (h : R (valV kvs k)) : ∃ o, DGet H a (.ref b) o ∧ R o := ⟨_, .inr ⟨kvs, k, b, hr, rfl, hb, rfl⟩, h⟩
/-- n in d -/
theorem q_inI {kvs : List (Key × V)} {n : Int} {R : Option V → Prop} (hr : Rd H a (.dK kvs)) (h : R (valV kvs (kI n))) : ∃ a' o, V.ref a = .ref a' ∧ DGet H a' (.int n) o ∧ R o := ⟨a, _, rfl, .inl ⟨kvs, kI n, hr, rfl, rfl⟩, h⟩
theorem q_inP {kvs : List (List Key × V)} {k : List Key} {R : Option V → Prop} (hr : Rd H a (.dT kvs)) (hb : H b = some (.tup (k.map kV))) (h : R (valV kvs k)) : ∃ a' o, V.ref a = .ref a' ∧ DGet H a' (.ref b) o ∧ R o := ⟨a, _, rfl, .inr ⟨kvs, k, b, hr, rfl, hb, rfl⟩, h⟩
/-- d[n] = v behind its parts -/
theorem q_putI {kvs : List (Key × V)} {n : Int} {R : Hp → Prop} (hd : H a = some (.dK kvs)) (hz : kvs.length < sizeLine) (h : R (upd H a (.dK (putK kvs (kI n) v)))) : ∃ a' H4, V.ref a = .ref a' ∧ DPut H a' (.int n) v H4 ∧ R H4 :=
  ⟨a, _, rfl, .inl ⟨kvs, kI n, hd, rfl, hz, rfl⟩, h⟩
theorem q_putP {kvs : List (List Key × V)} {k : List Key} {R : Hp → Prop} (hd : H a = some (.dT kvs)) (hb : H b = some (.tup (k.map kV))) (hz : kvs.length < sizeLine) (h : R (upd H a (.dT (putK kvs k v)))) : ∃ a' H4, V.ref a = .ref a' ∧ DPut H a' (.ref b) v H4 ∧ R H4 :=
  ⟨a, _, rfl, .inr ⟨kvs, k, b, hd, rfl, hb, hz, rfl⟩, h⟩
theorem upd_id (h : H a = some o) : upd H a o = H := by
  funext c
  unfold upd
  by_cases e : c = a
  · rw [if_pos e, e, h]
  · rw [if_neg e]
theorem r_fresh {R : Addr → Prop} (h : ∀ p, H p = none → R p) : ∀ p, H p = none → R p := h
/-! ### the same over association lists -/
section
variable {β : Type} {f : β → V} {li : List (Int × β)} {lp : List ((Int × Int) × β)} {n : Int} {m : β} {k : Int × Int}
theorem k_get {R : V → Prop} (hr : Rd H a (.dK (encD kI f li))) (he : look li n = some m) (h : R (f m)) : ∃ a' v', V.ref a = .ref a' ∧ DGet H a' (.int n) (some v') ∧ R v' :=
  q_getI hr (by rw [valV_enc kI_inj, he]; rfl) h
theorem k_get2 {R : Option V → Prop} (hr : Rd H a (.dK (encD kI f li))) (h : R ((look li n).map f)) : ∃ o, DGet H a (.int n) o ∧ R o :=
  q_get2I hr (by rw [valV_enc kI_inj]; exact h)
theorem k_in {R : Option V → Prop} (hr : Rd H a (.dK (encD kI f li))) (h : R ((look li n).map f)) : ∃ a' o, V.ref a = .ref a' ∧ DGet H a' (.int n) o ∧ R o :=
  q_inI hr (by rw [valV_enc kI_inj]; exact h)
theorem getD_map {α : Type} (f : α → V) (o : Option α) (d : α) : (o.map f).getD (f d) = f (o.getD d) := by
  cases o with
  | none => rfl
  | some m => rfl
theorem k_put {R : Hp → Prop} (hd : H a = some (.dK (encD kI f li))) (hz : li.length < sizeLine) (h : R (upd H a (.dK (encD kI f (put li n m))))) : ∃ a' H4, V.ref a = .ref a' ∧ DPut H a' (.int n) (f m) H4 ∧ R H4 :=
  q_putI hd (by rw [len_enc]; exact hz) (by rw [putK_enc kI_inj]; exact h)
theorem p_get {R : V → Prop} (hr : Rd H a (.dT (encD LS.pK f lp))) (hb : LS.AtP H b k) (he : look lp k = some m) (h : R (f m)) : ∃ a' v', V.ref a = .ref a' ∧ DGet H a' (.ref b) (some v') ∧ R v' :=
  q_getP hr (k := LS.pK k) hb (by rw [valV_enc pK_inj, he]; rfl) h
theorem p_get2 {R : Option V → Prop} (hr : Rd H a (.dT (encD LS.pK f lp))) (hb : LS.AtP H b k) (h : R ((look lp k).map f)) : ∃ o, DGet H a (.ref b) o ∧ R o :=
  q_get2P hr (k := LS.pK k) hb (by rw [valV_enc pK_inj]; exact h)
theorem p_in {R : Option V → Prop} (hr : Rd H a (.dT (encD LS.pK f lp))) (hb : LS.AtP H b k) (h : R ((look lp k).map f)) : ∃ a' o, V.ref a = .ref a' ∧ DGet H a' (.ref b) o ∧ R o :=
  q_inP hr (k := LS.pK k) hb (by rw [valV_enc pK_inj]; exact h)
theorem p_put {R : Hp → Prop} (hd : H a = some (.dT (encD LS.pK f lp))) (hb : LS.AtP H b k) (hz : lp.length < sizeLine) (h : R (upd H a (.dT (encD LS.pK f (put lp k m))))) : ∃ a' H4, V.ref a = .ref a' ∧ DPut H a' (.ref b) (f m) H4 ∧ R H4 :=
  q_putP hd (k := LS.pK k) hb (by rw [len_enc]; exact hz) (by rw [putK_enc pK_inj]; exact h)
end
/-- t[1:] of a tuple -/
theorem r_tail (hs : SqT K H a xs) (h : ∀ b H', Same H H' → SqT K H' b (xs.drop 1) → Q (.ref b) H') : rSlA K (.ref a) (some 1) none H Q := by
  have e : HT.sIx xs.length 0 (some 1) = min 1 xs.length := HT.sIx_nat xs.length 0 1
  have e2 : HT.sIx xs.length xs.length none = xs.length := HT.sIx_none xs.length xs.length
  refine ⟨a, xs, rfl, hs, fun hh => h a H (Same.refl H) ?_, fun hh p hp => h p _ (L2.Same.new hp) (SqT.of ?_)⟩
  · rw [e] at hh
    have : xs = [] := List.length_eq_zero_iff.mp (by omega)
    subst this
    exact hs
  · rw [upd_same]
    congr 2
    unfold cutV
    rw [e, e2]
    cases xs with
    | nil => rfl
    | cons x r =>
      rw [show min 1 (x :: r).length = 1 by rw [List.length_cons]; omega]
      show List.take ((x :: r).length - 1) r = r
      rw [List.length_cons, Nat.add_sub_cancel]
      exact List.take_length
/-! ### what is walked -/
theorem s_for {wi : TI} (h : wi σ H fun J H1 => ∃ W : Nat → Nat → L2.St → Hp → Prop, (∃ m, W 0 m σ H1) ∧ ∀ i m σ H, W i m σ H →
    (J.stop i H ∧ D.nx σ H) ∨ (J.go i H ∧ ∃ N : L2.St → Hp → Prop, (∀ σ' H', N σ' H' → ∃ m', m' < m ∧ W (i + 1) m' σ' H') ∧ ∀ x H', J.yld i H x H' → g x σ H' fun σ2 H2 => t { D with nx := N, ct := N, bk := D.nx } σ2 H2)) : tFor wi g t D σ H := h
theorem i_list {R : It → Hp → Prop} (h : ta σ H fun x H1 => ∃ a, x = .ref a ∧ (∃ xs, SqL K H1 a xs) ∧ R (Itl K a) H1) : iList K ta σ H R := h
theorem i_tup {R : It → Hp → Prop} (h : ta σ H fun x H1 => ∃ a, x = .ref a ∧ (∃ xs, SqT K H1 a xs) ∧ R (Itt K a) H1) : iTup K ta σ H R := h
theorem i_listE {R : Prop} (hs : SqL K H a xs) (h : R) : (∃ xs, SqL K H a xs) ∧ R := ⟨⟨xs, hs⟩, h⟩
theorem i_tupE {R : Prop} (hs : SqT K H a xs) (h : R) : (∃ xs, SqT K H a xs) ∧ R := ⟨⟨xs, hs⟩, h⟩
theorem q_ref {R : Addr → Prop} (h : R a) : ∃ a', V.ref a = .ref a' ∧ R a' := ⟨a, rfl, h⟩
theorem i_rng1 {R : It → Hp → Prop} (h : aa σ H fun vs H1 => ∃ j : Int, vs = [.int j] ∧ -(2 ^ 62) ≤ j ∧ j < 2 ^ 62 ∧ R (Itr 0 j.toNat) H1) : iRng1 aa σ H R := h
theorem i_rng1E {n : Int} {R : Int → Prop} (h1 : -(2 ^ 62) ≤ n) (h2 : n < 2 ^ 62) (h : R n) : ∃ j : Int, [V.int n] = [.int j] ∧ -(2 ^ 62) ≤ j ∧ j < 2 ^ 62 ∧ R j := ⟨n, rfl, h1, h2, h⟩
theorem i_rng2 {R : It → Hp → Prop} (h : aa σ H fun vs H1 => ∃ i j : Int, vs = [.int i, .int j] ∧ (-(2 ^ 62) ≤ i ∧ i < 2 ^ 62 ∧ -(2 ^ 62) ≤ j ∧ j < 2 ^ 62) ∧ R (Itr i (j - i).toNat) H1) : iRng2 aa σ H R := h
theorem i_rng2E {m n : Int} {R : Int → Int → Prop} (h1 : -(2 ^ 62) ≤ m ∧ m < 2 ^ 62 ∧ -(2 ^ 62) ≤ n ∧ n < 2 ^ 62) (h : R m n) :
    ∃ i j : Int, [V.int m, V.int n] = [.int i, .int j] ∧ (-(2 ^ 62) ≤ i ∧ i < 2 ^ 62 ∧ -(2 ^ 62) ≤ j ∧ j < 2 ^ 62) ∧ R i j := ⟨m, n, rfl, h1, h⟩
theorem i_keys {R : It → Hp → Prop} (h : ta σ H fun x H1 => ∃ d o, x = .ref d ∧ ((∃ kvs, H1 d = some (.frz o (.dK kvs)) ∧ R (Itk d o kvs) H1) ∨ ∃ kvs, H1 d = some (.frz o (.dT kvs)) ∧ R (Itkt d o kvs) H1)) : iKeys ta σ H R := h
theorem i_keysK {od : Obj} {kvs : List (Key × V)} {R : Addr → Obj → List (Key × V) → Prop} {R' : Addr → Obj → List (List Key × V) → Prop} (hd : H a = some (.frz od (.dK kvs))) (h : R a od kvs) :
    ∃ d o, V.ref a = .ref d ∧ ((∃ kvs, H d = some (.frz o (.dK kvs)) ∧ R d o kvs) ∨ ∃ kvs, H d = some (.frz o (.dT kvs)) ∧ R' d o kvs) := ⟨a, od, rfl, .inl ⟨kvs, hd, h⟩⟩
theorem i_keysT {od : Obj} {kvs : List (List Key × V)} {R : Addr → Obj → List (Key × V) → Prop} {R' : Addr → Obj → List (List Key × V) → Prop} (hd : H a = some (.frz od (.dT kvs))) (h : R' a od kvs) :
    ∃ d o, V.ref a = .ref d ∧ ((∃ kvs, H d = some (.frz o (.dK kvs)) ∧ R d o kvs) ∨ ∃ kvs, H d = some (.frz o (.dT kvs)) ∧ R' d o kvs) := ⟨a, od, rfl, .inr ⟨kvs, hd, h⟩⟩
theorem i_items {R : It → Hp → Prop} (h : ta σ H fun x H1 => ∃ d o kvs, x = .ref d ∧ H1 d = some (.frz o (.dK kvs)) ∧ R (Iti d o kvs) H1) : iItems ta σ H R := h
theorem i_itemsE {od : Obj} {kvs : List (Key × V)} {R : Addr → Obj → List (Key × V) → Prop} (hd : H a = some (.frz od (.dK kvs))) (h : R a od kvs) : ∃ d o kvs, V.ref a = .ref d ∧ H d = some (.frz o (.dK kvs)) ∧ R d o kvs := ⟨a, od, kvs, rfl, hd, h⟩
theorem i_zip2 {k1 k2 : Bool} {R : It → Hp → Prop} (h : aa σ H fun vs H1 => ∃ a b xs ys, vs = [.ref a, .ref b] ∧ LR.SqA k1 K H1 a xs ∧ LR.SqA k2 K H1 b ys ∧ R (LR.Itz2 k1 k2 K a b) H1) : LR.iZip2 k1 k2 K aa σ H R := h
theorem i_zip2E {k1 k2 : Bool} {R : Addr → Addr → Prop} (h1 : LR.SqA k1 K H a xs) (h2 : LR.SqA k2 K H b ys) (h : R a b) : ∃ a' b' xs ys, [V.ref a, V.ref b] = [.ref a', .ref b'] ∧ LR.SqA k1 K H a' xs ∧ LR.SqA k2 K H b' ys ∧ R a' b' :=
  ⟨a, b, xs, ys, rfl, h1, h2, h⟩
theorem i_enum2 {k : Bool} {R : It → Hp → Prop} (h : aa σ H fun vs H1 => ∃ a xs, vs = [.ref a] ∧ LR.SqA k K H1 a xs ∧ R (LR.Ite2 k K a) H1) : LR.iEnum2 k K aa σ H R := h
theorem i_enum2E {k : Bool} {R : Addr → Prop} (h1 : LR.SqA k K H a xs) (h : R a) : ∃ a' xs, [V.ref a] = [.ref a'] ∧ LR.SqA k K H a' xs ∧ R a' := ⟨a, xs, rfl, h1, h⟩
/-! ### locks -/
theorem s_lock {u' : HO} (hd : H a = some u') (mu : Mut (some u')) (h : ∀ od, t ⟨fun σ' H' => H' a = some (.frz od u') ∧ D.nx σ' (upd H' a u'), fun v H' => H' a = some (.frz od u') ∧ D.rt v (upd H' a u'), fun σ' H' => H' a = some (.frz od u') ∧ D.bk σ' (upd H' a u'), fun σ' H' => H' a = some (.frz od u') ∧ D.ct σ' (upd H' a u')⟩ σ (upd H a (.frz od u'))) : tLock t D σ H :=
  ⟨a, u', hd, mu, h⟩
theorem e_lock {u' : HO} (hd : H a = some u') (mu : Mut (some u')) (h : ∀ od, te σ (upd H a (.frz od u')) fun v H' => H' a = some (.frz od u') ∧ Q v (upd H' a u')) : tLockE te σ H Q := ⟨a, u', hd, mu, h⟩
end

/-! ### loops by the number of their turns -/
theorem for_gen {J : It} {g : TG} {tb : TS} {D : Ends} {σ : L2.St} {H : Hp} (n : Nat) (Pv : Nat → L2.St → Hp → Prop) (h0 : Pv 0 σ H) (hgo : ∀ i σ H, i < n → Pv i σ H → J.go i H) (hst : ∀ σ H, Pv n σ H → J.stop n H)
    (hs : ∀ i σ H x H', i < n → Pv i σ H → J.yld i H x H' → g x σ H' fun σ2 H2 => tb { D with nx := Pv (i + 1), ct := Pv (i + 1), bk := D.nx } σ2 H2) (hd : ∀ σ H, Pv n σ H → D.nx σ H) :
    ∃ W : Nat → Nat → L2.St → Hp → Prop, (∃ m, W 0 m σ H) ∧ ∀ i m σ H, W i m σ H →
      (J.stop i H ∧ D.nx σ H) ∨ (J.go i H ∧ ∃ N : L2.St → Hp → Prop, (∀ σ' H', N σ' H' → ∃ m', m' < m ∧ W (i + 1) m' σ' H') ∧ ∀ x H', J.yld i H x H' → g x σ H' fun σ2 H2 => tb { D with nx := N, ct := N, bk := D.nx } σ2 H2) := by
  refine ⟨fun i m σ H => m = n - i ∧ i ≤ n ∧ Pv i σ H, ⟨n, rfl, Nat.zero_le _, h0⟩, fun i m σ H hW => ?_⟩
  obtain ⟨rfl, hi, p⟩ := hW
  by_cases hlt : i < n
  · exact .inr ⟨hgo i σ H hlt p, Pv (i + 1), fun σ' H' p' => ⟨n - (i + 1), by omega, rfl, hlt, p'⟩, fun x H' y => hs i σ H x H' hlt p y⟩
  · have e : i = n := by omega
    subst e
    exact .inl ⟨hst σ H p, hd σ H p⟩
theorem lc_gen {J : It} {g : TG} {tt : TT} {te : TE} {vs : List Nat} {σ : L2.St} {H1 : Hp} {D : Addr} {Qd : Hp → Prop} (n : Nat) (Pv : Nat → Hp → Prop) (h0 : Pv 0 (upd H1 D (.lst []))) (hgo : ∀ i H, i < n → Pv i H → J.go i H) (hst : ∀ H, Pv n H → J.stop n H)
    (hs : ∀ i H x H', i < n → Pv i H → J.yld i H x H' → g x (wipe σ vs) H' fun σ2 H2 => wipe σ2 vs = wipe σ vs ∧ tt σ2 H2 fun b H3 =>
      if b = true then te σ2 H3 fun y H4 => ∃ acc, H4 D = some (.lst acc) ∧ acc.length < sizeLine ∧ Pv (i + 1) (upd H4 D (.lst (acc ++ [y]))) else Pv (i + 1) H3) (hd : ∀ H, Pv n H → Qd H) :
    ∃ W : Nat → Nat → Hp → Prop, (∃ m, W 0 m (upd H1 D (.lst []))) ∧ ∀ i m H, W i m H →
      (J.stop i H ∧ Qd H) ∨ (J.go i H ∧ ∃ Nx : Hp → Prop, (∀ H', Nx H' → ∃ m', m' < m ∧ W (i + 1) m' H') ∧ ∀ x H', J.yld i H x H' → g x (wipe σ vs) H' fun σ2 H2 => wipe σ2 vs = wipe σ vs ∧ tt σ2 H2 fun b H3 =>
        if b = true then te σ2 H3 fun y H4 => ∃ acc, H4 D = some (.lst acc) ∧ acc.length < sizeLine ∧ Nx (upd H4 D (.lst (acc ++ [y]))) else Nx H3) := by
  refine ⟨fun i m H => m = n - i ∧ i ≤ n ∧ Pv i H, ⟨n, rfl, Nat.zero_le _, h0⟩, fun i m H hW => ?_⟩
  obtain ⟨rfl, hi, p⟩ := hW
  by_cases hlt : i < n
  · exact .inr ⟨hgo i H hlt p, Pv (i + 1), fun H' p' => ⟨n - (i + 1), by omega, rfl, hlt, p'⟩, fun x H' y => hs i H x H' hlt p y⟩
  · have e : i = n := by omega
    subst e
    exact .inl ⟨hst H p, hd H p⟩
theorem dc_gen {J : It} {g : TG} {tt : TT} {tk tv : TE} {vs : List Nat} {σ : L2.St} {H1 : Hp} {D : Addr} {Qd : Hp → Prop} (n : Nat) (Pv : Nat → Hp → Prop) (h0 : Pv 0 (upd H1 D (.dK []))) (hgo : ∀ i H, i < n → Pv i H → J.go i H) (hst : ∀ H, Pv n H → J.stop n H)
    (hs : ∀ i H x H', i < n → Pv i H → J.yld i H x H' → g x (wipe σ vs) H' fun σ2 H2 => wipe σ2 vs = wipe σ vs ∧ tt σ2 H2 fun b H3 =>
      if b = true then tk σ2 H3 fun y H4 => tv σ2 H4 fun z H5 => ∃ kvs k, y = kV k ∧ H5 D = some (.dK kvs) ∧ kvs.length < sizeLine ∧ Pv (i + 1) (upd H5 D (.dK (putK kvs k z))) else Pv (i + 1) H3) (hd : ∀ H, Pv n H → Qd H) :
    ∃ W : Nat → Nat → Hp → Prop, (∃ m, W 0 m (upd H1 D (.dK []))) ∧ ∀ i m H, W i m H →
      (J.stop i H ∧ Qd H) ∨ (J.go i H ∧ ∃ Nx : Hp → Prop, (∀ H', Nx H' → ∃ m', m' < m ∧ W (i + 1) m' H') ∧ ∀ x H', J.yld i H x H' → g x (wipe σ vs) H' fun σ2 H2 => wipe σ2 vs = wipe σ vs ∧ tt σ2 H2 fun b H3 =>
        if b = true then tk σ2 H3 fun y H4 => tv σ2 H4 fun z H5 => ∃ kvs k, y = kV k ∧ H5 D = some (.dK kvs) ∧ kvs.length < sizeLine ∧ Nx (upd H5 D (.dK (putK kvs k z))) else Nx H3) := by
  refine ⟨fun i m H => m = n - i ∧ i ≤ n ∧ Pv i H, ⟨n, rfl, Nat.zero_le _, h0⟩, fun i m H hW => ?_⟩
  obtain ⟨rfl, hi, p⟩ := hW
  by_cases hlt : i < n
  · exact .inr ⟨hgo i H hlt p, Pv (i + 1), fun H' p' => ⟨n - (i + 1), by omega, rfl, hlt, p'⟩, fun x H' y => hs i H x H' hlt p y⟩
  · have e : i = n := by omega
    subst e
    exact .inl ⟨hst H p, hd H p⟩
theorem dcT_gen {J : It} {g : TG} {tt : TT} {tk tv : TE} {vs : List Nat} {σ : L2.St} {H1 : Hp} {D : Addr} {Qd : Hp → Prop} (n : Nat) (Pv : Nat → Hp → Prop) (h0 : Pv 0 (upd H1 D (.dT []))) (hgo : ∀ i H, i < n → Pv i H → J.go i H) (hst : ∀ H, Pv n H → J.stop n H)
    (hs : ∀ i H x H', i < n → Pv i H → J.yld i H x H' → g x (wipe σ vs) H' fun σ2 H2 => wipe σ2 vs = wipe σ vs ∧ tt σ2 H2 fun b H3 =>
      if b = true then tk σ2 H3 fun y H4 => tv σ2 H4 fun z H5 => ∃ kvs k b, y = .ref b ∧ H5 b = some (.tup (k.map kV)) ∧ H5 D = some (.dT kvs) ∧ kvs.length < sizeLine ∧ Pv (i + 1) (upd H5 D (.dT (putK kvs k z))) else Pv (i + 1) H3) (hd : ∀ H, Pv n H → Qd H) :
    ∃ W : Nat → Nat → Hp → Prop, (∃ m, W 0 m (upd H1 D (.dT []))) ∧ ∀ i m H, W i m H →
      (J.stop i H ∧ Qd H) ∨ (J.go i H ∧ ∃ Nx : Hp → Prop, (∀ H', Nx H' → ∃ m', m' < m ∧ W (i + 1) m' H') ∧ ∀ x H', J.yld i H x H' → g x (wipe σ vs) H' fun σ2 H2 => wipe σ2 vs = wipe σ vs ∧ tt σ2 H2 fun b H3 =>
        if b = true then tk σ2 H3 fun y H4 => tv σ2 H4 fun z H5 => ∃ kvs k b, y = .ref b ∧ H5 b = some (.tup (k.map kV)) ∧ H5 D = some (.dT kvs) ∧ kvs.length < sizeLine ∧ Nx (upd H5 D (.dT (putK kvs k z))) else Nx H3) := by
  refine ⟨fun i m H => m = n - i ∧ i ≤ n ∧ Pv i H, ⟨n, rfl, Nat.zero_le _, h0⟩, fun i m H hW => ?_⟩
  obtain ⟨rfl, hi, p⟩ := hW
  by_cases hlt : i < n
  · exact .inr ⟨hgo i H hlt p, Pv (i + 1), fun H' p' => ⟨n - (i + 1), by omega, rfl, hlt, p'⟩, fun x H' y => hs i H x H' hlt p y⟩
  · have e : i = n := by omega
    subst e
    exact .inl ⟨hst H p, hd H p⟩
/-! ### list comprehensions that make nothing but their list (and tuples on the way) -/
def given (f : Nat → Bool) (v : Nat → V) : Nat → List V
  | 0 => []
  | n + 1 => if f n = true then given f v n ++ [v n] else given f v n
theorem given_len (f : Nat → Bool) (v : Nat → V) : ∀ n, (given f v n).length ≤ n
  | 0 => Nat.le_refl _
  | n + 1 => by
    have h := given_len f v n
    unfold given
    split
    · rw [List.length_append, List.length_singleton]
      omega
    · omega
theorem given_filter {α : Type} (xs : List α) (P : α → Bool) (h : α → V) (f : Nat → Bool) (v : Nat → V) (hf : ∀ i x, xs[i]? = some x → f i = P x ∧ (P x = true → v i = h x)) : given f v xs.length = (xs.filter P).map h := by
  have : ∀ n, n ≤ xs.length → given f v n = ((xs.take n).filter P).map h := by
    intro n
    induction n with
    | zero => intro _; rfl
    | succ n ih =>
      intro hn
      have hx : xs[n]? = some xs[n] := List.getElem?_eq_getElem (by omega)
      obtain ⟨h1, h2⟩ := hf n _ hx
      rw [List.take_add_one, hx, List.filter_append, List.map_append, ← ih (by omega)]
      show (if f n = true then given f v n ++ [v n] else given f v n) = given f v n ++ List.map h (List.filter P [xs[n]])
      rw [h1]
      by_cases hp : P xs[n] = true
      · rw [if_pos hp, h2 hp, List.filter_cons_of_pos hp]
        rfl
      · rw [if_neg hp, List.filter_cons_of_neg hp]
        simp
  rw [this _ (Nat.le_refl _), List.take_length]
theorem lc_pure {J : It} {g : TG} {tt : TT} {te : TE} {vs : List Nat} {σ : L2.St} {H1 : Hp} {D : Addr} {Qd : Hp → Prop} (n : Nat) (f : Nat → Bool) (v : Nat → V) (hz : n ≤ 10000000) (hD : H1 D = none) (hgo : ∀ i H, i < n → Same H1 H → J.go i H) (hst : ∀ H, Same H1 H → J.stop n H)
    (hy : ∀ i H x H', J.yld i H x H' → Same H H')
    (hs : ∀ i H x H' (Rt : VK) (Rf : Hp → Prop), i < n → Same H1 H → J.yld i H x H' → (∀ H4, Same H' H4 → f i = true → Rt (v i) H4) → (∀ H4, Same H' H4 → f i = false → Rf H4) →
      g x (wipe σ vs) H' fun σ2 H2 => wipe σ2 vs = wipe σ vs ∧ tt σ2 H2 fun b H3 => if b = true then te σ2 H3 Rt else Rf H3)
    (hd : ∀ H, Same H1 H → H D = some (.lst (given f v n)) → Qd H) :
    ∃ W : Nat → Nat → Hp → Prop, (∃ m, W 0 m (upd H1 D (.lst []))) ∧ ∀ i m H, W i m H →
      (J.stop i H ∧ Qd H) ∨ (J.go i H ∧ ∃ Nx : Hp → Prop, (∀ H', Nx H' → ∃ m', m' < m ∧ W (i + 1) m' H') ∧ ∀ x H', J.yld i H x H' → g x (wipe σ vs) H' fun σ2 H2 => wipe σ2 vs = wipe σ vs ∧ tt σ2 H2 fun b H3 =>
        if b = true then te σ2 H3 fun y H4 => ∃ acc, H4 D = some (.lst acc) ∧ acc.length < sizeLine ∧ Nx (upd H4 D (.lst (acc ++ [y]))) else Nx H3) := by
  refine lc_gen n (fun i H => Same H1 H ∧ H D = some (.lst (given f v i))) ⟨L2.Same.new hD, upd_same⟩ (fun i H hi p => hgo i H hi p.1) (fun H p => hst H p.1) (fun i H x H' hi p y => ?_) (fun H p => hd H p.1 p.2)
  obtain ⟨p1, p2⟩ := p
  have sy := hy i H x H' y
  refine hs i H x H' _ _ hi p1 y (fun H4 s4 ef => ?_) (fun H4 s4 ef => ?_)
  · have e4 := s4 _ _ (sy _ _ p2)
    refine ⟨_, e4, ?_, L2.Same.mut (p1.trans (sy.trans s4)) hD, ?_⟩
    · have := given_len f v i
      rw [sizeLine_eq]
      omega
    · rw [upd_same]
      show _ = some (HO.lst (if f i = true then given f v i ++ [v i] else given f v i))
      rw [if_pos ef]
  · refine ⟨p1.trans (sy.trans s4), ?_⟩
    rw [s4 _ _ (sy _ _ p2)]
    show _ = some (HO.lst (if f i = true then given f v i ++ [v i] else given f v i))
    rw [if_neg (by rw [ef]; exact Bool.false_ne_true)]
end LW

set_option maxRecDepth 100000
/-! LF: loops and comprehensions by what is walked. -/
namespace LW
open PySem PySem.Spec PyProof.Rows L2 LM
/-- J walks n things wherever At holds; turn i gives x as told -/
structure Walks (J : It) (n : Nat) (At : Hp → Prop) (Item : Nat → Hp → V → Hp → Prop) : Prop where
  go : ∀ i H, i < n → At H → J.go i H
  stop : ∀ H, At H → J.stop n H
  yld : ∀ i H x H', i < n → At H → J.yld i H x H' → Item i H x H'
section
variable {K : PySem.W.Frag} {a b : Addr} {xs ys : List V} {n : Nat} {lo : Int} {od : Obj}
theorem get_of {α : Type} {xs : List α} {i : Nat} (h : i < xs.length) : ∃ x, xs[i]? = some x := ⟨xs[i], List.getElem?_eq_getElem h⟩
theorem w_list : Walks (Itl K a) xs.length (fun H => SqL K H a xs) fun i H x H' => H' = H ∧ xs[i]? = some x where
  go i H hi h := by
    obtain ⟨x, e⟩ := get_of hi
    exact ⟨xs, x, h, e⟩
  stop H h := ⟨xs, h, Nat.le_refl _⟩
  yld i H x H' hi h y := ⟨y.1, y.2 xs h⟩
theorem w_tup : Walks (Itt K a) xs.length (fun H => SqT K H a xs) fun i H x H' => H' = H ∧ xs[i]? = some x where
  go i H hi h := by
    obtain ⟨x, e⟩ := get_of hi
    exact ⟨xs, x, h, e⟩
  stop H h := ⟨xs, h, Nat.le_refl _⟩
  yld i H x H' hi h y := ⟨y.1, y.2 xs h⟩
theorem w_rng : Walks (Itr lo n) n (fun _ => True) fun i H x H' => H' = H ∧ x = .int (lo + (i : Nat)) where
  go i H hi h := hi
  stop H h := Nat.le_refl _
  yld i H x H' hi h y := y
theorem w_keys {kvs : List (Key × V)} : Walks (Itk a od kvs) kvs.length (fun H => H a = some (.frz od (.dK kvs))) fun i H x H' => H' = H ∧ ∃ k v, kvs[i]? = some (k, v) ∧ x = kV k where
  go i H hi h := ⟨h, hi⟩
  stop H h := ⟨h, Nat.le_refl _⟩
  yld i H x H' hi h y := y
theorem w_keysT {kvs : List (List Key × V)} : Walks (Itkt a od kvs) kvs.length (fun H => H a = some (.frz od (.dT kvs))) fun i H x H' => H' = H ∧ ∃ (k : List Key) (v : V) (q : Addr), kvs[i]? = some (k, v) ∧ x = .ref q ∧ H q = some (.tup (k.map kV)) where
  go i H hi h := ⟨h, hi⟩
  stop H h := ⟨h, Nat.le_refl _⟩
  yld i H x H' hi h y := y
theorem w_items {kvs : List (Key × V)} : Walks (Iti a od kvs) kvs.length (fun H => H a = some (.frz od (.dK kvs))) fun i H x H' => ∃ T k v, kvs[i]? = some (k, v) ∧ x = .ref T ∧ H T = none ∧ H' = upd H T (.tup [kV k, v]) where
  go i H hi h := ⟨h, hi⟩
  stop H h := ⟨h, Nat.le_refl _⟩
  yld i H x H' hi h y := y
theorem w_zip2 {k1 k2 : Bool} : Walks (LR.Itz2 k1 k2 K a b) (min xs.length ys.length) (fun H => LR.SqA k1 K H a xs ∧ LR.SqA k2 K H b ys) fun i H x H' => ∃ T u v, x = .ref T ∧ H T = none ∧ H' = upd H T (.tup [u, v]) ∧ xs[i]? = some u ∧ ys[i]? = some v where
  go i H hi h := by
    obtain ⟨x, e⟩ := get_of (xs := xs) (i := i) (by omega)
    obtain ⟨y, f⟩ := get_of (xs := ys) (i := i) (by omega)
    exact ⟨_, _, _, _, h.1, h.2, e, f⟩
  stop H h := ⟨_, _, h.1, h.2, rfl⟩
  yld i H x H' hi h y := by
    obtain ⟨T, u, v, rfl, hT, rfl, hu, hv⟩ := y
    exact ⟨T, u, v, rfl, hT, rfl, hu _ h.1, hv _ h.2⟩
theorem w_enum2 {k : Bool} : Walks (LR.Ite2 k K a) xs.length (fun H => LR.SqA k K H a xs) fun i H x H' => ∃ T u, x = .ref T ∧ H T = none ∧ H' = upd H T (.tup [.int (i : Nat), u]) ∧ xs[i]? = some u where
  go i H hi h := by
    obtain ⟨x, e⟩ := get_of hi
    exact ⟨_, _, h, e⟩
  stop H h := ⟨_, h, rfl⟩
  yld i H x H' hi h y := by
    obtain ⟨T, u, rfl, hT, rfl, hu⟩ := y
    exact ⟨T, u, rfl, hT, rfl, hu _ h⟩
end
section
variable {J : It} {n : Nat} {At : Hp → Prop} {Item : Nat → Hp → V → Hp → Prop} {g : TG} {tb : TS} {D : Ends} {σ : L2.St} {H : Hp} {tt : TT} {te tk tv : TE} {vs : List Nat} {H1 : Hp} {d : Addr} {Qd : Hp → Prop}
theorem for_w (w : Walks J n At Item) (Pv : Nat → L2.St → Hp → Prop) (h0 : Pv 0 σ H) (hat : ∀ i σ H, i ≤ n → Pv i σ H → At H)
    (hs : ∀ i σ H x H', i < n → Pv i σ H → Item i H x H' → g x σ H' fun σ2 H2 => tb { D with nx := Pv (i + 1), ct := Pv (i + 1), bk := D.nx } σ2 H2) (hd : ∀ σ H, Pv n σ H → D.nx σ H) :
    ∃ W : Nat → Nat → L2.St → Hp → Prop, (∃ m, W 0 m σ H) ∧ ∀ i m σ H, W i m σ H →
      (J.stop i H ∧ D.nx σ H) ∨ (J.go i H ∧ ∃ N : L2.St → Hp → Prop, (∀ σ' H', N σ' H' → ∃ m', m' < m ∧ W (i + 1) m' σ' H') ∧ ∀ x H', J.yld i H x H' → g x σ H' fun σ2 H2 => tb { D with nx := N, ct := N, bk := D.nx } σ2 H2) :=
  for_gen n Pv h0 (fun i σ H hi p => w.go i H hi (hat i σ H (Nat.le_of_lt hi) p)) (fun σ H p => w.stop H (hat n σ H (Nat.le_refl _) p)) (fun i σ H x H' hi p y => hs i σ H x H' hi p (w.yld i H x H' hi (hat i σ H (Nat.le_of_lt hi) p) y)) hd
theorem lc_w (w : Walks J n At Item) (Pv : Nat → Hp → Prop) (h0 : Pv 0 (upd H1 d (.lst []))) (hat : ∀ i H, i ≤ n → Pv i H → At H)
    (hs : ∀ i H x H', i < n → Pv i H → Item i H x H' → g x (wipe σ vs) H' fun σ2 H2 => wipe σ2 vs = wipe σ vs ∧ tt σ2 H2 fun b H3 =>
      if b = true then te σ2 H3 fun y H4 => ∃ acc, H4 d = some (.lst acc) ∧ acc.length < sizeLine ∧ Pv (i + 1) (upd H4 d (.lst (acc ++ [y]))) else Pv (i + 1) H3) (hd : ∀ H, Pv n H → Qd H) :
    ∃ W : Nat → Nat → Hp → Prop, (∃ m, W 0 m (upd H1 d (.lst []))) ∧ ∀ i m H, W i m H →
      (J.stop i H ∧ Qd H) ∨ (J.go i H ∧ ∃ Nx : Hp → Prop, (∀ H', Nx H' → ∃ m', m' < m ∧ W (i + 1) m' H') ∧ ∀ x H', J.yld i H x H' → g x (wipe σ vs) H' fun σ2 H2 => wipe σ2 vs = wipe σ vs ∧ tt σ2 H2 fun b H3 =>
        if b = true then te σ2 H3 fun y H4 => ∃ acc, H4 d = some (.lst acc) ∧ acc.length < sizeLine ∧ Nx (upd H4 d (.lst (acc ++ [y]))) else Nx H3) :=
  lc_gen n Pv h0 (fun i H hi p => w.go i H hi (hat i H (Nat.le_of_lt hi) p)) (fun H p => w.stop H (hat n H (Nat.le_refl _) p)) (fun i H x H' hi p y => hs i H x H' hi p (w.yld i H x H' hi (hat i H (Nat.le_of_lt hi) p) y)) hd
theorem dc_w (w : Walks J n At Item) (Pv : Nat → Hp → Prop) (h0 : Pv 0 (upd H1 d (.dK []))) (hat : ∀ i H, i ≤ n → Pv i H → At H)
    (hs : ∀ i H x H', i < n → Pv i H → Item i H x H' → g x (wipe σ vs) H' fun σ2 H2 => wipe σ2 vs = wipe σ vs ∧ tt σ2 H2 fun b H3 =>
      if b = true then tk σ2 H3 fun y H4 => tv σ2 H4 fun z H5 => ∃ kvs k, y = kV k ∧ H5 d = some (.dK kvs) ∧ kvs.length < sizeLine ∧ Pv (i + 1) (upd H5 d (.dK (putK kvs k z))) else Pv (i + 1) H3) (hd : ∀ H, Pv n H → Qd H) :
    ∃ W : Nat → Nat → Hp → Prop, (∃ m, W 0 m (upd H1 d (.dK []))) ∧ ∀ i m H, W i m H →
      (J.stop i H ∧ Qd H) ∨ (J.go i H ∧ ∃ Nx : Hp → Prop, (∀ H', Nx H' → ∃ m', m' < m ∧ W (i + 1) m' H') ∧ ∀ x H', J.yld i H x H' → g x (wipe σ vs) H' fun σ2 H2 => wipe σ2 vs = wipe σ vs ∧ tt σ2 H2 fun b H3 =>
        if b = true then tk σ2 H3 fun y H4 => tv σ2 H4 fun z H5 => ∃ kvs k, y = kV k ∧ H5 d = some (.dK kvs) ∧ kvs.length < sizeLine ∧ Nx (upd H5 d (.dK (putK kvs k z))) else Nx H3) :=
  dc_gen n Pv h0 (fun i H hi p => w.go i H hi (hat i H (Nat.le_of_lt hi) p)) (fun H p => w.stop H (hat n H (Nat.le_refl _) p)) (fun i H x H' hi p y => hs i H x H' hi p (w.yld i H x H' hi (hat i H (Nat.le_of_lt hi) p) y)) hd
theorem dcT_w (w : Walks J n At Item) (Pv : Nat → Hp → Prop) (h0 : Pv 0 (upd H1 d (.dT []))) (hat : ∀ i H, i ≤ n → Pv i H → At H)
    (hs : ∀ i H x H', i < n → Pv i H → Item i H x H' → g x (wipe σ vs) H' fun σ2 H2 => wipe σ2 vs = wipe σ vs ∧ tt σ2 H2 fun b H3 =>
      if b = true then tk σ2 H3 fun y H4 => tv σ2 H4 fun z H5 => ∃ kvs k b, y = .ref b ∧ H5 b = some (.tup (k.map kV)) ∧ H5 d = some (.dT kvs) ∧ kvs.length < sizeLine ∧ Pv (i + 1) (upd H5 d (.dT (putK kvs k z))) else Pv (i + 1) H3) (hd : ∀ H, Pv n H → Qd H) :
    ∃ W : Nat → Nat → Hp → Prop, (∃ m, W 0 m (upd H1 d (.dT []))) ∧ ∀ i m H, W i m H →
      (J.stop i H ∧ Qd H) ∨ (J.go i H ∧ ∃ Nx : Hp → Prop, (∀ H', Nx H' → ∃ m', m' < m ∧ W (i + 1) m' H') ∧ ∀ x H', J.yld i H x H' → g x (wipe σ vs) H' fun σ2 H2 => wipe σ2 vs = wipe σ vs ∧ tt σ2 H2 fun b H3 =>
        if b = true then tk σ2 H3 fun y H4 => tv σ2 H4 fun z H5 => ∃ kvs k b, y = .ref b ∧ H5 b = some (.tup (k.map kV)) ∧ H5 d = some (.dT kvs) ∧ kvs.length < sizeLine ∧ Nx (upd H5 d (.dT (putK kvs k z))) else Nx H3) :=
  dcT_gen n Pv h0 (fun i H hi p => w.go i H hi (hat i H (Nat.le_of_lt hi) p)) (fun H p => w.stop H (hat n H (Nat.le_refl _) p)) (fun i H x H' hi p y => hs i H x H' hi p (w.yld i H x H' hi (hat i H (Nat.le_of_lt hi) p) y)) hd
/-- a list comprehension whose parts change nothing that was: At is kept by Same -/
theorem lcp_w (w : Walks J n At Item) (f : Nat → Bool) (v : Nat → V) (hz : n ≤ 10000000) (hD : H1 d = none) (hat : ∀ H, Same H1 H → At H)
    (hy : ∀ i H x H', Item i H x H' → Same H H')
    (hs : ∀ i H x H' (Rt : VK) (Rf : Hp → Prop), i < n → Same H1 H → Item i H x H' → (∀ H4, Same H' H4 → f i = true → Rt (v i) H4) → (∀ H4, Same H' H4 → f i = false → Rf H4) →
      g x (wipe σ vs) H' fun σ2 H2 => wipe σ2 vs = wipe σ vs ∧ tt σ2 H2 fun b H3 => if b = true then te σ2 H3 Rt else Rf H3)
    (hd : ∀ H, Same H1 H → H d = some (.lst (given f v n)) → Qd H) :
    ∃ W : Nat → Nat → Hp → Prop, (∃ m, W 0 m (upd H1 d (.lst []))) ∧ ∀ i m H, W i m H →
      (J.stop i H ∧ Qd H) ∨ (J.go i H ∧ ∃ Nx : Hp → Prop, (∀ H', Nx H' → ∃ m', m' < m ∧ W (i + 1) m' H') ∧ ∀ x H', J.yld i H x H' → g x (wipe σ vs) H' fun σ2 H2 => wipe σ2 vs = wipe σ vs ∧ tt σ2 H2 fun b H3 =>
        if b = true then te σ2 H3 fun y H4 => ∃ acc, H4 d = some (.lst acc) ∧ acc.length < sizeLine ∧ Nx (upd H4 d (.lst (acc ++ [y]))) else Nx H3) := by
  refine lc_w w (fun i H => Same H1 H ∧ H d = some (.lst (given f v i))) ⟨L2.Same.new hD, upd_same⟩ (fun i H _ p => hat H p.1) (fun i H x H' hi p y => ?_) (fun H p => hd H p.1 p.2)
  obtain ⟨p1, p2⟩ := p
  have sy := hy i H x H' y
  refine hs i H x H' _ _ hi p1 y (fun H4 s4 ef => ?_) (fun H4 s4 ef => ?_)
  · have e4 := s4 _ _ (sy _ _ p2)
    refine ⟨_, e4, ?_, L2.Same.mut (p1.trans (sy.trans s4)) hD, ?_⟩
    · have := given_len f v i
      rw [sizeLine_eq]
      omega
    · rw [upd_same]
      show _ = some (HO.lst (if f i = true then given f v i ++ [v i] else given f v i))
      rw [if_pos ef]
  · refine ⟨p1.trans (sy.trans s4), ?_⟩
    rw [s4 _ _ (sy _ _ p2)]
    show _ = some (HO.lst (if f i = true then given f v i ++ [v i] else given f v i))
    rw [if_neg (by rw [ef]; exact Bool.false_ne_true)]
end
section
variable {wi : TI} {g : TG} {tt : TT} {te tk tv : TE} {vs : List Nat} {σ : L2.St} {H : Hp} {Q : VK}
theorem e_lc (h : wi σ H fun J H1 => ∀ D, H1 D = none → ∃ W : Nat → Nat → Hp → Prop, (∃ m, W 0 m (upd H1 D (.lst []))) ∧ ∀ i m H, W i m H →
  (J.stop i H ∧ Q (.ref D) H) ∨ (J.go i H ∧ ∃ Nx : Hp → Prop, (∀ H', Nx H' → ∃ m', m' < m ∧ W (i + 1) m' H') ∧ ∀ x H', J.yld i H x H' → g x (wipe σ vs) H' fun σ2 H2 => wipe σ2 vs = wipe σ vs ∧ tt σ2 H2 fun b H3 =>
    if b = true then te σ2 H3 fun y H4 => ∃ acc, H4 D = some (.lst acc) ∧ acc.length < sizeLine ∧ Nx (upd H4 D (.lst (acc ++ [y]))) else Nx H3)) : tLc wi g tt te vs σ H Q := h
theorem e_dc (h : wi σ H fun J H1 => ∀ D, H1 D = none → ∃ W : Nat → Nat → Hp → Prop, (∃ m, W 0 m (upd H1 D (.dK []))) ∧ ∀ i m H, W i m H →
  (J.stop i H ∧ Q (.ref D) H) ∨ (J.go i H ∧ ∃ Nx : Hp → Prop, (∀ H', Nx H' → ∃ m', m' < m ∧ W (i + 1) m' H') ∧ ∀ x H', J.yld i H x H' → g x (wipe σ vs) H' fun σ2 H2 => wipe σ2 vs = wipe σ vs ∧ tt σ2 H2 fun b H3 =>
    if b = true then tk σ2 H3 fun y H4 => tv σ2 H4 fun z H5 => ∃ kvs k, y = kV k ∧ H5 D = some (.dK kvs) ∧ kvs.length < sizeLine ∧ Nx (upd H5 D (.dK (putK kvs k z))) else Nx H3)) : tDc wi g tt tk tv vs σ H Q := h
theorem e_dcT (h : wi σ H fun J H1 => ∀ D, H1 D = none → ∃ W : Nat → Nat → Hp → Prop, (∃ m, W 0 m (upd H1 D (.dT []))) ∧ ∀ i m H, W i m H →
  (J.stop i H ∧ Q (.ref D) H) ∨ (J.go i H ∧ ∃ Nx : Hp → Prop, (∀ H', Nx H' → ∃ m', m' < m ∧ W (i + 1) m' H') ∧ ∀ x H', J.yld i H x H' → g x (wipe σ vs) H' fun σ2 H2 => wipe σ2 vs = wipe σ vs ∧ tt σ2 H2 fun b H3 =>
    if b = true then tk σ2 H3 fun y H4 => tv σ2 H4 fun z H5 => ∃ kvs k b, y = .ref b ∧ H5 b = some (.tup (k.map kV)) ∧ H5 D = some (.dT kvs) ∧ kvs.length < sizeLine ∧ Nx (upd H5 D (.dT (putK kvs k z))) else Nx H3)) : LD.tDcT wi g tt tk tv vs σ H Q := h
theorem t_tyes {QT : Bool → Hp → Prop} (h : QT true H) : tYes σ H QT := h
theorem c_wipe {σ' : L2.St} {R : Prop} (e : wipe σ' vs = wipe σ vs) (h : R) : wipe σ' vs = wipe σ vs ∧ R := ⟨e, h⟩
theorem t_tt {A B : Prop} (h : A) : if true = true then A else B := by
  rw [if_pos rfl]
  exact h
theorem t_ff {A B : Prop} (h : B) : if false = true then A else B := by
  rw [if_neg Bool.false_ne_true]
  exact h
theorem q_dcput {H : Hp} {D : Addr} {β : Type} {f : β → V} {li : List (Int × β)} {n : Int} {m : β} {R : Hp → Prop} (hd : H D = some (.dK (encD kI f li))) (hz : li.length < sizeLine) (h : R (upd H D (.dK (encD kI f (put li n m))))) :
    ∃ kvs k, V.int n = kV k ∧ H D = some (.dK kvs) ∧ kvs.length < sizeLine ∧ R (upd H D (.dK (putK kvs k (f m)))) :=
  ⟨encD kI f li, kI n, rfl, hd, by rw [len_enc]; exact hz, by rw [putK_enc kI_inj]; exact h⟩
theorem q_dcputP {H : Hp} {D b : Addr} {β : Type} {f : β → V} {lp : List ((Int × Int) × β)} {n : Int × Int} {m : β} {R : Hp → Prop} (hb : LS.AtP H b n) (hd : H D = some (.dT (encD LS.pK f lp))) (hz : lp.length < sizeLine) (h : R (upd H D (.dT (encD LS.pK f (put lp n m))))) :
    ∃ kvs k c, V.ref b = .ref c ∧ H c = some (.tup (k.map kV)) ∧ H D = some (.dT kvs) ∧ kvs.length < sizeLine ∧ R (upd H D (.dT (putK kvs k (f m)))) :=
  ⟨encD LS.pK f lp, LS.pK n, b, rfl, hb, hd, by rw [len_enc]; exact hz, by rw [putK_enc pK_inj]; exact h⟩
end
theorem none_of {H H' : Hp} {p : Addr} (s : Same H H') (h : H' p = none) : H p = none := by
  cases e : H p with
  | none => rfl
  | some o =>
    rw [s p o e] at h
    cases h
/-- a statement whose ways meet again in R -/
theorem s_seqR {t u : TS} {D : Ends} {σ : L2.St} {H : Hp} (R : L2.St → Hp → Prop) (tail : ∀ σ' H', R σ' H' → u D σ' H') (main : ∀ NX : L2.St → Hp → Prop, (∀ σ' H', R σ' H' → NX σ' H') → t { D with nx := NX } σ H) : tSeq t u D σ H := main (u D) tail
theorem ix_nn {n : Nat} {k : Int} (h0 : 0 ≤ k) (h1 : k < n) : ixN n k = some k.toNat := by
  unfold ixN
  rw [if_pos h0, if_pos h1]
theorem map_int_get {row : List Int} {i : Nat} {v : V} (h : (row.map V.int)[i]? = some v) : ∃ x, row[i]? = some x ∧ v = .int x := by
  rw [List.getElem?_map] at h
  cases e : row[i]? with
  | none => rw [e] at h; cases h
  | some x => rw [e] at h; exact ⟨x, rfl, (Option.some.inj h).symm⟩
theorem map_int_at {row : List Int} {i : Nat} (h : i < row.length) : ∃ x, row[i]? = some x ∧ (row.map V.int)[i]? = some (.int x) :=
  ⟨row[i], List.getElem?_eq_getElem h, by rw [List.getElem?_map, List.getElem?_eq_getElem h]; rfl⟩
theorem cut_to (ns : List Int) (n : Nat) : cutV (ns.map V.int) none (some (n : Int)) = (ns.take n).map V.int := by
  unfold cutV
  have e1 : HT.sIx (ns.map V.int).length 0 none = 0 := HT.sIx_none _ _
  have e2 : HT.sIx (ns.map V.int).length (ns.map V.int).length (some (n : Int)) = min n (ns.map V.int).length := HT.sIx_nat _ _ _
  rw [e1, e2, List.drop_zero, Nat.sub_zero, List.map_take]
  exact List.take_eq_take_min.symm
theorem r_slTo {K : PySem.W.Frag} {H : Hp} {a : Addr} {ns : List Int} {Q : VK} (n : Nat) (hs : SqL K H a (ns.map V.int)) (h : ∀ p, H p = none → Q (.ref p) (upd H p (.lst ((ns.take n).map V.int)))) : rSlL K (.ref a) none (some (n : Int)) H Q :=
  ⟨a, _, rfl, hs, fun p hp => by
    rw [cut_to]
    exact h p hp⟩
theorem map_snoc (ns : List Int) (n : Int) : ns.map V.int ++ [V.int n] = (ns ++ [n]).map V.int := by
  rw [List.map_append]
  rfl
/-- xs.append(n), xs ints -/
theorem r_appI {H : Hp} {l : Addr} {ns : List Int} {n : Int} {Q : VK} (hl : H l = some (.lst (ns.map V.int))) (hz : ns.length < 10000000) (h : Q .non (upd H l (.lst ((ns ++ [n]).map V.int)))) : rAppend (.ref l) [.int n] H Q :=
  r_app hl (by rw [List.length_map, sizeLine_eq]; omega) (by rw [map_snoc]; exact h)
/-- xs[i], xs ints -/
theorem r_ixI {K : PySem.W.Frag} {H : Hp} {p : Addr} {ns : List Int} {n : Int} {Q : VK} (hs : SqL K H p (ns.map V.int)) (h0 : 0 ≤ n) (h1 : n < ns.length) (h : Q (.int (ns.getD n.toNat 0)) H) : rIxL K (.ref p) (.int n) H Q :=
  r_ixL hs (at_int h0 h1) h
theorem r_ixTI {K : PySem.W.Frag} {H : Hp} {p : Addr} {ns : List Int} {n : Int} {Q : VK} (hs : SqT K H p (ns.map V.int)) (h0 : 0 ≤ n) (h1 : n < ns.length) (h : Q (.int (ns.getD n.toNat 0)) H) : rIxT K (.ref p) (.int n) H Q :=
  r_ixT hs (at_int h0 h1) h
/-- xs[i] = n, xs ints -/
theorem g_setI {H : Hp} {p : Addr} {ns : List Int} {k n : Int} {R : Hp → Prop} (hp : H p = some (.lst (ns.map V.int))) (h0 : 0 ≤ k) (h1 : k < ns.length) (h : R (upd H p (.lst ((ns.set k.toNat n).map V.int)))) : rSetL (.ref p) (.int k) (.int n) H R :=
  g_setL hp (ix_nn h0 (by rw [List.length_map]; exact h1)) (by rw [List.map_set] at h; exact h)
theorem r_lenI {K : PySem.W.Frag} {H : Hp} {p : Addr} {ns : List Int} {Q : VK} (hs : SqL K H p (ns.map V.int)) (h : Q (.int ns.length) H) : oLen K [.ref p] H Q := r_lenL hs (by rw [List.length_map]; exact h)
theorem r_lenTI {K : PySem.W.Frag} {H : Hp} {p : Addr} {ns : List Int} {Q : VK} (hs : SqT K H p (ns.map V.int)) (h : Q (.int ns.length) H) : oLen K [.ref p] H Q := r_lenT hs (by rw [List.length_map]; exact h)
theorem r_cat {H : Hp} {l b : Addr} {xs zs : List V} {Q : VK} (h1 : H l = some (.lst xs)) (h2 : H b = some (.lst zs)) (hz : xs.length + zs.length ≤ 10000000) (h : ∀ p, H p = none → Q (.ref p) (upd H p (.lst (xs ++ zs)))) : rCat (.ref l) (.ref b) H Q :=
  ⟨l, b, xs, zs, rfl, rfl, h1, h2, by rw [sizeLine_eq]; omega, h⟩
theorem r_and {tA tB' : TT} {σ : L2.St} {H : Hp} {QT : Bool → Hp → Prop} {b : Bool} (h1 : b = true → tB' σ H QT) (h2 : b = false → QT false H) : if b = true then tB' σ H QT else QT false H := t_ite h1 h2
theorem atP_of {H : Hp} {b : Addr} {x y : Int} (h : H b = some (.tup [.int x, .int y])) : LS.AtP H b (x, y) := h
end LW

namespace K15
open PySem PySem.Spec PyProof.Rows L2 LW LM
/-! ### steps of a reading, heaps: short tactics -/
local macro_rules | `(tactic| walk_at "ne") => `(tactic| first
  | assumption
  | (apply Ne.symm; assumption)
  | exact ne_none (by assumption) (by assumption)
  | exact (ne_none (by assumption) (by assumption)).symm
  | exact ne_of (by assumption) (by assumption) (by intro z; cases z))
local macro_rules | `(tactic| walk_at "hp") => `(tactic| first
  | assumption
  | with_reducible exact upd_same
  | ((first
      | with_reducible refine u_old ?_ (by assumption)
      | with_reducible refine u_oth (by walk_at "ne") ?_
      | with_reducible refine same_app (by assumption) ?_
      | with_reducible refine kb_app (by assumption) (by walk_at "ne") ?_); walk_at "hp")
  | ((with_reducible refine u_kind ?h (by assumption) ?d); (case h => walk_at "hp"); (case d => (intro z; cases z))))
local macro_rules | `(tactic| walk_at "sq") => `(tactic| first
  | assumption
  | exact SqL.of (by walk_at "hp")
  | exact SqT.of (by walk_at "hp")
  | (with_reducible refine same_sqT (by assumption) ?_; walk_at "sq")
  | (with_reducible refine same_sqL (by assumption) ?_; walk_at "sq")
  | (with_reducible refine new_sqT (by assumption) ?_; walk_at "sq")
  | (with_reducible refine new_sqL (by assumption) ?_; walk_at "sq")
  | ((with_reducible refine mut_sqT (u := ?uu) ?hd ?hm ?_); (case hd => walk_at "hp"); (case hm => exact trivial); walk_at "sq"))
local macro_rules | `(tactic| walk_at "rd") => `(tactic| first
  | assumption
  | exact .inl (by walk_at "hp")
  | exact .inr ⟨_, by walk_at "hp"⟩)
local macro_rules | `(tactic| walk_at "s") => `(tactic| first
  | with_reducible refine s_seq ?_
  | with_reducible refine s_asg ?_
  | with_reducible refine g_name ?_
  | ((with_reducible refine e_var (v := ?vv) ?hv ?_); (case hv => rfl))
  | with_reducible refine e_c ?_
  | with_reducible refine e_op ?_
  | with_reducible refine a_cons ?_
  | with_reducible refine a_nil ?_
  | with_reducible refine e_cb ?_
  | with_reducible refine e_call ?_
  | with_reducible refine e_callK ?_
  | with_reducible refine s_ret ?_
  | with_reducible refine s_retN ?_
  | with_reducible refine s_drop ?_
  | with_reducible refine s_ifs ?_
  | with_reducible refine s_next ?_
  | with_reducible refine s_cont ?_
  | with_reducible refine s_brk ?_
  | with_reducible refine s_par ?_
  | with_reducible refine s_par3 ?_
  | with_reducible refine e_un ?_
  | with_reducible refine e_if ?_
  | with_reducible refine e_andV ?_
  | with_reducible refine e_orV ?_
  | with_reducible refine e_notV ?_
  | with_reducible refine e_dget ?_
  | with_reducible refine e_dget2 ?_
  | with_reducible refine e_din ?_
  | with_reducible refine e_dnotin ?_
  | with_reducible refine e_then ?_
  | with_reducible refine e_bm ?_
  | with_reducible refine e_bm0 ?_
  | with_reducible refine e_sl ?_
  | with_reducible refine o_none ?_
  | with_reducible refine o_part ?_
  | with_reducible refine g_sub ?_
  | with_reducible refine g_nil ?_
  | with_reducible refine g_cons ?_
  | with_reducible refine t_test ?_
  | with_reducible refine t_B ?_
  | with_reducible refine t_and ?_
  | with_reducible refine t_or ?_
  | with_reducible refine t_not ?_
  | ((with_reducible refine r_ixI (ns := ?ns) ?hs ?h0 ?h1 ?_); (case hs => walk_at "sq"); (case h0 => omega); (case h1 => omega))
  | ((with_reducible refine r_ixL (xs := ?xs) (v := ?vv) ?hs ?hi ?_); (case hs => walk_at "sq"); (case hi => rfl))
  | ((with_reducible refine r_ixT (xs := ?xs) (v := ?vv) ?hs ?hi ?_); (case hs => walk_at "sq"); (case hi => rfl))
  | ((with_reducible refine g_setL (xs := ?xs) (j := ?jj) ?hp ?hj ?_); (case hp => walk_at "hp"); (case hj => rfl))
  | ((with_reducible refine r_mul ?hc ?_); (case hc => first | exact .inr (by decide) | exact .inl (by decide) | exact .inl ⟨by omega, by omega⟩ | exact .inr ⟨by omega, by omega⟩))
  | ((with_reducible refine r_mod ?hc ?_); (case hc => first | decide | omega))
  | ((with_reducible refine r_fdivN ?hc ?_); (case hc => exact ⟨by first | decide | omega, by first | decide | omega⟩))
  | ((with_reducible refine r_pow ?hc ?_); (case hc => first | decide | exact ⟨by decide, by decide⟩ | (unfold CPow; decide)))
  | ((with_reducible refine r_lenI (ns := ?ns) ?hs ?_); (case hs => walk_at "sq"))
  | ((with_reducible refine r_lenTI (ns := ?ns) ?hs ?_); (case hs => walk_at "sq"))
  | ((with_reducible refine r_lenL (xs := ?xs) ?hs ?_); (case hs => walk_at "sq"))
  | ((with_reducible refine r_lenT (xs := ?xs) ?hs ?_); (case hs => walk_at "sq"))
  | ((with_reducible refine r_tyL (xs := ?xs) ?hs ?_); (case hs => walk_at "sq"))
  | with_reducible refine r_add ?_
  | with_reducible refine r_sub ?_
  | with_reducible refine r_lt ?_
  | with_reducible refine r_le ?_
  | with_reducible refine r_gt ?_
  | with_reducible refine r_ge ?_
  | with_reducible refine r_eqI ?_
  | with_reducible refine r_neI ?_
  | with_reducible refine r_int ?_
  | with_reducible refine r_intb ?_
  | with_reducible refine r_neg ?_
  | with_reducible refine r_max2 ?_
  | with_reducible refine r_min2 ?_
  | with_reducible refine c_sp1 ?_
  | with_reducible refine c_sp2 ?_
  | with_reducible refine c_sp3 ?_
  | with_reducible refine c_sp4 ?_
  | with_reducible refine c_sp5 ?_
  | with_reducible refine t_end ?_
  | with_reducible refine o_part_end ?_
  | ((with_reducible refine s_aug (x := ?xx) ?hx ?_); (case hx => rfl))
  | with_reducible refine s_for ?_
  | with_reducible refine i_list ?_
  | with_reducible refine i_tup ?_
  | with_reducible refine i_rng1 ?_
  | with_reducible refine i_rng2 ?_
  | with_reducible refine i_keys ?_
  | with_reducible refine i_items ?_
  | with_reducible refine i_zip2 ?_
  | with_reducible refine i_enum2 ?_
  | ((with_reducible refine i_rng1E ?h1 ?h2 ?_); (case h1 => omega); (case h2 => omega))
  | ((with_reducible refine i_rng2E ?h1 ?_); (case h1 => omega))
  | ((with_reducible refine i_listE (xs := ?xs) ?hs ?_); (case hs => walk_at "sq"))
  | ((with_reducible refine i_tupE (xs := ?xs) ?hs ?_); (case hs => walk_at "sq"))
  | ((with_reducible refine q_isD ?hi ?_); (case hi => first | exact isD_K (by walk_at "rd") | exact isD_T (by walk_at "rd")))
  | with_reducible refine q_ref ?_
  | with_reducible refine e_dnewK ?_
  | with_reducible refine e_dnewT ?_
  | with_reducible refine e_tup ?_
  | with_reducible refine e_lst ?_
  | ((with_reducible refine r_new ?hn ?_); (case hn => exact Nat.le_of_ble_eq_true rfl))
  | with_reducible refine r_fresh fun _ _ => ?_
  | with_reducible refine s_par_end ?_
  | with_reducible refine s_par3_end ?_
  | with_reducible refine e_lc ?_
  | with_reducible refine e_dc ?_
  | with_reducible refine e_dcT ?_
  | with_reducible refine t_tyes ?_
  | with_reducible refine t_tt ?_
  | with_reducible refine t_ff ?_
  | with_reducible refine c_wipe rfl ?_)
local macro_rules | `(tactic| walk_at "S") => `(tactic| repeat' first | walk_at "s" | with_reducible refine s_dput ?_)
local macro_rules | `(tactic| walk_at "T") => `(tactic| repeat' walk_at "s")

/-! ### the bag of draws -/
structure Bag (H : Hp) (b ce : Addr) : Prop where
  ex : ∃ (c st : Int) (cs : List Int), H b = some (.lst [.int c, .int st, .ref ce]) ∧ H ce = some (.lst (cs.map V.int)) ∧ cs ≠ [] ∧ cs.length ≤ 1000 ∧ ce ≠ b
section
variable {H H' : Hp} {b ce p : Addr} {o : HO} {Q : VK} {E : XK}
theorem Bag.nb (B : Bag H b ce) (h : H p = none) : p ≠ b := by
  obtain ⟨c, st, cs, hb, hc, _⟩ := B.ex
  exact fun e => by
    subst e
    rw [hb] at h
    cases h
theorem Bag.nc (B : Bag H b ce) (h : H p = none) : p ≠ ce := by
  obtain ⟨c, st, cs, hb, hc, _⟩ := B.ex
  exact fun e => by
    subst e
    rw [hc] at h
    cases h
theorem Bag.mut (B : Bag H b ce) (nb : p ≠ b) (nc : p ≠ ce) : Bag (upd H p o) b ce := by
  obtain ⟨c, st, cs, hb, hc, r⟩ := B.ex
  exact ⟨c, st, cs, u_oth nb.symm hb, u_oth nc.symm hc, r⟩
theorem Bag.new (B : Bag H b ce) (h : H p = none) : Bag (upd H p o) b ce := B.mut (B.nb h) (B.nc h)
theorem Bag.same (B : Bag H b ce) (s : Same H H') : Bag H' b ce := by
  obtain ⟨c, st, cs, hb, hc, r⟩ := B.ex
  exact ⟨c, st, cs, s _ _ hb, s _ _ hc, r⟩
theorem Bag.lst (B : Bag H b ce) {ns : List Int} (h : H p = some (.lst (ns.map V.int))) : p ≠ b := by
  obtain ⟨c, st, cs, hb, hc, r⟩ := B.ex
  intro e
  subst e
  rw [hb] at h
  have h1 := HO.lst.inj (Option.some.inj h)
  match ns, h1 with
  | [_, _, _], h1 => cases h1
def sp_draw : Sp := sp2 fun x y H Q => ∃ (b ce : Addr) (m : Int), x = .ref b ∧ y = .int m ∧ Bag H b ce ∧ 0 < m ∧ ∀ v H', 0 ≤ v → v < m → Bag H' b ce → Kb b H H' → Q (.int v) H'
theorem c_draw {m : Int} (hB : Bag H b ce) (hm : 0 < m) (h : ∀ v H', 0 ≤ v → v < m → Bag H' b ce → Kb b H H' → Q (.int v) H') : sp_draw ([.ref b, .int m] ++ []) H Q E := ⟨_, _, rfl, b, ce, m, rfl, rfl, hB, hm, h⟩
end
abbrev n__law_draw : List Str := ["bag", "many", "cell"]
def t__law_draw (K : PySem.W.Frag) (w : World) : TS :=
  (tSeq (tAsg (tOp oAdd (tOp (rIxL K) (tVar 0) (tC (.int 0))) (tC (.int 1))) (gSub (tVar 0) (tC (.int 0)) rSetL))
    (tSeq (tAsg (tOp (rIxL K) (tOp (rIxL K) (tVar 0) (tC (.int 2))) (tOp oMod (tCB oInt (tCons (tOp oAdd (tOp oMul (tOp (rIxL K) (tVar 0) (tC (.int 0))) (tC (.int 3))) (tOp oFdiv (tOp (rIxL K) (tVar 0) (tC (.int 0))) (tCB (oLen K) (tCons (tOp (rIxL K) (tVar 0) (tC (.int 2))) tNil)))) tNil)) (tCB (oLen K) (tCons (tOp (rIxL K) (tVar 0) (tC (.int 2))) tNil)))) (gName 2))
    (tSeq (tAsg (tOp oMod (tCB oInt (tCons (tOp oAdd (tOp oAdd (tOp oMul (tOp (rIxL K) (tVar 0) (tC (.int 1))) (tC (.int 69621))) (tOp oMul (tVar 2) (tC (.int 31)))) (tOp oMul (tOp (rIxL K) (tVar 0) (tC (.int 0))) (tC (.int 1409)))) tNil)) (tC (.int 2147483647))) (gSub (tVar 0) (tC (.int 1)) rSetL))
    (tRet (tOp oMod (tCB oInt (tCons (tOp oFdiv (tOp (rIxL K) (tVar 0) (tC (.int 1))) (tC (.int 11))) tNil)) (tVar 1))))))
theorem r_draw {K : PySem.W.Frag} {w : World} (vs : List V) (H : Hp) (Q : VK) (E : XK) (h : sp_draw vs H Q E) : t__law_draw K w { nx := fun _ H' => Q .non H', rt := Q } (start n__law_draw vs) H := by
  obtain ⟨_, _, rfl, b, ce, m, rfl, rfl, ⟨c, st, cs, hb, hce, hne, hlen, ncb⟩, hm, q⟩ := h
  unfold t__law_draw
  have hlen0 : 0 < cs.length := List.length_pos_iff.mpr hne
  have hml : (cs.map V.int).length = cs.length := List.length_map _
  walk_at "S"
  refine r_ixL (by walk_at "sq") (at_int (fm_nn (by omega)) (fm_lt (by omega))) ?_
  walk_at "S"
  refine q _ _ (fm_nn hm) (fm_lt hm) ⟨_, _, cs, upd_same, by walk_at "hp", hne, hlen, ncb⟩ ?_
  exact Kb.self (Kb.self (Kb.refl _ _))
/-! ### the bag made -/
def sp_bag (K : PySem.W.Frag) : Sp := sp1 fun x H Q => ∃ (a : Addr) (ns : List Int), x = .ref a ∧ SqL K H a (ns.map V.int) ∧ ∀ b ce H', Bag H' b ce → Same H H' → Q (.ref b) H'
abbrev n__law_bag : List Str := ["script", "cells", "cell"]
def t__law_bag (K : PySem.W.Frag) (w : World) : TS :=
  (tSeq (tAsg (tLst (tCons (tC (.int 8)) tNil)) (gName 1))
    (tSeq (tFor (iList K (tSl (rSlL K) (tVar 0) tNoPart (tPart (tC (.int 300))))) (gName 2)
    (tDrop (tBM K "list" rAppend (tVar 1) (tCons (tOp oMod (tCB oInt (tCons (tVar 2) tNil)) (tC (.int 999983))) tNil))))
    (tRet (tLst (tCons (tC (.int 0)) (tCons (tOp oAdd (tC (.int 29)) (tOp oMul (tCB (oLen K) (tCons (tVar 1) tNil)) (tC (.int 101)))) (tCons (tVar 1) tNil)))))))
theorem r_bag {K : PySem.W.Frag} {w : World} (vs : List V) (H : Hp) (Q : VK) (E : XK) (h : sp_bag K vs H Q E) : t__law_bag K w { nx := fun _ H' => Q .non H', rt := Q } (start n__law_bag vs) H := by
  obtain ⟨_, rfl, a, ns, rfl, hS, q⟩ := h
  unfold t__law_bag
  walk_at "S"
  rename_i c hc
  refine r_slTo (ns := ns) 300 (by walk_at "sq") fun p hp => ?_
  walk_at "S"
  refine for_w (w_list (xs := (ns.take 300).map V.int)) (fun i σ H' => ∃ (y : Option V) (cs : List Int), σ = [some (.ref a), some (.ref c), y] ∧ Same H H' ∧ SqL K H' p ((ns.take 300).map V.int) ∧ H' c = some (.lst (cs.map V.int)) ∧ cs.length = i + 1 ∧ p ≠ c)
    ⟨none, [8], rfl, (L2.Same.new hc).upd hp, by walk_at "sq", show _ = some (HO.lst [.int 8]) by walk_at "hp", rfl, (ne_none hp upd_same).symm⟩ ?_ ?_ ?_
  · rintro i σ H' _ ⟨y, cs, rfl, sm, hp', _⟩
    exact hp'
  · rintro i σ H' x _ hi ⟨y, cs, rfl, sm, hp', hc', hl, npc⟩ ⟨rfl, hx⟩
    obtain ⟨n, en, rfl⟩ := map_int_get hx
    walk_at "S"
    rw [List.length_map, List.length_take] at hi
    refine r_app hc' (by rw [List.length_map, sizeLine_eq]; omega) ?_
    walk_at "S"
    refine ⟨_, cs ++ [n.fmod 999983], rfl, sm.mut hc, ?_, ?_, ?_, npc⟩
    · rcases hp' with (h | ⟨o, h⟩) | h
      · exact .inl (.inl (u_oth npc h))
      · exact .inl (.inr ⟨o, u_oth npc h⟩)
      · exact .inr h
    · rw [upd_same, map_snoc]
    · rw [List.length_append, hl]
      rfl
  · rintro σ H' ⟨y, cs, rfl, sm, hp', hc', hl, npc⟩
    rw [List.length_map, List.length_take] at hl
    walk_at "S"
    rename_i t ht
    refine q t c _ ⟨_, _, cs, upd_same, by walk_at "hp", ?_, by omega, ne_none ht hc'⟩ (sm.upd ht)
    intro e
    subst e
    cases hl
open PySem PySem.Spec PyProof.Rows L2 LW LM
/-! ### steps of a reading, heaps: short tactics -/
/-! ### base numbers, rows -/
def sp_base : Sp := sp2 fun x y H Q => ∃ (b ce : Addr) (m : Int), x = .ref b ∧ y = .int m ∧ Bag H b ce ∧ 1 ≤ m ∧ m ≤ 1000 ∧
  ∀ (a : Addr) (ns : List Int) H', Bag H' b ce → Kb b H H' → H' a = some (.lst (ns.map V.int)) → ns.length = m.toNat → a ≠ b → a ≠ ce → H a = none → Q (.ref a) H'
theorem c_base {H : Hp} {b ce : Addr} {m : Int} {Q : VK} {E : XK} (hB : Bag H b ce) (h1 : 1 ≤ m) (h2 : m ≤ 1000) (h : ∀ (a : Addr) (ns : List Int) H', Bag H' b ce → Kb b H H' → H' a = some (.lst (ns.map V.int)) → ns.length = m.toNat → a ≠ b → a ≠ ce → H a = none → Q (.ref a) H') :
    sp_base ([.ref b, .int m] ++ []) H Q E := ⟨_, _, rfl, b, ce, m, rfl, rfl, hB, h1, h2, h⟩
abbrev n__law_base : List Str := ["bag", "many", "kind", "number", "base", "k", "step"]
def t__law_base (K : PySem.W.Frag) (w : World) : TS :=
  (tSeq (tAsg (tCall sp_draw [] E0 (tCons (tVar 0) (tCons (tC (.int 3)) tNil))) (gName 2))
    (tSeq (tAsg (tCall sp_draw [] E0 (tCons (tVar 0) (tCons (tC (.int 4)) tNil))) (gName 3))
    (tSeq (tAsg (tLst (tCons (tVar 3) tNil)) (gName 4))
    (tSeq (tFor (iRng1 (tCons (tOp oSub (tVar 1) (tC (.int 1))) tNil)) (gName 5)
    (tSeq (tAsg (tC (.int 1)) (gName 6))
    (tSeq (tIfS (tTest (tOp rEq (tVar 2) (tC (.int 1)))) (tAsg (tOp oAdd (tC (.int 1)) (tCall sp_draw [] E0 (tCons (tVar 0) (tCons (tC (.int 9)) tNil)))) (gName 6)) tNext)
    (tSeq (tIfS (tTest (tOp rEq (tVar 2) (tC (.int 2)))) (tAsg (tOp oAdd (tC (.int 1)) (tOp oMul (tCall sp_draw [] E0 (tCons (tVar 0) (tCons (tOp oPow (tC (.int 10)) (tC (.int 6))) tNil))) (tOp oPow (tC (.int 10)) (tC (.int 6))))) (gName 6)) tNext)
    (tSeq (tAsg (tOp oAdd (tVar 3) (tVar 6)) (gName 3))
    (tDrop (tBM K "list" rAppend (tVar 4) (tCons (tVar 3) tNil))))))))
    (tSeq (tIfS (tTest (tOp rEq (tCall sp_draw [] E0 (tCons (tVar 0) (tCons (tC (.int 5)) tNil))) (tC (.int 2)))) (tAsg (tOp oSub (tOp oPow (tC (.int 10)) (tC (.int 18))) (tC (.int 1))) (gSub (tVar 4) (tOp oSub (tCB (oLen K) (tCons (tVar 4) tNil)) (tC (.int 1))) rSetL)) tNext)
    (tRet (tVar 4)))))))
theorem r_base {K : PySem.W.Frag} {w : World} (vs : List V) (H : Hp) (Q : VK) (E : XK) (h : sp_base vs H Q E) : t__law_base K w { nx := fun _ H' => Q .non H', rt := Q } (start n__law_base vs) H := by
  obtain ⟨_, _, rfl, b, ce, m, rfl, rfl, hB, h1, h2, q⟩ := h
  unfold t__law_base
  walk_at "S"
  refine c_draw hB (by decide) fun kd H1 k0 k1 B1 s1 => ?_
  walk_at "S"
  refine c_draw B1 (by decide) fun nu H2 n0 n1 B2 s2 => ?_
  walk_at "S"
  rename_i a ha
  have nb := B2.nb ha
  have nc := B2.nc ha
  have s12 := s1.trans s2
  have ha0 := s12.free ha nb
  refine for_w (w_rng (lo := 0) (n := (m - 1).toNat)) (fun i σ H' => ∃ (n : Int) (y5 y6 : Option V) (ns : List Int), σ = [some (.ref b), some (.int m), some (.int kd), some (.int n), some (.ref a), y5, y6] ∧ Bag H' b ce ∧ Kb b H H' ∧ H' a = some (.lst (ns.map V.int)) ∧ ns.length = i + 1)
    ⟨nu, none, none, [nu], rfl, B2.new ha, s12.new ha, upd_same, rfl⟩ (fun _ _ _ _ _ => trivial) ?_ ?_
  · rintro i σ H' x _ hi ⟨n, y5, y6, ns, rfl, B, s, h', hl⟩ ⟨rfl, rfl⟩
    walk_at "s"
    walk_at "s"
    walk_at "s"
    walk_at "s"
    walk_at "s"
    with_reducible refine s_seqR (fun σ' H' => ∃ (z : Int), σ' = [some (.ref b), some (.int m), some (.int kd), some (.int n), some (.ref a), some (.int (0 + (i : Nat))), some (.int z)] ∧ Bag H' b ce ∧ Kb b H H' ∧ H' a = some (.lst (ns.map V.int))) ?_ ?_
    · rintro _ H3 ⟨z, rfl, B3, s3, h3⟩
      with_reducible refine s_seqR (fun σ' H' => ∃ (z : Int), σ' = [some (.ref b), some (.int m), some (.int kd), some (.int n), some (.ref a), some (.int (0 + (i : Nat))), some (.int z)] ∧ Bag H' b ce ∧ Kb b H H' ∧ H' a = some (.lst (ns.map V.int))) ?_ ?_
      · rintro _ H4 ⟨z, rfl, B4, s4, h4⟩
        walk_at "S"
        refine r_appI h4 (by omega) ?_
        walk_at "S"
        exact ⟨_, _, _, _, rfl, B4.mut nb nc, s4.mut ha0, upd_same, by rw [List.length_append, hl]; rfl⟩
      · intro NX k
        walk_at "S"
        refine t_iteD (fun _ => ?_) (fun _ => ?_)
        · walk_at "S"
          refine c_draw B3 (by decide) fun d H4 d0 d1 B4 s4 => ?_
          walk_at "S"
          exact k _ _ ⟨_, rfl, B4, s3.trans s4, by walk_at "hp"⟩
        · walk_at "S"
          exact k _ _ ⟨_, rfl, B3, s3, h3⟩
    · intro NX k
      walk_at "S"
      refine t_iteD (fun _ => ?_) (fun _ => ?_)
      · walk_at "S"
        refine c_draw B (by decide) fun d H4 d0 d1 B4 s4 => ?_
        walk_at "S"
        exact k _ _ ⟨_, rfl, B4, s.trans s4, by walk_at "hp"⟩
      · walk_at "S"
        exact k _ _ ⟨_, rfl, B, s, h'⟩
  · rintro σ H' ⟨n, y5, y6, ns, rfl, B, s, h', hl⟩
    have hl' : ns.length = m.toNat := by omega
    walk_at "S"
    refine c_draw B (by decide) fun d H4 d0 d1 B4 s4 => ?_
    have h4 : H4 a = some (.lst (ns.map V.int)) := by walk_at "hp"
    walk_at "S"
    refine t_iteD (fun _ => ?_) (fun _ => ?_)
    · walk_at "S"
      refine g_setI h4 (by omega) (by omega) ?_
      walk_at "S"
      refine q a _ _ (B4.mut nb nc) ((s.trans s4).mut ha0) upd_same ?_ nb nc ha0
      rw [List.length_set, hl']
    · walk_at "S"
      exact q a _ _ B4 (s.trans s4) h4 hl' nb nc ha0
def sp_row : Sp := sp3 fun x y z H Q => ∃ (b ce : Addr) (m n : Int), x = .ref b ∧ y = .int m ∧ z = .int n ∧ Bag H b ce ∧ 2 ≤ m ∧ m ≤ 1000 ∧ 1 ≤ n ∧ n ≤ 3000 ∧
  ∀ (a : Addr) (ns : List Int) H', Bag H' b ce → Kb b H H' → H' a = some (.lst (ns.map V.int)) → ns.length = n.toNat → a ≠ b → a ≠ ce → H a = none → Q (.ref a) H'
theorem c_row {H : Hp} {b ce : Addr} {m n : Int} {Q : VK} {E : XK} (hB : Bag H b ce) (h1 : 2 ≤ m) (h2 : m ≤ 1000) (h3 : 1 ≤ n) (h4 : n ≤ 3000) (h : ∀ (a : Addr) (ns : List Int) H', Bag H' b ce → Kb b H H' → H' a = some (.lst (ns.map V.int)) → ns.length = n.toNat → a ≠ b → a ≠ ce → H a = none → Q (.ref a) H') :
    sp_row ([.ref b, .int m, .int n] ++ []) H Q E := ⟨_, _, _, rfl, b, ce, m, n, rfl, rfl, rfl, hB, h1, h2, h3, h4, h⟩
abbrev n__law_row : List Str := ["bag", "many", "length", "base", "kind", "at", "step", "row", "k"]
def t__law_row (K : PySem.W.Frag) (w : World) : TS :=
  (tSeq (tAsg (tCall sp_base [] E0 (tCons (tVar 0) (tCons (tVar 1) tNil))) (gName 3))
    (tSeq (tAsg (tCall sp_draw [] E0 (tCons (tVar 0) (tCons (tC (.int 4)) tNil))) (gName 4))
    (tSeq (tAsg (tCall sp_draw [] E0 (tCons (tVar 0) (tCons (tVar 1) tNil))) (gName 5))
    (tSeq (tAsg (tOp oAdd (tC (.int 1)) (tCall sp_draw [] E0 (tCons (tVar 0) (tCons (tOp oSub (tVar 1) (tC (.int 1))) tNil)))) (gName 6))
    (tSeq (tAsg (tLst (tCons (tOp (rIxL K) (tVar 3) (tVar 5)) tNil)) (gName 7))
    (tSeq (tFor (iRng1 (tCons (tOp oSub (tVar 2) (tC (.int 1))) tNil)) (gName 8)
    (tSeq (tIfS (tTest (tOp rEq (tVar 4) (tC (.int 0)))) (tAsg (tOp oMod (tCB oInt (tCons (tOp oAdd (tVar 5) (tVar 6)) tNil)) (tVar 1)) (gName 5)) (tIfS (tAnd (tTest (tOp rEq (tVar 4) (tC (.int 1)))) (tTest (tOp oGt (tCall sp_draw [] E0 (tCons (tVar 0) (tCons (tC (.int 6)) tNil))) (tC (.int 0))))) (tAsg (tOp oMod (tCB oInt (tCons (tOp oAdd (tVar 5) (tC (.int 1))) tNil)) (tVar 1)) (gName 5)) (tAsg (tOp oMod (tCB oInt (tCons (tOp oAdd (tOp oAdd (tVar 5) (tC (.int 1))) (tCall sp_draw [] E0 (tCons (tVar 0) (tCons (tOp oSub (tVar 1) (tC (.int 1))) tNil)))) tNil)) (tVar 1)) (gName 5))))
    (tDrop (tBM K "list" rAppend (tVar 7) (tCons (tOp (rIxL K) (tVar 3) (tVar 5)) tNil)))))
    (tRet (tVar 7))))))))
theorem r_row {K : PySem.W.Frag} {w : World} (vs : List V) (H : Hp) (Q : VK) (E : XK) (h : sp_row vs H Q E) : t__law_row K w { nx := fun _ H' => Q .non H', rt := Q } (start n__law_row vs) H := by
  obtain ⟨_, _, _, rfl, b, ce, m, n, rfl, rfl, rfl, hB, h1, h2, h3, h4, q⟩ := h
  unfold t__law_row
  walk_at "S"
  refine c_base hB (by omega) h2 fun ba bs H1 B1 s1 hb1 lb nb1 nc1 hn1 => ?_
  walk_at "S"
  refine c_draw B1 (by decide) fun kd H2 k0 k1 B2 s2 => ?_
  walk_at "S"
  refine c_draw B2 (by omega) fun at0 H3 a0 a1 B3 s3 => ?_
  walk_at "S"
  refine c_draw B3 (by omega) fun st H4 t0 t1 B4 s4 => ?_
  have hb4 : H4 ba = some (.lst (bs.map V.int)) := by walk_at "hp"
  have hbl : (bs.length : Int) = m := by omega
  walk_at "S"
  rename_i r hr
  have nb := B4.nb hr
  have nc := B4.nc hr
  have s14 := ((s1.trans s2).trans s3).trans s4
  have hr0 := s14.free hr nb
  refine for_w (w_rng (lo := 0) (n := (n - 1).toNat)) (fun i σ H' => ∃ (at' : Int) (y8 : Option V) (ns : List Int), σ = [some (.ref b), some (.int m), some (.int n), some (.ref ba), some (.int kd), some (.int at'), some (.int (1 + st)), some (.ref r), y8] ∧ Bag H' b ce ∧ Kb b H H' ∧ H' r = some (.lst (ns.map V.int)) ∧ ns.length = i + 1 ∧ H' ba = some (.lst (bs.map V.int)) ∧ 0 ≤ at' ∧ at' < m)
    ⟨at0, none, [_], rfl, B4.new hr, s14.new hr, upd_same, rfl, by walk_at "hp", a0, a1⟩ (fun _ _ _ _ _ => trivial) ?_ ?_
  · rintro i σ H' x _ hi ⟨at', y8, ns, rfl, B, s, h', hl, hba, g0, g1⟩ ⟨rfl, rfl⟩
    walk_at "s"
    with_reducible refine s_seqR (fun σ' H' => ∃ (z : Int), σ' = [some (.ref b), some (.int m), some (.int n), some (.ref ba), some (.int kd), some (.int z), some (.int (1 + st)), some (.ref r), some (.int (0 + (i : Nat)))] ∧ Bag H' b ce ∧ Kb b H H' ∧ H' r = some (.lst (ns.map V.int)) ∧ H' ba = some (.lst (bs.map V.int)) ∧ 0 ≤ z ∧ z < m) ?_ ?_
    · rintro _ H5 ⟨z, rfl, B5, s5, h5, hb5, z0, z1⟩
      walk_at "S"
      refine r_appI h5 (by omega) ?_
      walk_at "S"
      have nrb : r ≠ ba := ne_none hr hb4 |>.symm
      exact ⟨_, _, _, rfl, B5.mut nb nc, s5.mut hr0, upd_same, by rw [List.length_append, hl]; rfl, u_oth nrb.symm hb5, z0, z1⟩
    · intro NX k
      have hm : (0 : Int) < m := by omega
      have nrb : ba ≠ b := nb1
      walk_at "S"
      refine t_iteD (fun _ => ?_) (fun _ => ?_)
      · walk_at "S"
        exact k _ _ ⟨_, rfl, B, s, h', hba, fm_nn hm, fm_lt hm⟩
      · walk_at "S"
        refine t_iteD (fun _ => ?_) (fun _ => ?_)
        · walk_at "S"
          refine c_draw B (by decide) fun d H5 d0 d1 B5 s5 => ?_
          walk_at "S"
          refine t_iteD (fun _ => ?_) (fun _ => ?_)
          · walk_at "S"
            exact k _ _ ⟨_, rfl, B5, s.trans s5, by walk_at "hp", by walk_at "hp", fm_nn hm, fm_lt hm⟩
          · walk_at "S"
            refine c_draw B5 (by omega) fun e H6 e0 e1 B6 s6 => ?_
            walk_at "S"
            exact k _ _ ⟨_, rfl, B6, (s.trans s5).trans s6, by walk_at "hp", by walk_at "hp", fm_nn hm, fm_lt hm⟩
        · walk_at "S"
          refine c_draw B (by omega) fun e H6 e0 e1 B6 s6 => ?_
          walk_at "S"
          exact k _ _ ⟨_, rfl, B6, s.trans s6, by walk_at "hp", by walk_at "hp", fm_nn hm, fm_lt hm⟩
  · rintro σ H' ⟨at', y8, ns, rfl, B, s, h', hl, hba, g0, g1⟩
    walk_at "S"
    exact q r ns _ B s h' (by omega) nb nc hr0
open PySem PySem.Spec PyProof.Rows L2 LW LM
/-! ### steps of a reading, heaps: short tactics -/
/-! ### rows made, numbers of the left -/
def sp_made : Sp := sp1 fun x H Q => ∃ (b ce : Addr), x = .ref b ∧ Bag H b ce ∧
  ∀ (a : Addr) (rs : List Addr) H', Bag H' b ce → Kb b H H' → H' a = some (.lst (rs.map V.ref)) → a ≠ b → (∀ r ∈ rs, ∃ ns : List Int, H' r = some (.lst (ns.map V.int)) ∧ ns ≠ [] ∧ ns.length ≤ 100) → Q (.ref a) H'
theorem c_made {H : Hp} {b ce : Addr} {Q : VK} {E : XK} (hB : Bag H b ce) (h : ∀ (a : Addr) (rs : List Addr) H', Bag H' b ce → Kb b H H' → H' a = some (.lst (rs.map V.ref)) → a ≠ b → (∀ r ∈ rs, ∃ ns : List Int, H' r = some (.lst (ns.map V.int)) ∧ ns ≠ [] ∧ ns.length ≤ 100) → Q (.ref a) H') :
    sp_made ([.ref b] ++ []) H Q E := ⟨_, rfl, b, ce, rfl, hB, h⟩
abbrev n__law_made : List Str := ["bag", "low", "mid", "top", "rows"]
def t__law_made (K : PySem.W.Frag) (w : World) : TS :=
  (tSeq (tAsg (tCall sp_draw [] E0 (tCons (tVar 0) (tCons (tC (.int 7)) tNil))) (gName 1))
    (tSeq (tAsg (tOp oAdd (tOp oAdd (tVar 1) (tC (.int 1))) (tCall sp_draw [] E0 (tCons (tVar 0) (tCons (tC (.int 7)) tNil)))) (gName 2))
    (tSeq (tAsg (tOp oAdd (tOp oAdd (tVar 2) (tC (.int 1))) (tCall sp_draw [] E0 (tCons (tVar 0) (tCons (tC (.int 7)) tNil)))) (gName 3))
    (tSeq (tAsg (tLst (tCons (tLst (tCons (tVar 1) (tCons (tVar 2) tNil))) (tCons (tLst (tCons (tVar 2) (tCons (tVar 1) tNil))) (tCons (tLst (tCons (tVar 2) (tCons (tVar 1) (tCons (tVar 3) (tCons (tVar 2) tNil))))) (tCons (tLst (tCons (tVar 3) (tCons (tVar 2) (tCons (tVar 1) (tCons (tVar 2) (tCons (tVar 3) (tCons (tVar 1) (tCons (tVar 2) tNil)))))))) tNil))))) (gName 4))
    (tSeq (tDrop (tBM K "list" rAppend (tVar 4) (tCons (tLst (tCons (tVar 3) (tCons (tVar 1) (tCons (tVar 2) (tCons (tVar 3) (tCons (tVar 1) (tCons (tVar 2) (tCons (tVar 3) (tCons (tVar 1) (tCons (tVar 3) tNil)))))))))) tNil)))
    (tSeq (tDrop (tBM K "list" rAppend (tVar 4) (tCons (tLst (tCons (tVar 1) (tCons (tVar 3) (tCons (tVar 2) (tCons (tVar 3) (tCons (tVar 1) (tCons (tVar 3) (tCons (tVar 2) tNil)))))))) tNil)))
    (tRet (tVar 4))))))))
theorem r_made {K : PySem.W.Frag} {w : World} (vs : List V) (H : Hp) (Q : VK) (E : XK) (h : sp_made vs H Q E) : t__law_made K w { nx := fun _ H' => Q .non H', rt := Q } (start n__law_made vs) H := by
  obtain ⟨_, rfl, b, ce, rfl, hB, q⟩ := h
  unfold t__law_made
  walk_at "S"
  refine c_draw hB (by decide) fun lo H1 k0 k1 B1 s1 => ?_
  walk_at "S"
  refine c_draw B1 (by decide) fun d1 H2 k2 k3 B2 s2 => ?_
  walk_at "S"
  refine c_draw B2 (by decide) fun d2 H3 k4 k5 B3 s3 => ?_
  walk_at "S"
  rename_i p1 h1 p2 h2 p3 h3 p4 h4 a ha
  refine r_app (by walk_at "hp") (by show 4 < sizeLine; rw [sizeLine_eq]; omega) ?_
  walk_at "S"
  rename_i p5 h5
  refine r_app (by walk_at "hp") (by show 5 < sizeLine; rw [sizeLine_eq]; omega) ?_
  walk_at "S"
  rename_i p6 h6
  have n_p6 : p6 ≠ p4 := ne_none h4 (o := .lst [V.int lo, V.int (lo + 1 + d1)]) (by walk_at "hp")
  have n_p1 : p1 ≠ p4 := ne_none h4 (o := .lst [V.int (lo + 1 + d1), V.int lo]) (by walk_at "hp")
  have n_p2 : p2 ≠ p4 := ne_none h4 (o := .lst [V.int (lo + 1 + d1), V.int lo, V.int (lo + 1 + d1 + 1 + d2), V.int (lo + 1 + d1)]) (by walk_at "hp")
  have n_p3 : p3 ≠ p4 := ne_none h4 (o := .lst [V.int (lo + 1 + d1 + 1 + d2), V.int (lo + 1 + d1), V.int lo, V.int (lo + 1 + d1), V.int (lo + 1 + d1 + 1 + d2), V.int lo, V.int (lo + 1 + d1)]) (by walk_at "hp")
  have n_a : a ≠ p4 := (ne_none ha (o := .lst [V.ref p6, V.ref p1, V.ref p2, V.ref p3]) upd_same).symm
  have n_p5 : p5 ≠ p4 := (ne_none h5 (o := .lst ([V.ref p6, V.ref p1, V.ref p2, V.ref p3] ++ [V.ref a])) upd_same).symm
  have s123 := (s1.trans s2).trans s3
  have nb : p4 ≠ b := Bag.nb ((((B3.new h6).new h1).new h2).new h3) h4
  have nc : p4 ≠ ce := Bag.nc ((((B3.new h6).new h1).new h2).new h3) h4
  have hp0 : H p4 = none := Kb.free ((((s123.new h6).new h1).new h2).new h3) h4 nb
  refine q p4 [p6, p1, p2, p3, a, p5] _ (((((((((B3.new h6).new h1).new h2).new h3).new h4).new ha).mut nb nc).new h5).mut nb nc) (((((((((s123.new h6).new h1).new h2).new h3).new h4).new ha).mut hp0).new h5).mut hp0) upd_same nb fun r hr => ?_
  simp only [List.mem_cons, List.not_mem_nil, or_false] at hr
  rcases hr with rfl | rfl | rfl | rfl | rfl | rfl
  · exact ⟨[lo, (lo + 1 + d1)], (show _ = some (HO.lst [V.int lo, V.int (lo + 1 + d1)]) by walk_at "hp"), (fun e => nomatch e), Nat.le_of_ble_eq_true rfl⟩
  · exact ⟨[(lo + 1 + d1), lo], (show _ = some (HO.lst [V.int (lo + 1 + d1), V.int lo]) by walk_at "hp"), (fun e => nomatch e), Nat.le_of_ble_eq_true rfl⟩
  · exact ⟨[(lo + 1 + d1), lo, (lo + 1 + d1 + 1 + d2), (lo + 1 + d1)], (show _ = some (HO.lst [V.int (lo + 1 + d1), V.int lo, V.int (lo + 1 + d1 + 1 + d2), V.int (lo + 1 + d1)]) by walk_at "hp"), (fun e => nomatch e), Nat.le_of_ble_eq_true rfl⟩
  · exact ⟨[(lo + 1 + d1 + 1 + d2), (lo + 1 + d1), lo, (lo + 1 + d1), (lo + 1 + d1 + 1 + d2), lo, (lo + 1 + d1)], (show _ = some (HO.lst [V.int (lo + 1 + d1 + 1 + d2), V.int (lo + 1 + d1), V.int lo, V.int (lo + 1 + d1), V.int (lo + 1 + d1 + 1 + d2), V.int lo, V.int (lo + 1 + d1)]) by walk_at "hp"), (fun e => nomatch e), Nat.le_of_ble_eq_true rfl⟩
  · exact ⟨[(lo + 1 + d1 + 1 + d2), lo, (lo + 1 + d1), (lo + 1 + d1 + 1 + d2), lo, (lo + 1 + d1), (lo + 1 + d1 + 1 + d2), lo, (lo + 1 + d1 + 1 + d2)], (show _ = some (HO.lst [V.int (lo + 1 + d1 + 1 + d2), V.int lo, V.int (lo + 1 + d1), V.int (lo + 1 + d1 + 1 + d2), V.int lo, V.int (lo + 1 + d1), V.int (lo + 1 + d1 + 1 + d2), V.int lo, V.int (lo + 1 + d1 + 1 + d2)]) by walk_at "hp"), (fun e => nomatch e), Nat.le_of_ble_eq_true rfl⟩
  · exact ⟨[lo, (lo + 1 + d1 + 1 + d2), (lo + 1 + d1), (lo + 1 + d1 + 1 + d2), lo, (lo + 1 + d1 + 1 + d2), (lo + 1 + d1)], (show _ = some (HO.lst [V.int lo, V.int (lo + 1 + d1 + 1 + d2), V.int (lo + 1 + d1), V.int (lo + 1 + d1 + 1 + d2), V.int lo, V.int (lo + 1 + d1 + 1 + d2), V.int (lo + 1 + d1)]) by walk_at "hp"), (fun e => nomatch e), Nat.le_of_ble_eq_true rfl⟩
def sp_lefts (K : PySem.W.Frag) : Sp := sp3 fun x y z H Q => ∃ (b ce r : Addr) (row : List Int) (us : Int), x = .ref b ∧ y = .ref r ∧ z = .int us ∧ Bag H b ce ∧ H r = some (.lst (row.map V.int)) ∧ row ≠ [] ∧ row.length ≤ 4000 ∧
  ∀ (t : Addr) (ls : List Int) H', Bag H' b ce → Kb b H H' → SqT K H' t (ls.map V.int) → ls.length ≤ 10000 → Q (.ref t) H'
theorem c_lefts {K : PySem.W.Frag} {H : Hp} {b ce r : Addr} {row : List Int} {us : Int} {Q : VK} {E : XK} (hB : Bag H b ce) (hr : H r = some (.lst (row.map V.int))) (h0 : row ≠ []) (h1 : row.length ≤ 4000) (h : ∀ (t : Addr) (ls : List Int) H', Bag H' b ce → Kb b H H' → SqT K H' t (ls.map V.int) → ls.length ≤ 10000 → Q (.ref t) H') :
    sp_lefts K ([.ref b, .ref r, .int us] ++ []) H Q E := ⟨_, _, _, rfl, b, ce, r, row, us, rfl, rfl, rfl, hB, hr, h0, h1, h⟩
theorem r_setI {K : PySem.W.Frag} {w : World} {H : Hp} {l : Addr} {ns : List Int} {Q : VK} (hs : SqL K H l (ns.map V.int)) (hn : ns.length + 1 < 4096) (h : ∀ p c, H p = none → c ≤ ns.length → Q (.ref p) (upd H p (SetO w p (fun j => decide (j ∈ ns)) c))) : LS.rSetI K w [.ref l] H Q :=
  ⟨l, ns, rfl, .inl hs, hn, h⟩
theorem r_sortSet {w : World} {H : Hp} {a : Addr} {ns : List Int} {c : Nat} {Q : VK} (ha : H a = some (SetO w a (fun j => decide (j ∈ ns)) c)) (hc : c ≤ ns.length) (hn : ns.length + 1 < 4096) (h : ∀ p, H p = none → Q (.ref p) (upd H p (.lst ((sortI (dedup ns)).map V.int)))) : LS.rSortSet w [.ref a] H Q :=
  ⟨a, ns, c, rfl, ha, hc, hn, h⟩
theorem r_tupLI {K : PySem.W.Frag} {H : Hp} {p : Addr} {ns : List Int} {Q : VK} (hs : SqL K H p (ns.map V.int)) (h : ∀ q, H q = none → Q (.ref q) (upd H q (.tup (ns.map V.int)))) : kTup K (.ref p) H Q := r_tupL hs h
abbrev n__law_lefts : List Str := ["bag", "row", "used", "numbers", "kind", "lefts", "number"]
def t__law_lefts (K : PySem.W.Frag) (w : World) : TS :=
  (tSeq (tAsg (tCB (LS.rSortSet w) (tCons (tCB (LS.rSetI K w) (tCons (tVar 1) tNil)) tNil)) (gName 3))
    (tSeq (tAsg (tCall sp_draw [] E0 (tCons (tVar 0) (tCons (tC (.int 5)) tNil))) (gName 4))
    (tSeq (tIfS (tTest (tOp rEq (tVar 4) (tC (.int 0)))) (tRet (tTup tNil)) tNext)
    (tSeq (tIfS (tTest (tOp rEq (tVar 4) (tC (.int 1)))) (tRet (tThen (tVar 3) (kTup K))) tNext)
    (tSeq (tAsg (tLc (iList K (tVar 3)) (gName 6) (tTest (tOp rEq (tCall sp_draw [] E0 (tCons (tVar 0) (tCons (tC (.int 2)) tNil))) (tC (.int 1)))) (tVar 6) [6]) (gName 5))
    (tSeq (tIfS (tTest (tOp oGt (tVar 4) (tC (.int 2)))) (tAsg (tOp rCat (tVar 5) (tLst (tCons (tCall sp_draw [] E0 (tCons (tVar 0) (tCons (tC (.int 40)) tNil))) (tCons (tOp oSub (tVar 2) (tC (.int 1))) (tCons (tOp oPow (tC (.int 10)) (tC (.int 18))) tNil))))) (gName 5)) tNext)
    (tSeq (tIfS (tTest (tOp oGt (tVar 4) (tC (.int 3)))) (tAsg (tOp rCat (tVar 5) (tLst (tCons (tOp oMul (tCall sp_draw [] E0 (tCons (tVar 0) (tCons (tOp oPow (tC (.int 10)) (tC (.int 9))) tNil))) (tOp oPow (tC (.int 10)) (tC (.int 8)))) (tCons (tCB oMax2 (tCons (tC (.int 0)) (tCons (tOp oSub (tOp (rIxL K) (tVar 3) (tC (.int 0))) (tC (.int 1))) tNil))) tNil)))) (gName 5)) tNext)
    (tRet (tThen (tCB (LS.rSortSet w) (tCons (tCB (LS.rSetI K w) (tCons (tVar 5) tNil)) tNil)) (kTup K))))))))))
theorem r_lefts {K : PySem.W.Frag} {w : World} (vs : List V) (H : Hp) (Q : VK) (E : XK) (h : sp_lefts K vs H Q E) : t__law_lefts K w { nx := fun _ H' => Q .non H', rt := Q } (start n__law_lefts vs) H := by
  obtain ⟨_, _, _, rfl, b, ce, r, row, us, rfl, rfl, rfl, hB, hr, hne, hlen, q⟩ := h
  unfold t__law_lefts
  have hr0 : 0 < row.length := List.length_pos_iff.mpr hne
  have hsl : (sortI (dedup row)).length ≤ row.length := by
    rw [(sortI_perm _).length_eq]
    exact len_dedup _
  have hsp : 0 < (sortI (dedup row)).length := by
    rw [(sortI_perm _).length_eq]
    refine List.length_pos_iff.mpr fun e => hne ?_
    match row, e with
    | [], _ => rfl
    | x :: xs, e =>
      have : x ∈ dedup (x :: xs) := mem_dedup.mpr List.mem_cons_self
      rw [e] at this
      cases this
  walk_at "S"
  refine r_setI (ns := row) (by walk_at "sq") (by omega) fun p c hp hc => ?_
  walk_at "S"
  refine r_sortSet (ns := row) (c := c) upd_same hc (by omega) fun n hn => ?_
  have Bn := (hB.new hp (o := SetO w p (fun j => decide (j ∈ row)) c)).new hn (o := .lst ((sortI (dedup row)).map V.int))
  have sn : Kb b H _ := ((Kb.refl b H).new hp (o := SetO w p (fun j => decide (j ∈ row)) c)).new hn (o := .lst ((sortI (dedup row)).map V.int))
  have hnn : upd (upd H p (SetO w p (fun j => decide (j ∈ row)) c)) n (.lst ((sortI (dedup row)).map V.int)) n = some (.lst ((sortI (dedup row)).map V.int)) := upd_same
  have nnb := Bn.lst hnn
  generalize upd (upd H p (SetO w p (fun j => decide (j ∈ row)) c)) n (.lst ((sortI (dedup row)).map V.int)) = H1 at Bn sn hnn
  generalize sortI (dedup row) = nm at hsl hsp hnn Bn sn
  walk_at "S"
  refine c_draw Bn (by decide) fun kd H2 k0 k1 B2 s2 => ?_
  have hn2 : H2 n = some (.lst (nm.map V.int)) := by walk_at "hp"
  walk_at "S"
  refine t_iteD (fun _ => ?_) (fun _ => ?_)
  · walk_at "S"
    rename_i t ht
    exact q t [] _ (B2.new ht) ((sn.trans s2).new ht) (SqT.of upd_same) (Nat.zero_le _)
  walk_at "S"
  refine t_iteD (fun _ => ?_) (fun _ => ?_)
  · walk_at "S"
    refine r_tupLI (ns := nm) (by walk_at "sq") fun t ht => ?_
    exact q t nm _ (B2.new ht) ((sn.trans s2).new ht) (SqT.of upd_same) (by omega)
  walk_at "S"
  rename_i l hl
  have nlb := B2.nb hl
  have nlc := B2.nc hl
  have s2' := sn.trans s2
  have hl0 := s2'.free hl nlb
  refine lc_w (w_list (xs := nm.map V.int)) (fun i H' => ∃ ls : List Int, Bag H' b ce ∧ Kb b H H' ∧ H' n = some (.lst (nm.map V.int)) ∧ H' l = some (.lst (ls.map V.int)) ∧ ls.length ≤ i) ?_ ?_ ?_ ?_
  · exact ⟨[], B2.new hl, s2'.new hl, by walk_at "hp", upd_same, Nat.zero_le _⟩
  · rintro i H' _ ⟨ls, B, s, h1, h2, h3⟩
    exact SqL.of h1
  · rintro i H' x _ hi ⟨ls, B, s, h1, h2, h3⟩ ⟨rfl, hx⟩
    obtain ⟨z, ez, rfl⟩ := map_int_get hx
    rw [List.length_map] at hi
    walk_at "S"
    refine c_draw B (by decide) fun d H4 d0 d1 B4 s4 => ?_
    have e4 : H4 l = some (.lst (ls.map V.int)) := by walk_at "hp"
    have n4 : H4 n = some (.lst (nm.map V.int)) := by walk_at "hp"
    walk_at "S"
    refine t_iteD (fun _ => ?_) (fun _ => ?_)
    · walk_at "S"
      refine ⟨_, e4, by rw [List.length_map, sizeLine_eq]; omega, ls ++ [z], B4.mut nlb nlc, (s.trans s4).mut hl0, u_oth (ne_none hl hn2).symm.symm n4, ?_, ?_⟩
      · rw [upd_same, map_snoc]
      · rw [List.length_append, List.length_singleton]
        omega
    · walk_at "S"
      exact ⟨ls, B4, s.trans s4, n4, e4, by omega⟩
  · rintro H' ⟨ls, B, s, h1, h2, h3⟩
    rw [List.length_map] at h3
    walk_at "s"
    with_reducible refine s_seqR (fun σ' H' => ∃ (l' : Addr) (ls : List Int), σ' = [some (.ref b), some (.ref r), some (.int us), some (.ref n), some (.int kd), some (.ref l'), none] ∧ Bag H' b ce ∧ Kb b H H' ∧ H' n = some (.lst (nm.map V.int)) ∧ H' l' = some (.lst (ls.map V.int)) ∧ ls.length ≤ 4003) ?_ ?_
    · rintro _ H3 ⟨l', ls', rfl, B3, s3, n3, e3, b3⟩
      have nl3 := B3.lst e3
      with_reducible refine s_seqR (fun σ' H' => ∃ (l' : Addr) (ls : List Int), σ' = [some (.ref b), some (.ref r), some (.int us), some (.ref n), some (.int kd), some (.ref l'), none] ∧ Bag H' b ce ∧ Kb b H H' ∧ H' l' = some (.lst (ls.map V.int)) ∧ ls.length ≤ 4005) ?_ ?_
      · rintro _ H4 ⟨l4, ls4, rfl, B4, s4, e4, b4⟩
        walk_at "S"
        refine r_setI (ns := ls4) (by walk_at "sq") (by omega) fun p c hp hc => ?_
        walk_at "S"
        refine r_sortSet (ns := ls4) (c := c) upd_same hc (by omega) fun u hu => ?_
        walk_at "S"
        have hsl4 : (sortI (dedup ls4)).length ≤ ls4.length := by
          rw [(sortI_perm _).length_eq]
          exact len_dedup _
        refine r_tupLI (ns := sortI (dedup ls4)) (by walk_at "sq") fun t ht => ?_
        exact q t _ _ (((B4.new hp).new hu).new ht) (((s4.new hp).new hu).new ht) (SqT.of upd_same) (by omega)
      · intro NX k
        walk_at "S"
        refine t_iteD (fun _ => ?_) (fun _ => ?_)
        · walk_at "S"
          refine c_draw B3 (by decide) fun d H5 d0 d1 B5 s5 => ?_
          have n5 : H5 n = some (.lst (nm.map V.int)) := by walk_at "hp"
          have e5 : H5 l' = some (.lst (ls'.map V.int)) := by walk_at "hp"
          walk_at "S"
          rename_i v hv
          refine r_cat (xs := ls'.map V.int) (by walk_at "hp") upd_same (by rw [List.length_map]; show _ + 2 ≤ _; omega) fun u hu => ?_
          walk_at "S"
          refine k _ _ ⟨u, ls' ++ [d * 10 ^ Int.toNat 8, if nm.getD (Int.toNat 0) 0 - 1 > 0 then nm.getD (Int.toNat 0) 0 - 1 else 0], rfl, (B5.new hv).new hu, ((s3.trans s5).new hv).new hu, ?_, ?_⟩
          · rw [upd_same, List.map_append]
            rfl
          · rw [List.length_append]
            show _ + 2 ≤ _
            omega
        · walk_at "S"
          exact k _ _ ⟨l', ls', rfl, B3, s3, e3, by omega⟩
    · intro NX k
      walk_at "S"
      refine t_iteD (fun _ => ?_) (fun _ => ?_)
      · walk_at "S"
        refine c_draw B (by decide) fun d H5 d0 d1 B5 s5 => ?_
        have n5 : H5 n = some (.lst (nm.map V.int)) := by walk_at "hp"
        have e5 : H5 l = some (.lst (ls.map V.int)) := by walk_at "hp"
        walk_at "S"
        rename_i v hv
        refine r_cat (xs := ls.map V.int) (by walk_at "hp") upd_same (by rw [List.length_map]; show _ + 3 ≤ _; omega) fun u hu => ?_
        walk_at "S"
        refine k _ _ ⟨u, ls ++ [d, us - 1, 10 ^ Int.toNat 18], rfl, (B5.new hv).new hu, ((s.trans s5).new hv).new hu, ?_, ?_, ?_⟩
        · walk_at "hp"
        · rw [upd_same, List.map_append]
          rfl
        · rw [List.length_append]
          show _ + 3 ≤ _
          omega
      · walk_at "S"
        exact k _ _ ⟨l, ls, rfl, B, s, h1, h2, by omega⟩
open PySem PySem.Spec PyProof.Rows L2 LW LM
/-! ### steps of a reading, heaps: short tactics -/
/-! ### dicts of dicts of weights -/
structure WD (H0 H : Hp) (d : Addr) (tops : List (Int × Addr)) (inner : Int → List (Int × Int)) : Prop where
  d0 : H0 d = none
  a0 : ∀ k a, look tops k = some a → H0 a = none
  same : Same H0 H
  top : H d = some (.dK (encD kI V.ref tops))
  inn : ∀ k a, look tops k = some a → H a = some (.dK (encI (inner k))) ∧ a ≠ d
  inj : ∀ k l a, look tops k = some a → look tops l = some a → k = l
section
variable {H0 H H' : Hp} {d p : Addr} {tops : List (Int × Addr)} {inner : Int → List (Int × Int)} {o : HO}
theorem WD.go (W : WD H0 H d tops inner) (s : Same H H') : WD H0 H' d tops inner :=
  ⟨W.d0, W.a0, W.same.trans s, s _ _ W.top, fun k a e => ⟨s _ _ (W.inn k a e).1, (W.inn k a e).2⟩, W.inj⟩
theorem WD.new (W : WD H0 H d tops inner) (h : H p = none) : WD H0 (upd H p o) d tops inner := W.go (L2.Same.new h)
/-- a write to another thing that was not there at first -/
theorem WD.mut (W : WD H0 H d tops inner) (h0 : H0 p = none) (nd : p ≠ d) (ni : ∀ k a, look tops k = some a → p ≠ a) : WD H0 (upd H p o) d tops inner :=
  ⟨W.d0, W.a0, W.same.mut h0, u_oth nd.symm W.top, fun k a e => ⟨u_oth (ni k a e).symm (W.inn k a e).1, (W.inn k a e).2⟩, W.inj⟩
/-- a new inner dict -/
theorem WD.add (W : WD H0 H d tops inner) {x : Int} (hx : look tops x = none) (h : H p = none) (hi : inner x = []) :
    WD H0 (upd (upd H p (.dK [])) d (.dK (encD kI V.ref (put tops x p)))) d (put tops x p) inner := by
  have np : p ≠ d := (ne_none h W.top).symm
  have hp0 := none_of W.same h
  refine ⟨W.d0, fun k a e => ?_, (W.same.upd h).mut W.d0, upd_same, fun k a e => ?_, fun k l a e f => ?_⟩
  · rw [look_put] at e
    by_cases hk : k = x
    · rw [if_pos hk] at e
      exact Option.some.inj e ▸ hp0
    · rw [if_neg hk] at e
      exact W.a0 k a e
  · rw [look_put] at e
    by_cases hk : k = x
    · rw [if_pos hk] at e
      have := Option.some.inj e
      subst this
      subst hk
      refine ⟨u_oth np ?_, np⟩
      rw [upd_same, hi]
      rfl
    · rw [if_neg hk] at e
      have q := W.inn k a e
      exact ⟨u_oth q.2 (u_old q.1 h), q.2⟩
  · rw [look_put] at e f
    by_cases hk : k = x
    · by_cases hl : l = x
      · rw [hk, hl]
      · rw [if_pos hk] at e
        rw [if_neg hl] at f
        have := Option.some.inj e
        subst this
        exact absurd rfl (ne_none h (W.inn l p f).1)
    · by_cases hl : l = x
      · rw [if_neg hk] at e
        rw [if_pos hl] at f
        have := Option.some.inj f
        subst this
        exact absurd rfl (ne_none h (W.inn k p e).1)
      · rw [if_neg hk] at e
        rw [if_neg hl] at f
        exact W.inj k l a e f
def bump (inner : Int → List (Int × Int)) (x y c : Int) : Int → List (Int × Int) := fun k => if k = x then acc (inner k) y c else inner k
theorem bump2 (inner : Int → List (Int × Int)) (x y c k : Int) : bump (bump inner x y c) y x c k = accs (inner k) (con k (x, y) c) := by
  unfold bump con
  by_cases h1 : k = x <;> by_cases h2 : k = y
  · subst h1
    subst h2
    rw [if_pos rfl, if_pos rfl, if_pos rfl]
    rfl
  · subst h1
    rw [if_neg h2, if_pos rfl, if_pos rfl, if_neg (fun e => h2 e.symm)]
    rfl
  · subst h2
    rw [if_pos rfl, if_neg h1, if_neg (fun e => h1 e.symm), if_pos rfl]
    rfl
  · rw [if_neg h2, if_neg h1, if_neg (fun e => h1 e.symm), if_neg (fun e => h2 e.symm)]
    rfl
theorem innerC_snoc (cs : List (P2 × Int)) (p : P2) (c x : Int) : innerC (cs ++ [(p, c)]) x = accs (innerC cs x) (con x p c) := by
  unfold innerC accs
  rw [List.flatMap_append, List.foldl_append]
  simp
theorem bump_snoc (cs : List (P2 × Int)) (x y c : Int) : bump (bump (innerC cs) x y c) y x c = innerC (cs ++ [((x, y), c)]) := by
  funext k
  rw [bump2, innerC_snoc]
theorem innerC_nd (cs : List (P2 × Int)) (x : Int) : (keys (innerC cs x)).Nodup := nodup_accs _ nd_nil
theorem WD.bump (W : WD H0 H d tops inner) {x a y c} (hx : look tops x = some a) : WD H0 (upd H a (.dK (encI (acc (inner x) y c)))) d tops (bump inner x y c) := by
  have q := W.inn x a hx
  refine ⟨W.d0, W.a0, W.same.mut (W.a0 x a hx), u_oth q.2.symm W.top, fun k b e => ?_, W.inj⟩
  have r := W.inn k b e
  refine ⟨?_, r.2⟩
  unfold K15.bump
  by_cases hk : k = x
  · subst hk
    rw [hx] at e
    have := Option.some.inj e
    subst this
    rw [if_pos rfl, upd_same]
  · rw [if_neg hk]
    refine u_oth (fun z => hk ?_) r.1
    subst z
    exact W.inj k x b e hx
end
section
variable {K : PySem.W.Frag} {H0 H : Hp} {d : Addr} {tops : List (Int × Addr)} {inner : Int → List (Int × Int)} {σ : L2.St} {D : Ends} {w i j : Nat} {x y c : Int} {te : TE}
theorem accs_len {κ : Type} [DecidableEq κ] (cs : List (κ × Int)) : ∀ l : List (κ × Int), (accs l cs).length ≤ l.length + cs.length := by
  induction cs with
  | nil => intro l; exact Nat.le_refl _
  | cons c cs ih =>
    intro l
    have h1 := ih (acc l c.1 c.2)
    have h2 : (acc l c.1 c.2).length ≤ l.length + 1 := length_put _ _ _
    show (accs (acc l c.1 c.2) cs).length ≤ _
    rw [List.length_cons]
    omega
theorem con_len (x : Int) (p : P2) (c : Int) : (con x p c).length ≤ 2 := by
  unfold con
  rw [List.length_append]
  split <;> split <;> exact Nat.le_of_ble_eq_true rfl
theorem innerC_len (cs : List (P2 × Int)) (x : Int) : (innerC cs x).length ≤ 2 * cs.length := by
  have h : (cs.flatMap fun e => con x e.1 e.2).length ≤ 2 * cs.length := by
    induction cs with
    | nil => exact Nat.le_refl _
    | cons c cs ih =>
      rw [List.flatMap_cons, List.length_append, List.length_cons]
      have := con_len x c.1 c.2
      omega
  have := accs_len (cs.flatMap fun e => con x e.1 e.2) []
  unfold innerC
  simp only [List.length_nil, Nat.zero_add] at this
  omega
/-- w[x][y] = w[x].get(y, 0) + e -/
theorem s_bump (W : WD H0 H d tops inner) (hw : σ[w]? = some (some (.ref d))) (hi : σ[i]? = some (some (.int x))) (hj : σ[j]? = some (some (.int y))) {a : Addr} (hx : look tops x = some a) (hz : (inner x).length < 10000000)
    (ht : ∀ QV : VK, (∀ H', Same H H' → QV (.int c) H') → te σ H QV) (h : ∀ H', WD H0 H' d tops (bump inner x y c) → D.nx σ H') :
    sDPut (tDGet (tVar w) (tVar i)) (tVar j) (tOp oAdd (tDGet2 (tDGet (tVar w) (tVar i)) (tVar j) (tC (.int 0))) te) D σ H := by
  have q := W.inn x a hx
  refine s_dput ?_
  refine e_op ?_
  refine e_dget2 ?_
  refine e_dget ?_
  refine e_var hw ?_
  refine e_var hi ?_
  refine k_get (f := V.ref) (.inl W.top) hx ?_
  refine q_isD (isD_K (.inl q.1)) ?_
  refine e_var hj ?_
  refine e_c ?_
  refine k_get2 (f := V.int) (.inl q.1) ?_
  rw [getD_map V.int _ 0]
  refine ht _ fun H' s => ?_
  refine r_add ?_
  refine e_dget ?_
  refine e_var hw ?_
  refine e_var hi ?_
  have W' := W.go s
  have q' := W'.inn x a hx
  refine k_get (f := V.ref) (.inl W'.top) hx ?_
  refine e_var hj ?_
  refine k_put (f := V.int) q'.1 (by rw [sizeLine_eq]; omega) ?_
  exact h _ (W'.bump hx)
end
theorem in_t {α β : Type} {f : α → β} {o : Option α} (h : (Option.map f o).isSome = true) : ∃ a, o = some a := by
  cases o with
  | none => cases h
  | some a => exact ⟨a, rfl⟩
theorem in_f {α β : Type} {f : α → β} {o : Option α} (h : (Option.map f o).isSome = false) : o = none := by
  cases o with
  | none => rfl
  | some a => cases h
theorem nin_t {α β : Type} {f : α → β} {o : Option α} (h : (!(Option.map f o).isSome) = true) : o = none := in_f (by rw [Bool.not_eq_true'] at h; exact h)
theorem nin_f {α β : Type} {f : α → β} {o : Option α} (h : (!(Option.map f o).isSome) = false) : ∃ a, o = some a := in_t (by rw [Bool.not_eq_false'] at h; exact h)
theorem dedup_snoc {α : Type} [DecidableEq α] (xs : List α) (x : α) : dedup (xs ++ [x]) = addN (dedup xs) x := by
  unfold dedup
  rw [List.foldl_append]
  rfl
theorem zipT_get {row : List Int} {i : Nat} {x y : Int} (hx : row[i]? = some x) (hy : row[i + 1]? = some y) : (zipT row)[i]? = some (x, y) := by
  unfold zipT
  rw [List.getElem?_zip_eq_some, List.getElem?_drop, Nat.add_comm 1 i]
  exact ⟨hx, hy⟩
theorem zipT_len (row : List Int) : (zipT row).length = row.length - 1 := by
  unfold zipT
  rw [List.length_zip, List.length_drop]
  omega
theorem getD_of {row : List Int} {i : Nat} {n : Int} {x : Int} (h : row[i]? = some x) (e : n = (i : Int)) : row.getD n.toNat 0 = x := by
  subst e
  rw [Int.toNat_natCast, List.getD_eq_getElem?_getD, h]
  rfl
theorem look_nil {κ β : Type} [DecidableEq κ] {k : κ} {v : β} (h : look ([] : List (κ × β)) k = some v) : False := by cases h
theorem mem_of_get {α : Type} {l : List α} {i : Nat} {x : α} (h : l[i]? = some x) : x ∈ l := List.mem_of_getElem? h
/-! ### the weights of the law -/
def sp_weights (K : PySem.W.Frag) : Sp := sp1 fun x H Q => ∃ (r : Addr) (row : List Int), x = .ref r ∧ SqL K H r (row.map V.int) ∧ row.length ≤ 4000 ∧
  ∀ (d : Addr) (tops : List (Int × Addr)) H', WD H H' d tops (innerC (ones (zipT row))) → keys tops = nums row → Q (.ref d) H'
abbrev n__law_weights : List Str := ["row", "weights", "k", "one", "other"]
def t__law_weights (K : PySem.W.Frag) (w : World) : TS :=
  (tSeq (tAsg tDNewK (gName 1))
    (tSeq (tFor (iRng1 (tCons (tCB (oLen K) (tCons (tVar 0) tNil)) tNil)) (gName 2)
    (tIfS (tB (tDNotIn (tOp (rIxL K) (tVar 0) (tVar 2)) (tVar 1))) (sDPut (tVar 1) (tOp (rIxL K) (tVar 0) (tVar 2)) tDNewK) tNext))
    (tSeq (tFor (iRng1 (tCons (tOp oSub (tCB (oLen K) (tCons (tVar 0) tNil)) (tC (.int 1))) tNil)) (gName 2)
    (tSeq (tPar 3 4 (tCons (tOp (rIxL K) (tVar 0) (tVar 2)) (tCons (tOp (rIxL K) (tVar 0) (tOp oAdd (tVar 2) (tC (.int 1)))) tNil)))
    (tSeq (sDPut (tDGet (tVar 1) (tVar 3)) (tVar 4) (tOp oAdd (tDGet2 (tDGet (tVar 1) (tVar 3)) (tVar 4) (tC (.int 0))) (tC (.int 1))))
    (sDPut (tDGet (tVar 1) (tVar 4)) (tVar 3) (tOp oAdd (tDGet2 (tDGet (tVar 1) (tVar 4)) (tVar 3) (tC (.int 0))) (tC (.int 1)))))))
    (tRet (tVar 1)))))
theorem r_weights {K : PySem.W.Frag} {w : World} (vs : List V) (H : Hp) (Q : VK) (E : XK) (h : sp_weights K vs H Q E) : t__law_weights K w { nx := fun _ H' => Q .non H', rt := Q } (start n__law_weights vs) H := by
  obtain ⟨_, rfl, r, row, rfl, hS, hlen, q⟩ := h
  unfold t__law_weights
  walk_at "S"
  rename_i d hd
  have W0 : WD H (upd H d (.dK [])) d [] fun _ => [] := ⟨hd, fun _ _ e => (look_nil e).elim, L2.Same.new hd, upd_same, fun _ _ e => (look_nil e).elim, fun _ _ _ e => (look_nil e).elim⟩
  refine for_w (w_rng (lo := 0) (n := row.length)) (fun i σ H' => ∃ (y2 : Option V) (tops : List (Int × Addr)), σ = [some (.ref r), some (.ref d), y2, none, none] ∧ WD H H' d tops (fun _ => []) ∧ keys tops = dedup (row.take i))
    ⟨none, [], rfl, W0, rfl⟩ (fun _ _ _ _ _ => trivial) ?_ ?_
  · rintro i σ H' x _ hi ⟨y2, tops, rfl, W, hk⟩ ⟨rfl, rfl⟩
    have hS' := W.same.seq hS
    obtain ⟨x, ex, _⟩ := map_int_at (row := row) (i := i) hi
    have ez : row.take (i + 1) = row.take i ++ [x] := by
      rw [List.take_add_one, ex]
      rfl
    walk_at "S"
    rw [getD_of ex (by omega)]
    refine k_in (f := V.ref) (.inl W.top) ?_
    walk_at "S"
    refine t_ite (fun e => ?_) (fun e => ?_)
    · have ex0 := nin_t e
      walk_at "S"
      rename_i p hp
      rw [getD_of ex (by omega)]
      have hle : tops.length ≤ i := by
        have h1 := len_dedup (row.take i)
        rw [← hk, List.length_take] at h1
        unfold keys at h1
        rw [List.length_map] at h1
        omega
      refine k_put (f := V.ref) (m := p) (u_old W.top hp) (by rw [sizeLine_eq]; omega) ?_
      refine ⟨_, _, rfl, W.add ex0 hp rfl, ?_⟩
      rw [keys_put, hk, ez, dedup_snoc]
      rfl
    · obtain ⟨a, ea⟩ := nin_f e
      walk_at "S"
      refine ⟨_, tops, rfl, W, ?_⟩
      rw [hk, ez, dedup_snoc]
      unfold addN
      rw [if_pos]
      rw [← hk]
      refine Decidable.byContradiction fun z => ?_
      rw [look_none.mpr z] at ea
      cases ea
  · rintro σ H' ⟨y2, tops, rfl, W, hk⟩
    rw [List.take_length] at hk
    have hS' := W.same.seq hS
    walk_at "S"
    have hn : (↑row.length - 1 : Int).toNat = row.length - 1 := by omega
    rw [hn]
    have eq0 : (fun _ => [] : Int → List (Int × Int)) = innerC (ones ((zipT row).take 0)) := rfl
    rw [eq0] at W
    refine for_w (w_rng (lo := 0) (n := row.length - 1)) (fun i σ H' => ∃ (y2 y3 y4 : Option V), σ = [some (.ref r), some (.ref d), y2, y3, y4] ∧ WD H H' d tops (innerC (ones ((zipT row).take i))))
      ⟨_, none, none, rfl, W⟩ (fun _ _ _ _ _ => trivial) ?_ ?_
    · rintro i σ H' x _ hi ⟨y2, y3, y4, rfl, W⟩ ⟨rfl, rfl⟩
      have hS' := W.same.seq hS
      obtain ⟨x, ex, _⟩ := map_int_at (row := row) (i := i) (by omega)
      obtain ⟨y, ey, _⟩ := map_int_at (row := row) (i := i + 1) (by omega)
      walk_at "T"
      rw [getD_of ex (by omega), getD_of ey (by omega)]
      obtain ⟨a, ha⟩ := mem_keys_look (l := tops) (k := x) (by rw [hk]; exact mem_dedup.mpr (mem_of_get ex))
      obtain ⟨b, hb⟩ := mem_keys_look (l := tops) (k := y) (by rw [hk]; exact mem_dedup.mpr (mem_of_get ey))
      have hl : ∀ z, (innerC (ones ((zipT row).take i)) z).length ≤ 8000 := fun z => by
        have h1 := innerC_len (ones ((zipT row).take i)) z
        unfold ones at h1 ⊢
        rw [List.length_map, List.length_take, zipT_len] at h1
        omega
      with_reducible refine s_bump (x := x) (y := y) W ?v1 ?v2 ?v3 ha (c := 1) (by have := hl x; omega) (fun QV hq => e_c (hq _ (Same.refl _))) fun H2 W2 => ?_
      case v1 => rfl
      case v2 => rfl
      case v3 => rfl
      have hl2 : (bump (innerC (ones ((zipT row).take i))) x y 1 y).length ≤ 8001 := by
        unfold bump
        have h1 := hl y
        split
        · have : (acc (innerC (ones ((zipT row).take i)) y) y 1).length ≤ (innerC (ones ((zipT row).take i)) y).length + 1 := length_put _ _ _
          omega
        · omega
      with_reducible refine s_bump (x := y) (y := x) W2 ?v1 ?v2 ?v3 hb (c := 1) (by omega) (fun QV hq => e_c (hq _ (Same.refl _))) fun H3 W3 => ?_
      case v1 => rfl
      case v2 => rfl
      case v3 => rfl
      refine ⟨_, _, _, rfl, ?_⟩
      rw [bump_snoc] at W3
      have ez : (zipT row).take (i + 1) = (zipT row).take i ++ [(x, y)] := by
        rw [List.take_add_one, zipT_get ex ey]
        rfl
      rw [ez]
      unfold ones at W3 ⊢
      rw [List.map_append]
      exact W3
    · rintro σ H' ⟨y2, y3, y4, rfl, W⟩
      walk_at "S"
      rw [List.take_of_length_le (by rw [zipT_len]; exact Nat.le_refl _)] at W
      exact q d tops H' W hk
open PySem PySem.Spec PyProof.Rows L2 LW LM
/-! ### steps of a reading, heaps: short tactics -/
theorem c_weights {K : PySem.W.Frag} {H : Hp} {r : Addr} {row : List Int} {Q : VK} {E : XK} (hS : SqL K H r (row.map V.int)) (hl : row.length ≤ 4000) (h : ∀ (d : Addr) (tops : List (Int × Addr)) H', WD H H' d tops (innerC (ones (zipT row))) → keys tops = nums row → Q (.ref d) H') :
    sp_weights K ([.ref r] ++ []) H Q E := ⟨_, rfl, r, row, rfl, hS, hl, h⟩
theorem WD.unlock {H0 H H' : Hp} {d a : Addr} {tops : List (Int × Addr)} {inner : Int → List (Int × Int)} {x : Int} (W : WD H0 H d tops inner) (hx : look tops x = some a)
    (h : ∀ c o, H c = some o → (H0 c ≠ none ∨ c = d ∨ ∃ k, look tops k = some c) → c ≠ a → H' c = some o) : WD H0 (upd H' a (.dK (encI (inner x)))) d tops inner := by
  have q := W.inn x a hx
  refine ⟨W.d0, W.a0, fun c o e => ?_, ?_, fun k b e => ?_, W.inj⟩
  · have n : c ≠ a := ne_of_none e (W.a0 x a hx)
    rw [upd_ne n]
    exact h c o (W.same c o e) (.inl (by rw [e]; exact fun z => nomatch z)) n
  · rw [upd_ne q.2.symm]
    exact h d _ W.top (.inr (.inl rfl)) q.2.symm
  · have r := W.inn k b e
    refine ⟨?_, r.2⟩
    by_cases hb : b = a
    · subst hb
      rw [upd_same, W.inj k x b e hx]
    · rw [upd_ne hb]
      exact h b _ r.1 (.inr (.inr ⟨k, e⟩)) hb
theorem r_listDI {H : Hp} {d : Addr} {β : Type} {f : β → V} {l : List (Int × β)} {Q : VK} (hd : H d = some (.dK (encD kI f l))) (h : ∀ q, H q = none → Q (.ref q) (upd H q (.lst ((keys l).map V.int)))) : rListD [.ref d] H Q := by
  refine ⟨d, _, rfl, hd, fun q hq => ?_⟩
  have e : (encD kI f l).map (fun kv => kV kv.1) = (keys l).map V.int := by
    unfold LW.encD keys
    rw [List.map_map, List.map_map]
    rfl
  rw [e]
  exact h q hq
theorem r_sortedI {K : PySem.W.Frag} {H : Hp} {a : Addr} {ns : List Int} {Q : VK} (hs : SqL K H a (ns.map V.int)) (h : ∀ p, H p = none → Q (.ref p) (upd H p (.lst ((sortI ns).map V.int)))) : rSortedI K [.ref a] H Q :=
  ⟨a, ns, rfl, hs, fun ns' p hp hs hn => by
    rw [sortI_eq hp hs]
    exact h p hn⟩
theorem encI_get {l : List (Int × Int)} {j : Nat} {k : Key} {v : V} (h : (encI l)[j]? = some (k, v)) : ∃ o c, l[j]? = some (o, c) ∧ k = kI o ∧ v = .int c := by
  unfold encI LW.encD at h
  rw [List.getElem?_map] at h
  cases e : l[j]? with
  | none => rw [e] at h; cases h
  | some p =>
    rw [e] at h
    have := Option.some.inj h
    exact ⟨p.1, p.2, rfl, (congrArg Prod.fst this).symm, (congrArg Prod.snd this).symm⟩
theorem take_snoc {α : Type} {l : List α} {j : Nat} {x : α} (h : l[j]? = some x) : l.take (j + 1) = l.take j ++ [x] := by
  rw [List.take_add_one, h]
  rfl
theorem S_snoc {κ : Type} [DecidableEq κ] (P : κ → Bool) (l : List (κ × Int)) (k : κ) (c : Int) : S P (l ++ [(k, c)]) = S P l + if P k = true then c else 0 := by
  rw [S_append, S_cons, S_nil, Int.add_zero]
theorem sumOn_snoc (sd : List (Int × Int)) (i : Int) (l : List (Int × Int)) (o c : Int) : sumOn sd i (l ++ [(o, c)]) = sumOn sd i l + if look sd o = some i then c else 0 := by
  unfold sumOn
  rw [S_snoc]
  congr 1
  by_cases h : look sd o = some i
  · rw [if_pos h, if_pos (decide_eq_true h)]
  · rw [if_neg h, if_neg (by rw [decide_eq_false h]; exact Bool.false_ne_true)]
def sp_sides (K : PySem.W.Frag) : Sp := sp1 fun x H Q => ∃ (r : Addr) (row : List Int), x = .ref r ∧ SqL K H r (row.map V.int) ∧ row.length ≤ 4000 ∧
  ∀ (t : Addr) H', Same H H' → H' t = some (.tup ((leftNums row).map V.int)) → Q (.ref t) H'
abbrev n__law_sides : List Str := ["row", "weights", "side", "number", "sums", "other", "weight", "ways", "k", "left"]
def t__law_sides (K : PySem.W.Frag) (w : World) : TS :=
  (tSeq (tAsg (tCall (sp_weights K) [] E0 (tCons (tVar 0) tNil)) (gName 1))
    (tSeq (tAsg tDNewK (gName 2))
    (tSeq (tFor (iList K (tCB (rSortedI K) (tCons (tCB rListD (tCons (tVar 1) tNil)) tNil))) (gName 3)
    (tSeq (tAsg (tLst (tCons (tC (.int 0)) (tCons (tC (.int 0)) tNil))) (gName 4))
    (tSeq (tLock (tFor (iItems (tDGet (tVar 1) (tVar 3))) (gTup K 2 (gCons (gName 5) (gCons (gName 6) gNil)))
    (tIfS (tB (tDIn (tVar 5) (tVar 2))) (tAsg (tOp oAdd (tOp (rIxL K) (tVar 4) (tDGet (tVar 2) (tVar 5))) (tVar 6)) (gSub (tVar 4) (tDGet (tVar 2) (tVar 5)) rSetL)) tNext)))
    (sDPut (tVar 2) (tVar 3) (tCB oInt (tCons (tOp oLt (tOp (rIxL K) (tVar 4) (tC (.int 1))) (tOp (rIxL K) (tVar 4) (tC (.int 0)))) tNil))))))
    (tSeq (tAsg (tLst (tCons (tC (.int 0)) (tCons (tC (.int 0)) tNil))) (gName 7))
    (tSeq (tFor (iRng1 (tCons (tOp oSub (tCB (oLen K) (tCons (tVar 0) tNil)) (tC (.int 1))) tNil)) (gName 8)
    (tIfS (tTest (tOp rNe (tDGet (tVar 2) (tOp (rIxL K) (tVar 0) (tVar 8))) (tDGet (tVar 2) (tOp (rIxL K) (tVar 0) (tOp oAdd (tVar 8) (tC (.int 1))))))) (tAsg (tOp oAdd (tOp (rIxL K) (tVar 7) (tDGet (tVar 2) (tOp (rIxL K) (tVar 0) (tVar 8)))) (tC (.int 1))) (gSub (tVar 7) (tDGet (tVar 2) (tOp (rIxL K) (tVar 0) (tVar 8))) rSetL)) tNext))
    (tSeq (tAsg (tCB oInt (tCons (tOp oGt (tOp (rIxL K) (tVar 7) (tC (.int 1))) (tOp (rIxL K) (tVar 7) (tC (.int 0)))) tNil)) (gName 9))
    (tRet (tThen (tLc (iList K (tCB (rSortedI K) (tCons (tCB rListD (tCons (tVar 1) tNil)) tNil))) (gName 3) (tTest (tOp rEq (tDGet (tVar 2) (tVar 3)) (tVar 9))) (tVar 3) [3]) (kTup K)))))))))
theorem r_sides {K : PySem.W.Frag} {w : World} (vs : List V) (H : Hp) (Q : VK) (E : XK) (h : sp_sides K vs H Q E) : t__law_sides K w { nx := fun _ H' => Q .non H', rt := Q } (start n__law_sides vs) H := by
  obtain ⟨_, rfl, r, row, rfl, hS, hlen, q⟩ := h
  unfold t__law_sides
  walk_at "S"
  refine c_weights hS hlen fun d tops H1 W hk => ?_
  walk_at "S"
  rename_i s hs
  have hs0 := none_of W.same hs
  have nsd : s ≠ d := (ne_none hs W.top).symm
  have nsi : ∀ k a, look tops k = some a → s ≠ a := fun k a e => (ne_none hs (W.inn k a e).1).symm
  have W1 := W.new hs (o := .dK [])
  refine r_listDI W1.top fun p0 hp0 => ?_
  walk_at "S"
  refine r_sortedI (ns := keys tops) (by walk_at "sq") fun p1 hp1 => ?_
  have W3 := (W1.new hp0 (o := .lst ((keys tops).map V.int))).new hp1 (o := .lst ((sortI (keys tops)).map V.int))
  have h3s : upd (upd (upd H1 s (.dK [])) p0 (.lst ((keys tops).map V.int))) p1 (.lst ((sortI (keys tops)).map V.int)) s = some (.dK []) := by walk_at "hp"
  have h3p : upd (upd (upd H1 s (.dK [])) p0 (.lst ((keys tops).map V.int))) p1 (.lst ((sortI (keys tops)).map V.int)) p1 = some (.lst ((sortI (keys tops)).map V.int)) := upd_same
  generalize upd (upd (upd H1 s (.dK [])) p0 (.lst ((keys tops).map V.int))) p1 (.lst ((sortI (keys tops)).map V.int)) = H3 at W3 h3s h3p
  have nsp : s ≠ p1 := ne_of h3s h3p (fun z => nomatch z)
  have hmem : ∀ x, x ∈ sortI (keys tops) → ∃ a, look tops x = some a := fun x hx => mem_keys_look ((sortI_perm _).mem_iff.mp hx)
  have hnd : (sortI (keys tops)).Nodup := by
    rw [(sortI_perm _).nodup_iff, hk]
    exact nodup_dedup _
  have hks : sortI (keys tops) = sortI (nums row) := by rw [hk]
  have hsl : (sortI (keys tops)).length ≤ 4000 := by
    rw [(sortI_perm _).length_eq, hk]
    have := len_dedup row
    unfold nums
    omega
  generalize sortI (keys tops) = srt at h3p hmem hnd hks hsl
  generalize hin : innerC (ones (zipT row)) = inner at W3
  have hil : ∀ z, (inner z).length ≤ 8000 := fun z => by
    rw [← hin]
    have h1 := innerC_len (ones (zipT row)) z
    unfold ones at h1 ⊢
    rw [List.length_map, zipT_len] at h1
    omega
  walk_at "S"
  refine for_w (w_list (xs := srt.map V.int)) (fun i σ H' => ∃ (y3 y4 y5 y6 : Option V), σ = [some (.ref r), some (.ref d), some (.ref s), y3, y4, y5, y6, none, none, none] ∧ WD H H' d tops inner ∧ H' s = some (.dK (encI ((srt.take i).foldl (sideStep inner) []))) ∧ H' p1 = some (.lst (srt.map V.int)))
    ⟨none, none, none, none, rfl, W3, h3s, h3p⟩ ?_ ?_ ?_
  · rintro i σ H' _ ⟨y3, y4, y5, y6, rfl, W, e1, e2⟩
    exact SqL.of e2
  · rintro i σ _ x H' hi ⟨y3, y4, y5, y6, rfl, W, e1, e2⟩ ⟨rfl, hx⟩
    obtain ⟨x, ex, rfl⟩ := map_int_get hx
    rw [List.length_map] at hi
    obtain ⟨a, ha⟩ := hmem x (mem_of_get ex)
    have h01 := sidesAll_01 inner (srt.take i) (sd := []) (fun k v e => (look_nil e).elim)
    have hsz : ((srt.take i).foldl (sideStep inner) []).length ≤ i := by
      have h1 := keys_sides_eq inner (srt.take i) (sd := []) (hnd.sublist (List.take_sublist _ _)) (fun _ _ z => nomatch z)
      have h2 := congrArg List.length h1
      unfold keys at h2
      rw [List.length_map, List.length_append, List.length_take] at h2
      simp at h2
      omega
    rw [take_snoc ex, List.foldl_append]
    generalize (srt.take i).foldl (sideStep inner) [] = sd at e1 h01 hsz
    walk_at "T"
    rename_i u hu
    have hu0 := none_of W.same hu
    have nud : u ≠ d := (ne_none hu W.top).symm
    have nui : ∀ k a, look tops k = some a → u ≠ a := fun k a e => (ne_none hu (W.inn k a e).1).symm
    have nus : u ≠ s := (ne_none hu e1).symm
    have nup : u ≠ p1 := (ne_none hu e2).symm
    have Wu := W.new hu (o := .lst [.int 0, .int 0])
    have qa := Wu.inn x a ha
    have nas : a ≠ s := (nsi x a ha).symm
    have nap : a ≠ p1 := ne_of (W.inn x a ha).1 e2 (fun z => nomatch z)
    refine s_lock qa.1 trivial fun od => ?_
    obtain ⟨Hl, eHl⟩ : ∃ Hl, Hl = upd (upd H' u (.lst [.int 0, .int 0])) a (.frz od (.dK (encI (inner x)))) := ⟨_, rfl⟩
    rw [← eHl]
    have la : Hl a = some (.frz od (.dK (encI (inner x)))) := by rw [eHl, upd_same]
    have ld : Hl d = some (.dK (encD kI V.ref tops)) := by
      rw [eHl, upd_ne qa.2.symm]
      exact Wu.top
    have ls : Hl s = some (.dK (encI sd)) := by
      rw [eHl, upd_ne nas.symm, upd_ne nus.symm]
      exact e1
    have lp : Hl p1 = some (.lst (srt.map V.int)) := by
      rw [eHl, upd_ne nap.symm, upd_ne nup.symm]
      exact e2
    have lu : Hl u = some (.lst [.int 0, .int 0]) := by
      rw [eHl, upd_ne (nui x a ha), upd_same]
    have lk : ∀ c o, H' c = some o → c ≠ u → c ≠ a → Hl c = some o := fun c o e n1 n2 => by
      rw [eHl, upd_ne n2, upd_ne n1]
      exact e
    walk_at "T"
    refine k_get (f := V.ref) (.inl ld) ha ?_
    refine i_itemsE la ?_
    refine for_w (w_items (kvs := encI (inner x))) (fun j σ H'' => ∃ (z5 z6 : Option V) (s0 s1 : Int), σ = [some (.ref r), some (.ref d), some (.ref s), some (.int x), some (.ref u), z5, z6, none, none, none] ∧ Kb u Hl H'' ∧ H'' u = some (.lst [.int s0, .int s1]) ∧ s0 = sumOn sd 0 ((inner x).take j) ∧ s1 = sumOn sd 1 ((inner x).take j))
      ⟨_, _, 0, 0, rfl, Kb.refl _ _, lu, rfl, rfl⟩ ?_ ?_ ?_
    · rintro j σ H'' _ ⟨z5, z6, s0, s1, rfl, kb, hu'', _, _⟩
      exact kb _ _ la (nui x a ha).symm
    · rintro j σ H'' v _ hj ⟨z5, z6, s0, s1, rfl, kb, hu'', es0, es1⟩ ⟨T, kk, vv, ek, rfl, hT, rfl⟩
      obtain ⟨o, c, eo, rfl, rfl⟩ := encI_get ek
      have ls' := kb _ _ ls nus.symm
      refine g_tup (xs := [.int o, .int c]) (SqT.of upd_same) rfl ?_
      walk_at "T"
      refine k_in (f := V.int) (.inl (u_old ls' hT)) ?_
      walk_at "T"
      have n0 := sumOn_snoc sd 0 ((inner x).take j) o c
      have n1 := sumOn_snoc sd 1 ((inner x).take j) o c
      rw [← take_snoc eo] at n0 n1
      refine t_ite (fun e => ?_) (fun e => ?_)
      · obtain ⟨z, ez⟩ := in_t e
        rw [ez] at n0 n1
        rcases h01 o z ez with rfl | rfl
        · walk_at "T"
          refine k_get (f := V.int) (.inl (u_old ls' hT)) ez ?_
          walk_at "T"
          refine k_get (f := V.int) (.inl (u_old ls' hT)) ez ?_
          walk_at "T"
          refine ⟨_, _, s0 + c, s1, rfl, (kb.new hT).self, upd_same, ?_, ?_⟩
          · rw [n0, if_pos rfl, es0]
          · rw [n1, if_neg (by decide), es1, Int.add_zero]
        · walk_at "T"
          refine k_get (f := V.int) (.inl (u_old ls' hT)) ez ?_
          walk_at "T"
          refine k_get (f := V.int) (.inl (u_old ls' hT)) ez ?_
          walk_at "T"
          refine ⟨_, _, s0, s1 + c, rfl, (kb.new hT).self, upd_same, ?_, ?_⟩
          · rw [n0, if_neg (by decide), es0, Int.add_zero]
          · rw [n1, if_pos rfl, es1]
      · have ez := in_f e
        rw [ez] at n0 n1
        walk_at "T"
        refine ⟨_, _, s0, s1, rfl, kb.new hT, u_old hu'' hT, ?_, ?_⟩
        · rw [n0, if_neg (fun z => nomatch z), es0, Int.add_zero]
        · rw [n1, if_neg (fun z => nomatch z), es1, Int.add_zero]
    · rintro σ H'' ⟨z5, z6, s0, s1, rfl, kb, hu'', es0, es1⟩
      rw [len_enc, List.take_length] at es0 es1
      refine ⟨kb _ _ la (nui x a ha).symm, ?_⟩
      have W'' : WD H (upd H'' a (.dK (encI (inner x)))) d tops inner := W.unlock ha fun c o e core n => by
        have n1 : c ≠ u := by
          rcases core with z | rfl | ⟨k, z⟩
          · exact fun y => z (y ▸ hu0)
          · exact nud.symm
          · exact (nui k c z).symm
        exact kb _ _ (lk c o e n1 n) n1
      have s'' : upd H'' a (.dK (encI (inner x))) s = some (.dK (encI sd)) := u_oth nas.symm (kb _ _ ls nus.symm)
      have u'' : upd H'' a (.dK (encI (inner x))) u = some (.lst [.int s0, .int s1]) := u_oth (nui x a ha) hu''
      have p'' : upd H'' a (.dK (encI (inner x))) p1 = some (.lst (srt.map V.int)) := u_oth nap.symm (kb _ _ lp nup.symm)
      generalize upd H'' a (.dK (encI (inner x))) = H4 at W'' s'' u'' p''
      walk_at "S"
      refine k_put (f := V.int) s'' (by rw [sizeLine_eq]; omega) ?_
      refine ⟨_, _, _, _, rfl, W''.mut hs0 nsd nsi, ?_, u_oth nsp.symm p''⟩
      rw [upd_same]
      show _ = some (HO.dK (encI (sideStep inner sd x)))
      unfold sideStep
      rw [es0, es1]
      simp only [decide_eq_true_eq]
  · rintro σ H' ⟨y3, y4, y5, y6, rfl, W, e1, e2⟩
    rw [List.length_map, List.take_length] at e1
    have h01 := sidesAll_01 inner srt (sd := []) (fun k v e => (look_nil e).elim)
    have hkey : ∀ x, x ∈ row → ∃ z, look (srt.foldl (sideStep inner) []) x = some z := fun x hx => mem_keys_look ((keys_sides inner srt x).mpr (.inr (by
      rw [hks]
      exact (sortI_perm _).mem_iff.mpr (mem_dedup.mpr hx))))
    have hsd : sidesAll inner srt = srt.foldl (sideStep inner) [] := rfl
    generalize srt.foldl (sideStep inner) [] = sd at e1 h01 hkey hsd
    have hS' := W.same.seq hS
    walk_at "T"
    rename_i v hv
    have sv0 : ∀ {x z : Int}, look sd x = some z → sv sd x = z := fun e => by
      unfold sv
      rw [e]
      rfl
    have hn : (↑row.length - 1 : Int).toNat = row.length - 1 := by omega
    rw [hn]
    refine for_w (w_rng (lo := 0) (n := row.length - 1)) (fun k σ H'' => ∃ (y3 y4 y5 y6 y8 : Option V) (w0 w1 : Int), σ = [some (.ref r), some (.ref d), some (.ref s), y3, y4, y5, y6, some (.ref v), y8, none] ∧ Same H' H'' ∧ H'' v = some (.lst [.int w0, .int w1]) ∧ w0 = ahead sd (ones ((zipT row).take k)) ∧ w1 = behind sd (ones ((zipT row).take k)))
      ⟨_, _, _, _, _, 0, 0, rfl, L2.Same.new hv, upd_same, rfl, rfl⟩ (fun _ _ _ _ _ => trivial) ?_ ?_
    · rintro k σ _ x H'' hi ⟨y3, y4, y5, y6, y8, w0, w1, rfl, sm, hv'', ew0, ew1⟩ ⟨rfl, rfl⟩
      have hS'' := sm.seq hS'
      have hs'' := sm _ _ e1
      obtain ⟨x, ex, _⟩ := map_int_at (row := row) (i := k) (by omega)
      obtain ⟨y, ey, _⟩ := map_int_at (row := row) (i := k + 1) (by omega)
      obtain ⟨z1, ez1⟩ := hkey x (mem_of_get ex)
      obtain ⟨z2, ez2⟩ := hkey y (mem_of_get ey)
      have ez : ones ((zipT row).take (k + 1)) = ones ((zipT row).take k) ++ [((x, y), 1)] := by
        rw [take_snoc (zipT_get ex ey)]
        unfold ones
        rw [List.map_append]
        rfl
      rw [ez]
      have n0 : ahead sd (ones ((zipT row).take k) ++ [((x, y), 1)]) = w0 + if z1 < z2 then 1 else 0 := by
        unfold ahead at ew0 ⊢
        rw [S_snoc, ← ew0]
        show w0 + (if decide (sv sd x < sv sd y) = true then 1 else 0) = _
        rw [sv0 ez1, sv0 ez2]
        simp only [decide_eq_true_eq]
      have n1 : behind sd (ones ((zipT row).take k) ++ [((x, y), 1)]) = w1 + if z2 < z1 then 1 else 0 := by
        unfold behind at ew1 ⊢
        rw [S_snoc, ← ew1]
        show w1 + (if decide (sv sd y < sv sd x) = true then 1 else 0) = _
        rw [sv0 ez1, sv0 ez2]
        simp only [decide_eq_true_eq]
      walk_at "T"
      rw [getD_of ex (by omega)]
      refine k_get (f := V.int) (.inl hs'') ez1 ?_
      walk_at "T"
      rw [getD_of ey (by omega)]
      refine k_get (f := V.int) (.inl hs'') ez2 ?_
      walk_at "T"
      refine t_iteN (fun e => ?_) (fun e => ?_)
      · walk_at "T"
        rw [getD_of ex (by omega)]
        refine k_get (f := V.int) (.inl hs'') ez1 ?_
        rcases h01 x z1 ez1 with rfl | rfl
        · rcases h01 y z2 ez2 with rfl | rfl
          · exact absurd rfl e
          walk_at "T"
          rw [getD_of ex (by omega)]
          refine k_get (f := V.int) (.inl hs'') ez1 ?_
          walk_at "T"
          refine ⟨_, _, _, _, _, w0 + 1, w1, rfl, sm.mut hv, upd_same, ?_, ?_⟩
          · rw [n0]
            rfl
          · rw [n1]
            simp
        · rcases h01 y z2 ez2 with rfl | rfl
          · walk_at "T"
            rw [getD_of ex (by omega)]
            refine k_get (f := V.int) (.inl hs'') ez1 ?_
            walk_at "T"
            refine ⟨_, _, _, _, _, w0, w1 + 1, rfl, sm.mut hv, upd_same, ?_, ?_⟩
            · rw [n0]
              simp
            · rw [n1]
              rfl
          · exact absurd rfl e
      · subst e
        walk_at "T"
        refine ⟨_, _, _, _, _, w0, w1, rfl, sm, hv'', ?_, ?_⟩
        · rw [n0, if_neg (by omega), Int.add_zero]
        · rw [n1, if_neg (by omega), Int.add_zero]
    · rintro σ H'' ⟨y3, y4, y5, y6, y8, w0, w1, rfl, sm, hv'', ew0, ew1⟩
      rw [List.take_of_length_le (by rw [zipT_len]; exact Nat.le_refl _)] at ew0 ew1
      have W'' := W.go sm
      walk_at "T"
      refine r_listDI W''.top fun b0 hb0 => ?_
      walk_at "T"
      refine r_sortedI (ns := keys tops) (by walk_at "sq") fun b1 hb1 => ?_
      walk_at "T"
      rename_i f hf
      have hs'' : upd (upd H'' b0 (.lst ((keys tops).map V.int))) b1 (.lst ((sortI (keys tops)).map V.int)) s = some (.dK (encI sd)) := u_old (u_old (sm _ _ e1) hb0) hb1
      have sall : Same H (upd (upd H'' b0 (.lst ((keys tops).map V.int))) b1 (.lst ((sortI (keys tops)).map V.int))) := (W''.same.upd hb0).upd hb1
      have hb1' : upd (upd H'' b0 (.lst ((keys tops).map V.int))) b1 (.lst ((sortI (keys tops)).map V.int)) b1 = some (.lst ((sortI (keys tops)).map V.int)) := upd_same
      generalize upd (upd H'' b0 (.lst ((keys tops).map V.int))) b1 (.lst ((sortI (keys tops)).map V.int)) = H5 at hs'' sall hb1' hf
      have hmk : ∀ x, x ∈ sortI (keys tops) → x ∈ row := fun x hx => mem_dedup.mp (by
        have := (sortI_perm _).mem_iff.mp hx
        rw [hk] at this
        exact this)
      have hkk : sortI (keys tops) = srt := by rw [hks, hk]
      rw [hkk] at hb1' hmk
      refine lcp_w (w_list (xs := srt.map V.int)) (fun i => decide (sv sd (srt.getD i 0) = if w0 < w1 then 1 else 0)) (fun i => V.int (srt.getD i 0)) (by rw [List.length_map]; omega) hf (fun H6 s6 => SqL.of (s6 _ _ hb1')) ?_ ?_ ?_
      · rintro i H6 x _ ⟨rfl, _⟩
        exact Same.refl _
      · rintro i _ x H6 Rt Rf hi s6 ⟨rfl, hx⟩ kt kf
        obtain ⟨x, ex, rfl⟩ := map_int_get hx
        have eg : srt.getD i 0 = x := by
          rw [List.getD_eq_getElem?_getD, ex]
          rfl
        rw [eg] at kt kf
        obtain ⟨z, ez⟩ := hkey x (hmk x (mem_of_get ex))
        rw [sv0 ez] at kt kf
        walk_at "T"
        refine k_get (f := V.int) (.inl (s6 _ _ hs'')) ez ?_
        walk_at "T"
        simp only [decide_eq_true_eq] at kt kf ⊢
        by_cases hz : z = if w0 < w1 then 1 else 0
        · rw [if_pos hz]
          walk_at "T"
          exact kt _ (Same.refl _) hz
        · rw [if_neg hz]
          exact kf _ (Same.refl _) (decide_eq_false hz)
      · rintro H6 s6 h6
        have eg := given_filter srt (fun x => decide (sv sd x = if w0 < w1 then 1 else 0)) V.int (fun i => decide (sv sd (srt.getD i 0) = if w0 < w1 then 1 else 0)) (fun i => V.int (srt.getD i 0)) fun i x ex => by
          have eg : srt.getD i 0 = x := by
            rw [List.getD_eq_getElem?_getD, ex]
            rfl
          rw [eg]
          exact ⟨rfl, fun _ => rfl⟩
        rw [List.length_map, eg] at h6
        walk_at "T"
        refine r_tupLI (ns := srt.filter fun x => decide (sv sd x = if w0 < w1 then 1 else 0)) (SqL.of h6) fun t ht => ?_
        refine q t _ ((sall.trans s6).upd ht) ?_
        rw [upd_same]
        have : leftNums row = srt.filter fun x => decide (sv sd x = if w0 < w1 then 1 else 0) := by
          unfold leftNums
          rw [← leftBy_ones, hin, ← hks]
          unfold leftBy
          rw [hsd, ← ew0, ← ew1]
        rw [this]
open PySem PySem.Spec PyProof.Rows L2 LW LM
/-! ### steps of a reading, heaps: short tactics -/
theorem WD.frz {H0 H : Hp} {d b : Addr} {tops : List (Int × Addr)} {inner : Int → List (Int × Int)} {u o : HO} (W : WD H0 H d tops inner) (hb : H0 b = some u) : WD (upd H0 b o) (upd H b o) d tops inner := by
  have nd : d ≠ b := (ne_none W.d0 hb).symm
  have ni : ∀ k a, look tops k = some a → a ≠ b := fun k a e => (ne_none (W.a0 k a e) hb).symm
  refine ⟨u_none W.d0 nd, fun k a e => u_none (W.a0 k a e) (ni k a e), fun c z e => ?_, u_oth nd W.top, fun k a e => ⟨u_oth (ni k a e) (W.inn k a e).1, (W.inn k a e).2⟩, W.inj⟩
  by_cases hc : c = b
  · subst hc
    rw [upd_same] at e ⊢
    exact e
  · rw [upd_ne hc] at e ⊢
    exact W.same c z e
theorem WD.unfrz {H0 H : Hp} {d b : Addr} {tops : List (Int × Addr)} {inner : Int → List (Int × Int)} {u o : HO} (W : WD (upd H0 b o) H d tops inner) (hb : H0 b = some u) : WD H0 (upd H b u) d tops inner := by
  have nb : ∀ {c : Addr}, upd H0 b o c = none → c ≠ b ∧ H0 c = none := fun {c} e => by
    have n : c ≠ b := fun z => by
      subst z
      rw [upd_same] at e
      cases e
    rw [upd_ne n] at e
    exact ⟨n, e⟩
  refine ⟨(nb W.d0).2, fun k a e => (nb (W.a0 k a e)).2, fun c z e => ?_, u_oth (nb W.d0).1 W.top, fun k a e => ⟨u_oth (nb (W.a0 k a e)).1 (W.inn k a e).1, (W.inn k a e).2⟩, W.inj⟩
  by_cases hc : c = b
  · subst hc
    rw [upd_same, ← hb, e]
  · rw [upd_ne hc]
    exact W.same c z (by rw [upd_ne hc]; exact e)
theorem same_unfrz {H H' : Hp} {b : Addr} {u o : HO} (s : Same (upd H b o) H') (hb : H b = some u) : Same H (upd H' b u) := fun c z e => by
  by_cases hc : c = b
  · subst hc
    rw [upd_same, ← hb, e]
  · rw [upd_ne hc]
    exact s c z (by rw [upd_ne hc]; exact e)
/-- number → True, by the numbers in their sequence -/
def trues {α : Type} (l : List α) : List (α × Bool) := l.map fun x => (x, true)
theorem keys_trues {α : Type} (l : List α) : keys (trues l) = l := by
  unfold keys trues
  rw [List.map_map]
  exact List.map_id _
theorem r_sortDI {H : Hp} {a : Addr} {β : Type} {f : β → V} {l : List (Int × β)} {Q : VK} (hr : Rd H a (.dK (encD kI f l))) (h : ∀ p, H p = none → Q (.ref p) (upd H p (.lst ((sortI (keys l)).map V.int)))) : LS.rSortDI [.ref a] H Q :=
  ⟨a, _, keys l, rfl, hr, keys_enc kI f l, h⟩
theorem encB_get {l : List Int} {j : Nat} {k : Key} {v : V} (h : (encB (trues l))[j]? = some (k, v)) : ∃ o, l[j]? = some o ∧ k = kI o := by
  unfold encB LW.encD trues at h
  rw [List.getElem?_map, List.getElem?_map] at h
  cases e : l[j]? with
  | none => rw [e] at h; cases h
  | some p =>
    rw [e] at h
    have := Option.some.inj h
    exact ⟨p, rfl, (congrArg Prod.fst this).symm⟩
theorem encP_get {l : List (P2 × Int)} {j : Nat} {k : List Key} {v : V} (h : (encP l)[j]? = some (k, v)) : ∃ p c, l[j]? = some (p, c) ∧ k = LS.pK p ∧ v = .int c := by
  unfold encP LW.encD at h
  rw [List.getElem?_map] at h
  cases e : l[j]? with
  | none => rw [e] at h; cases h
  | some p =>
    rw [e] at h
    have := Option.some.inj h
    exact ⟨p.1, p.2, rfl, (congrArg Prod.fst this).symm, (congrArg Prod.snd this).symm⟩
theorem getD_get {α : Type} {l : List α} {i : Nat} {x d : α} (h : l[i]? = some x) : l.getD i d = x := by
  rw [List.getD_eq_getElem?_getD, h]
  rfl
section
variable {K : PySem.W.Frag} {H0 H : Hp} {D a s d1 : Addr} {tops : List (Int × Addr)} {inner : Int → List (Int × Int)} {sd : List (Int × Int)} {x dflt want : Int} {Q : VK} {x0 x1 x2 x3 x4 x5 x7 x8 x9 x10 x11 x12 : Option V}
theorem r_side (W : WD H0 H D tops inner) (ha : look tops x = some a) (hs : H s = some (.dK (encI sd))) (hsa : s ≠ a) (nd : (keys (inner x)).Nodup) (hz : (inner x).length ≤ 1000000) (hdw : dflt ≠ want) (q : ∀ H', Same H H' → Q (.int (sumOn sd want (inner x))) H') :
    (tCB (rSum K) (tCons (tLockE (tLc (iKeys (tDGet (tVar 3) (tVar 2))) (gName 5) (tTest (tOp rEq (tDGet2 (tVar 6) (tVar 5) (tC (.int dflt))) (tC (.int want)))) (tDGet (tDGet (tVar 3) (tVar 2)) (tVar 5)) [5])) tNil)) [x0, x1, some (.int x), some (.ref D), x4, x5, some (.ref s), x7, x8, x9, x10, x11, x12] H Q := by
  have qa := W.inn x a ha
  walk_at "T"
  refine e_lock qa.1 trivial fun od => ?_
  have la : upd H a (.frz od (.dK (encI (inner x)))) a = some (.frz od (.dK (encI (inner x)))) := upd_same
  have lD : upd H a (.frz od (.dK (encI (inner x)))) D = some (.dK (encD kI V.ref tops)) := u_oth qa.2.symm W.top
  have ls : upd H a (.frz od (.dK (encI (inner x)))) s = some (.dK (encI sd)) := u_oth hsa hs
  have hun : ∀ H', Same (upd H a (.frz od (.dK (encI (inner x))))) H' → Same H (upd H' a (.dK (encI (inner x)))) := fun H' z => same_unfrz z qa.1
  generalize upd H a (.frz od (.dK (encI (inner x)))) = HL at la lD ls hun
  walk_at "T"
  refine k_get (f := V.ref) (.inl lD) ha ?_
  refine i_keysK la ?_
  walk_at "T"
  rename_i f hf
  refine lcp_w (w_keys (kvs := encI (inner x))) (fun i => decide (look sd ((inner x).getD i (0, 0)).1 = some want)) (fun i => V.int ((inner x).getD i (0, 0)).2) (by rw [len_enc]; omega) hf (fun H6 s6 => s6 _ _ la) ?_ ?_ ?_
  · rintro i H6 v _ ⟨rfl, _⟩
    exact Same.refl _
  · rintro i _ v H6 Rt Rf hi s6 ⟨rfl, kk, vv, ek, rfl⟩ kt kf
    obtain ⟨o, c, eo, rfl, rfl⟩ := encI_get ek
    rw [getD_get eo] at kt kf
    walk_at "T"
    refine k_get2 (f := V.int) (.inl (s6 _ _ ls)) ?_
    rw [getD_map V.int _ dflt]
    walk_at "T"
    have key : (look sd o).getD dflt = want ↔ look sd o = some want := by
      cases look sd o with
      | none => exact ⟨fun e => absurd e hdw, fun e => nomatch e⟩
      | some z => exact ⟨fun e => congrArg some e, fun e => Option.some.inj e⟩
    refine t_iteD (fun e => ?_) (fun e => ?_)
    · walk_at "T"
      refine k_get (f := V.ref) (.inl (s6 _ _ lD)) ha ?_
      walk_at "T"
      refine k_get (f := V.int) (.inr ⟨od, s6 _ _ la⟩) (look_of_mem nd (mem_of_get eo)) ?_
      exact kt _ (Same.refl _) (decide_eq_true (key.mp e))
    · exact kf _ (Same.refl _) (decide_eq_false fun z => e (key.mpr z))
  · rintro H6 s6 h6
    have eg := given_filter (inner x) (fun p => decide (look sd p.1 = some want)) (fun p => V.int p.2) (fun i => decide (look sd ((inner x).getD i (0, 0)).1 = some want)) (fun i => V.int ((inner x).getD i (0, 0)).2) fun i p ex => by
      rw [getD_get ex]
      exact ⟨rfl, fun _ => rfl⟩
    rw [len_enc, eg] at h6
    refine ⟨s6 _ _ la, ?_⟩
    walk_at "T"
    have nfa : f ≠ a := ne_of h6 (s6 _ _ la) (fun z => nomatch z)
    refine r_sum (ns := ((inner x).filter fun p => decide (look sd p.1 = some want)).map (·.2)) (SqL.of ?_) ?_
    · rw [upd_ne nfa, h6, List.map_map]
      rfl
    · exact q _ (hun _ s6)
theorem r_way {op : R2} {cmp : Int → Int → Bool} (hop : ∀ (m n : Int) (H : Hp) (Q : VK), Q (.bl (cmp m n)) H → op (.int m) (.int n) H Q) {cs : List (P2 × Int)} (hd : H d1 = some (.dT (encP cs))) (hs : H s = some (.dK (encI sd))) (nd : (keys cs).Nodup) (hz : cs.length ≤ 1000000)
    (hk : ∀ p ∈ keys cs, ∃ z1 z2, look sd p.1 = some z1 ∧ look sd p.2 = some z2) (q : ∀ H', Same H H' → Q (.int (S (fun p => cmp (sv sd p.1) (sv sd p.2)) cs)) H') :
    (tCB (rSum K) (tCons (tLockE (tLc (iKeys (tVar 0)) (gName 12) (tTest (tOp op (tDGet (tVar 6) (tOp (rIxT K) (tVar 12) (tC (.int 0)))) (tDGet (tVar 6) (tOp (rIxT K) (tVar 12) (tC (.int 1)))))) (tDGet (tVar 0) (tVar 12)) [12])) tNil)) [some (.ref d1), x1, x2, x3, x4, x5, some (.ref s), x7, x8, x9, x10, x11, x12] H Q := by
  walk_at "T"
  refine e_lock hd trivial fun od => ?_
  have la : upd H d1 (.frz od (.dT (encP cs))) d1 = some (.frz od (.dT (encP cs))) := upd_same
  have ls : upd H d1 (.frz od (.dT (encP cs))) s = some (.dK (encI sd)) := u_oth (ne_of hs hd fun z => nomatch z) hs
  have hun : ∀ H', Same (upd H d1 (.frz od (.dT (encP cs)))) H' → Same H (upd H' d1 (.dT (encP cs))) := fun H' z => same_unfrz z hd
  generalize upd H d1 (.frz od (.dT (encP cs))) = HL at la ls hun
  walk_at "T"
  refine i_keysT la ?_
  walk_at "T"
  rename_i f hf
  refine lcp_w (w_keysT (kvs := encP cs)) (fun i => cmp (sv sd (cs.getD i ((0, 0), 0)).1.1) (sv sd (cs.getD i ((0, 0), 0)).1.2)) (fun i => V.int (cs.getD i ((0, 0), 0)).2) (by rw [len_enc]; omega) hf (fun H6 s6 => s6 _ _ la) ?_ ?_ ?_
  · rintro i H6 v _ ⟨rfl, _⟩
    exact Same.refl _
  · rintro i _ v H6 Rt Rf hi s6 ⟨rfl, kk, vv, t, ek, rfl, ht⟩ kt kf
    obtain ⟨p, c, eo, rfl, rfl⟩ := encP_get ek
    obtain ⟨z1, z2, e1, e2⟩ := hk p (List.mem_map_of_mem (mem_of_get eo))
    rw [getD_get eo] at kt kf
    have g1 : sv sd p.1 = z1 := by
      unfold sv
      rw [e1]
      rfl
    have g2 : sv sd p.2 = z2 := by
      unfold sv
      rw [e2]
      rfl
    rw [g1, g2] at kt kf
    have ht' : H6 t = some (.tup [.int p.1, .int p.2]) := ht
    walk_at "T"
    refine k_get (f := V.int) (.inl (s6 _ _ ls)) e1 ?_
    walk_at "T"
    refine k_get (f := V.int) (.inl (s6 _ _ ls)) e2 ?_
    refine hop _ _ _ _ ?_
    walk_at "T"
    refine t_ite (fun e => ?_) (fun e => ?_)
    · walk_at "T"
      refine p_get (f := V.int) (k := p) (.inr ⟨od, s6 _ _ la⟩) ht' (look_of_mem nd (mem_of_get eo)) ?_
      exact kt _ (Same.refl _) e
    · exact kf _ (Same.refl _) e
  · rintro H6 s6 h6
    have eg := given_filter cs (fun p => cmp (sv sd p.1.1) (sv sd p.1.2)) (fun p => V.int p.2) (fun i => cmp (sv sd (cs.getD i ((0, 0), 0)).1.1) (sv sd (cs.getD i ((0, 0), 0)).1.2)) (fun i => V.int (cs.getD i ((0, 0), 0)).2) fun i p ex => by
      rw [getD_get ex]
      exact ⟨rfl, fun _ => rfl⟩
    rw [len_enc, eg] at h6
    refine ⟨s6 _ _ la, ?_⟩
    walk_at "T"
    have nfa : f ≠ d1 := ne_of h6 (s6 _ _ la) (fun z => nomatch z)
    refine r_sum (ns := (cs.filter fun p => cmp (sv sd p.1.1) (sv sd p.1.2)).map (·.2)) (SqL.of ?_) ?_
    · rw [upd_ne nfa, h6, List.map_map]
      rfl
    · exact q _ (hun _ s6)
end
open PySem PySem.Spec PyProof.Rows L2 LW LM
/-! ### steps of a reading, heaps: short tactics -/
def sp_left_numbers (K : PySem.W.Frag) : Sp := sp2 fun x y H Q => ∃ (d1 d2 : Addr) (row : List Int), x = .ref d1 ∧ y = .ref d2 ∧ H d1 = some (.dT (encP (counts row))) ∧ H d2 = some (.dK (encB (trues (nums row)))) ∧ row.length ≤ 100000 ∧
  ∀ (t : Addr) H', Same H H' → H' t = some (.tup ((leftNums row).map V.int)) → Q (.ref t) H'
abbrev n_left_numbers : List Str := ["counts", "numbers", "number", "weights", "one", "other", "side", "left", "right", "ahead", "behind", "kept", "pair"]
def t_left_numbers (K : PySem.W.Frag) (w : World) : TS :=
  (tSeq (tAsg (tLockE (tDc (iKeys (tVar 1)) (gName 2) tYes (tVar 2) tDNewK [2])) (gName 3))
    (tSeq (tLock (tFor (iKeys (tVar 0)) (gTup K 2 (gCons (gName 4) (gCons (gName 5) gNil)))
    (tSeq (sDPut (tDGet (tVar 3) (tVar 4)) (tVar 5) (tOp oAdd (tDGet2 (tDGet (tVar 3) (tVar 4)) (tVar 5) (tC (.int 0))) (tDGet (tVar 0) (tTup (tCons (tVar 4) (tCons (tVar 5) tNil))))))
    (sDPut (tDGet (tVar 3) (tVar 5)) (tVar 4) (tOp oAdd (tDGet2 (tDGet (tVar 3) (tVar 5)) (tVar 4) (tC (.int 0))) (tDGet (tVar 0) (tTup (tCons (tVar 4) (tCons (tVar 5) tNil)))))))))
    (tSeq (tAsg tDNewK (gName 6))
    (tSeq (tFor (iList K (tCB LS.rSortDI (tCons (tVar 1) tNil))) (gName 2)
    (tSeq (tAsg (tCB (rSum K) (tCons (tLockE (tLc (iKeys (tDGet (tVar 3) (tVar 2))) (gName 5) (tTest (tOp rEq (tDGet2 (tVar 6) (tVar 5) (tC (.int 1))) (tC (.int 0)))) (tDGet (tDGet (tVar 3) (tVar 2)) (tVar 5)) [5])) tNil)) (gName 7))
    (tSeq (tAsg (tCB (rSum K) (tCons (tLockE (tLc (iKeys (tDGet (tVar 3) (tVar 2))) (gName 5) (tTest (tOp rEq (tDGet2 (tVar 6) (tVar 5) (tC (.int 0))) (tC (.int 1)))) (tDGet (tDGet (tVar 3) (tVar 2)) (tVar 5)) [5])) tNil)) (gName 8))
    (sDPut (tVar 6) (tVar 2) (tIf (tTest (tOp oLt (tVar 8) (tVar 7))) (tC (.int 1)) (tC (.int 0)))))))
    (tSeq (tAsg (tCB (rSum K) (tCons (tLockE (tLc (iKeys (tVar 0)) (gName 12) (tTest (tOp oLt (tDGet (tVar 6) (tOp (rIxT K) (tVar 12) (tC (.int 0)))) (tDGet (tVar 6) (tOp (rIxT K) (tVar 12) (tC (.int 1)))))) (tDGet (tVar 0) (tVar 12)) [12])) tNil)) (gName 9))
    (tSeq (tAsg (tCB (rSum K) (tCons (tLockE (tLc (iKeys (tVar 0)) (gName 12) (tTest (tOp oGt (tDGet (tVar 6) (tOp (rIxT K) (tVar 12) (tC (.int 0)))) (tDGet (tVar 6) (tOp (rIxT K) (tVar 12) (tC (.int 1)))))) (tDGet (tVar 0) (tVar 12)) [12])) tNil)) (gName 10))
    (tSeq (tAsg (tIf (tTest (tOp oGt (tVar 10) (tVar 9))) (tC (.int 1)) (tC (.int 0))) (gName 11))
    (tRet (tThen (tLc (iList K (tCB LS.rSortDI (tCons (tVar 6) tNil))) (gName 2) (tTest (tOp rEq (tDGet (tVar 6) (tVar 2)) (tVar 11))) (tVar 2) [2]) (kTup K))))))))))
theorem keys_counts (row : List Int) {p : P2} (h : p ∈ keys (counts row)) : p.1 ∈ row ∧ p.2 ∈ row := by
  unfold counts at h
  rcases (keys_accs _ _).mp h with h | h
  · cases h
  · unfold ones keys at h
    rw [List.map_map] at h
    obtain ⟨q, hq, rfl⟩ := List.mem_map.mp h
    have h2 := List.of_mem_zip hq
    exact ⟨h2.1, List.mem_of_mem_drop h2.2⟩
theorem counts_len (row : List Int) : (counts row).length ≤ row.length := by
  have h := accs_len (ones (zipT row)) []
  unfold ones at h
  rw [List.length_map, zipT_len] at h
  unfold counts ones
  simp only [List.length_nil, Nat.zero_add] at h
  omega
theorem nodup_take_get {α : Type} {l : List α} {i : Nat} {x : α} (nd : l.Nodup) (h : l[i]? = some x) : x ∉ l.take i := fun z => by
  have hi := (List.getElem?_eq_some_iff.mp h).1
  have e : l = l.take i ++ x :: l.drop (i + 1) := by
    rw [← (List.getElem?_eq_some_iff.mp h).2, ← List.drop_eq_getElem_cons hi, List.take_append_drop]
  rw [e] at nd
  exact (List.nodup_append.mp nd).2.2 x z x List.mem_cons_self rfl
theorem r_left_numbers {K : PySem.W.Frag} {w : World} (vs : List V) (H : Hp) (Q : VK) (E : XK) (h : sp_left_numbers K vs H Q E) : t_left_numbers K w { nx := fun _ H' => Q .non H', rt := Q } (start n_left_numbers vs) H := by
  obtain ⟨_, _, rfl, d1, d2, row, rfl, rfl, h1, h2, hlen, q⟩ := h
  unfold t_left_numbers
  have cnd : (keys (counts row)).Nodup := nodup_accs _ nd_nil
  have clen := counts_len row
  have nlen : (nums row).length ≤ row.length := len_dedup row
  walk_at "T"
  refine e_lock h2 trivial fun od => ?_
  walk_at "T"
  refine i_keysK upd_same ?_
  walk_at "T"
  rename_i D hD
  obtain ⟨HL, eHL⟩ : ∃ HL, HL = upd H d2 (.frz od (.dK (encB (trues (nums row))))) := ⟨_, rfl⟩
  rw [← eHL] at hD ⊢
  have l2 : HL d2 = some (.frz od (.dK (encB (trues (nums row))))) := by rw [eHL, upd_same]
  have W0 : WD HL (upd HL D (.dK [])) D [] fun _ => [] := ⟨hD, fun _ _ e => (look_nil e).elim, L2.Same.new hD, upd_same, fun _ _ e => (look_nil e).elim, fun _ _ _ e => (look_nil e).elim⟩
  refine dc_w (w_keys (kvs := encB (trues (nums row)))) (fun i H' => ∃ tops : List (Int × Addr), WD HL H' D tops (fun _ => []) ∧ keys tops = (nums row).take i) ⟨[], W0, rfl⟩ (fun i H' _ p => by
    obtain ⟨tops, W, _⟩ := p
    exact W.same _ _ l2) ?_ ?_
  · rintro i _ x H' hi ⟨tops, W, hk⟩ ⟨rfl, kk, vv, ek, rfl⟩
    obtain ⟨o, eo, rfl⟩ := encB_get ek
    have hno : look tops o = none := look_none.mpr fun z => by
      rw [hk] at z
      exact nodup_take_get (nodup_dedup row) eo z
    walk_at "T"
    rename_i p hp
    refine q_dcput (f := V.ref) (m := p) (R := fun H5 => ∃ tops : List (Int × Addr), WD HL H5 D tops (fun _ => []) ∧ keys tops = (nums row).take (i + 1)) (u_old W.top hp) ?_ ?_
    · have : tops.length ≤ (nums row).length := by
        have e := congrArg List.length hk
        unfold keys at e
        rw [List.length_map, List.length_take] at e
        omega
      rw [sizeLine_eq]
      omega
    · refine ⟨_, W.add hno hp rfl, ?_⟩
      rw [keys_put, if_neg (look_none.mp hno), hk, take_snoc eo]
  · rintro H' ⟨tops, W, hk⟩
    have ll : (encB (trues (nums row))).length = (nums row).length := by
      rw [len_enc]
      exact List.length_map _
    rw [ll, List.take_length] at hk
    refine ⟨W.same _ _ l2, ?_⟩
    rw [eHL] at W
    have W1 := W.unfrz h2
    generalize upd H' d2 (.dK (encB (trues (nums row)))) = H1 at W1
    have eq0 : (fun _ => [] : Int → List (Int × Int)) = innerC ((counts row).take 0) := rfl
    rw [eq0] at W1
    have hmem : ∀ x, x ∈ row → ∃ a, look tops x = some a := fun x hx => mem_keys_look (by
      rw [hk]
      exact mem_dedup.mpr hx)
    walk_at "T"
    refine s_lock (W1.same _ _ h1) trivial fun od1 => ?_
    have W2 := W1.frz h1 (o := .frz od1 (.dT (encP (counts row))))
    have l1 : upd H d1 (.frz od1 (.dT (encP (counts row)))) d1 = some (.frz od1 (.dT (encP (counts row)))) := upd_same
    walk_at "T"
    refine i_keysT upd_same ?_
    refine for_w (w_keysT (kvs := encP (counts row))) (fun i σ H' => ∃ (y2 y4 y5 : Option V), σ = [some (.ref d1), some (.ref d2), y2, some (.ref D), y4, y5, none, none, none, none, none, none, none] ∧ WD (upd H d1 (.frz od1 (.dT (encP (counts row))))) H' D tops (innerC ((counts row).take i)))
      ⟨_, _, _, rfl, W2⟩ ?_ ?_ ?_
    · rintro i σ H' _ ⟨y2, y4, y5, rfl, W⟩
      exact W.same _ _ l1
    · rintro i σ _ v H' hi ⟨y2, y4, y5, rfl, W⟩ ⟨rfl, kk, vv, t, ek, rfl, ht⟩
      obtain ⟨p, c, eo, rfl, rfl⟩ := encP_get ek
      have hpk : p ∈ keys (counts row) := List.mem_map_of_mem (mem_of_get eo)
      obtain ⟨x, y⟩ := p
      obtain ⟨a, ha⟩ := hmem x (keys_counts row hpk).1
      obtain ⟨b, hb⟩ := hmem y (keys_counts row hpk).2
      have hl : ∀ z, (innerC ((counts row).take i) z).length ≤ 200000 := fun z => by
        have h1 := innerC_len ((counts row).take i) z
        rw [List.length_take] at h1
        omega
      have hc : ∀ (H2 : Hp) (W2 : Same (upd H d1 (.frz od1 (.dT (encP (counts row))))) H2) (QV : VK), (∀ H3, Same H2 H3 → QV (.int c) H3) → tDGet (tVar 0) (tTup (tCons (tVar 4) (tCons (tVar 5) tNil))) [some (.ref d1), some (.ref d2), y2, some (.ref D), some (.int x), some (.int y), none, none, none, none, none, none, none] H2 QV := fun H2 s2 QV hq => by
        have l1' := s2 _ _ l1
        walk_at "T"
        rename_i u hu
        refine p_get (f := V.int) (k := (x, y)) (.inr ⟨od1, u_old l1' hu⟩) upd_same (look_of_mem cnd (mem_of_get eo)) ?_
        exact hq _ (L2.Same.new hu)
      refine g_tup (xs := [.int x, .int y]) (SqT.of ht) rfl ?_
      walk_at "T"
      with_reducible refine s_bump (x := x) (y := y) W ?v1 ?v2 ?v3 ha (c := c) (by have := hl x; omega) ?hc fun H2 W2 => ?_
      case hc => exact hc _ W.same
      case v1 => rfl
      case v2 => rfl
      case v3 => rfl
      have hl2 : (bump (innerC ((counts row).take i)) x y c y).length ≤ 200001 := by
        unfold bump
        have h1 := hl y
        split
        · have : (acc (innerC ((counts row).take i) y) y c).length ≤ (innerC ((counts row).take i) y).length + 1 := length_put _ _ _
          omega
        · omega
      with_reducible refine s_bump (x := y) (y := x) W2 ?v1 ?v2 ?v3 hb (c := c) (by omega) ?hc fun H3 W3 => ?_
      case hc => exact hc _ W2.same
      case v1 => rfl
      case v2 => rfl
      case v3 => rfl
      refine ⟨_, _, _, rfl, ?_⟩
      rw [bump_snoc, ← take_snoc eo] at W3
      exact W3
    · rintro σ H' ⟨y2, y4, y5, rfl, W⟩
      rw [len_enc, List.take_length] at W
      refine ⟨W.same _ _ l1, ?_⟩
      have W3 := W.unfrz h1
      generalize upd H' d1 (.dT (encP (counts row))) = H2 at W3
      have hil : ∀ z, (innerC (counts row) z).length ≤ 200000 := fun z => by
        have h1 := innerC_len (counts row) z
        omega
      have hnd' : ∀ z, (keys (innerC (counts row) z)).Nodup := innerC_nd _
      have hleft : leftNums row = leftBy (innerC (counts row)) (counts row) (sortI (nums row)) := rfl
      generalize innerC (counts row) = inner at W3 hil hnd' hleft
      walk_at "T"
      rename_i s hs
      have hs0 := none_of W3.same hs
      have nsd : s ≠ D := (ne_none hs W3.top).symm
      have nsi : ∀ k a, look tops k = some a → s ≠ a := fun k a e => (ne_none hs (W3.inn k a e).1).symm
      have W4 := W3.new hs (o := .dK [])
      refine r_sortDI (f := V.bl) (.inl (W4.same _ _ h2)) fun p1 hp1 => ?_
      rw [keys_trues]
      have W5 := W4.new hp1 (o := .lst ((sortI (nums row)).map V.int))
      have h3s : upd (upd H2 s (.dK [])) p1 (.lst ((sortI (nums row)).map V.int)) s = some (.dK []) := u_old upd_same hp1
      have h3p : upd (upd H2 s (.dK [])) p1 (.lst ((sortI (nums row)).map V.int)) p1 = some (.lst ((sortI (nums row)).map V.int)) := upd_same
      generalize upd (upd H2 s (.dK [])) p1 (.lst ((sortI (nums row)).map V.int)) = H3 at W5 h3s h3p
      have nsp : s ≠ p1 := ne_of h3s h3p (fun z => nomatch z)
      have hnd : (sortI (nums row)).Nodup := (sortI_perm _).nodup_iff.mpr (nodup_dedup _)
      have hmr : ∀ x, x ∈ sortI (nums row) ↔ x ∈ row := fun x => ((sortI_perm _).mem_iff).trans mem_dedup
      have hsl : (sortI (nums row)).length ≤ 100000 := by
        rw [(sortI_perm _).length_eq]
        omega
      have hss : sortI (nums row) = sortI (sortI (nums row)) := sortI_eq (List.Perm.refl _) (sortI_sorted _)
      generalize sortI (nums row) = srt at h3p hnd hmr hsl hss hleft
      walk_at "T"
      refine for_w (w_list (xs := srt.map V.int)) (fun i σ H' => ∃ (y2 y4 y5 y7 y8 : Option V), σ = [some (.ref d1), some (.ref d2), y2, some (.ref D), y4, y5, some (.ref s), y7, y8, none, none, none, none] ∧ WD H H' D tops inner ∧ H' s = some (.dK (encI ((srt.take i).foldl (sideStep inner) []))) ∧ H' p1 = some (.lst (srt.map V.int)))
        ⟨_, _, _, _, _, rfl, W5, h3s, h3p⟩ ?_ ?_ ?_
      · rintro i σ H' _ ⟨y2, y4, y5, y7, y8, rfl, W, e1, e2⟩
        exact SqL.of e2
      · rintro i σ _ x H' hi ⟨y2, y4, y5, y7, y8, rfl, W, e1, e2⟩ ⟨rfl, hx⟩
        obtain ⟨x, ex, rfl⟩ := map_int_get hx
        rw [List.length_map] at hi
        obtain ⟨a, ha⟩ := hmem x ((hmr x).mp (mem_of_get ex))
        have hsz : ((srt.take i).foldl (sideStep inner) []).length ≤ i := by
          have h1 := keys_sides_eq inner (srt.take i) (sd := []) (hnd.sublist (List.take_sublist _ _)) (fun _ _ z => nomatch z)
          have h2 := congrArg List.length h1
          unfold keys at h2
          rw [List.length_map, List.length_append, List.length_take] at h2
          simp at h2
          omega
        rw [take_snoc ex, List.foldl_append]
        generalize (srt.take i).foldl (sideStep inner) [] = sd at e1 hsz
        walk_at "s"
        walk_at "s"
        walk_at "s"
        refine r_side (want := 0) W ha e1 (nsi x a ha) (hnd' x) (by have := hil x; omega) (by decide) fun H4 s4 => ?_
        walk_at "s"
        walk_at "s"
        walk_at "s"
        refine r_side (want := 1) (W.go s4) ha (s4 _ _ e1) (nsi x a ha) (hnd' x) (by have := hil x; omega) (by decide) fun H5 s5 => ?_
        have W6 := (W.go s4).go s5
        have e6 := s5 _ _ (s4 _ _ e1)
        have p6 := s5 _ _ (s4 _ _ e2)
        have fin : ∀ z : Int, z = (if sumOn sd 1 (inner x) < sumOn sd 0 (inner x) then 1 else 0) → (
            WD H (upd H5 s (.dK (encI (put sd x z)))) D tops inner ∧ upd H5 s (.dK (encI (put sd x z))) s = some (.dK (encI ([x].foldl (sideStep inner) sd))) ∧ upd H5 s (.dK (encI (put sd x z))) p1 = some (.lst (srt.map V.int))) := fun z hz => by
          refine ⟨W6.mut hs0 nsd nsi, ?_, u_oth nsp.symm p6⟩
          rw [upd_same, hz]
          rfl
        walk_at "S"
        refine t_iteD (fun e => ?_) (fun e => ?_)
        · walk_at "S"
          refine k_put (f := V.int) e6 (by rw [sizeLine_eq]; omega) ?_
          exact ⟨_, _, _, _, _, rfl, fin 1 (by rw [if_pos e])⟩
        · walk_at "S"
          refine k_put (f := V.int) e6 (by rw [sizeLine_eq]; omega) ?_
          exact ⟨_, _, _, _, _, rfl, fin 0 (by rw [if_neg e])⟩
      · rintro σ H' ⟨y2, y4, y5, y7, y8, rfl, W, e1, e2⟩
        rw [List.length_map, List.take_length] at e1
        have hkeys : keys (srt.foldl (sideStep inner) []) = srt := by
          have h1 := keys_sides_eq inner srt (sd := []) hnd (fun _ _ z => nomatch z)
          simpa [keys] using h1
        have hkey : ∀ x, x ∈ row → ∃ z, look (srt.foldl (sideStep inner) []) x = some z := fun x hx => mem_keys_look (by
          rw [hkeys]
          exact (hmr x).mpr hx)
        have hsd : sidesAll inner srt = srt.foldl (sideStep inner) [] := rfl
        generalize srt.foldl (sideStep inner) [] = sd at e1 hkeys hkey hsd
        have hpk : ∀ p ∈ keys (counts row), ∃ z1 z2, look sd p.1 = some z1 ∧ look sd p.2 = some z2 := fun p hp => by
          obtain ⟨z1, g1⟩ := hkey _ (keys_counts row hp).1
          obtain ⟨z2, g2⟩ := hkey _ (keys_counts row hp).2
          exact ⟨z1, z2, g1, g2⟩
        have hd1 := W.same _ _ h1
        walk_at "s"
        walk_at "s"
        refine r_way (cmp := fun m n => decide (m < n)) (fun m n H Q z => r_lt z) hd1 e1 cnd (by omega) hpk fun H4 s4 => ?_
        walk_at "s"
        walk_at "s"
        walk_at "s"
        refine r_way (cmp := fun m n => decide (n < m)) (fun m n H Q z => r_gt z) (s4 _ _ hd1) (s4 _ _ e1) cnd (by omega) hpk fun H5 s5 => ?_
        have hs5 := s5 _ _ (s4 _ _ e1)
        have sall := (W.same.trans s4).trans s5
        have hw0 : S (fun p => decide (sv sd p.1 < sv sd p.2)) (counts row) = ahead sd (counts row) := rfl
        have hw1 : S (fun p => decide (sv sd p.2 < sv sd p.1)) (counts row) = behind sd (counts row) := rfl
        rw [hw0, hw1]
        have tail : ∀ kept : Int, kept = (if ahead sd (counts row) < behind sd (counts row) then 1 else 0) → (tRet (tThen (tLc (iList K (tCB LS.rSortDI (tCons (tVar 6) tNil))) (gName 2) (tTest (tOp rEq (tDGet (tVar 6) (tVar 2)) (tVar 11))) (tVar 2) [2]) (kTup K))) { nx := fun _ H' => Q .non H', rt := Q } [some (.ref d1), some (.ref d2), y2, some (.ref D), y4, y5, some (.ref s), y7, y8, some (.int (ahead sd (counts row))), some (.int (behind sd (counts row))), some (.int kept), none] H5 := fun kept hkept => by
          walk_at "T"
          refine r_sortDI (f := V.int) (.inl hs5) fun b1 hb1 => ?_
          rw [hkeys, ← hss]
          walk_at "T"
          rename_i f hf
          refine lcp_w (w_list (xs := srt.map V.int)) (fun i => decide (sv sd (srt.getD i 0) = kept)) (fun i => V.int (srt.getD i 0)) (by rw [List.length_map]; omega) hf (fun H6 s6 => SqL.of (s6 _ _ upd_same)) ?_ ?_ ?_
          · rintro i H6 x _ ⟨rfl, _⟩
            exact Same.refl _
          · rintro i _ x H6 Rt Rf hi s6 ⟨rfl, hx⟩ kt kf
            obtain ⟨x, ex, rfl⟩ := map_int_get hx
            rw [getD_get ex] at kt kf
            obtain ⟨z, ez⟩ := hkey x ((hmr x).mp (mem_of_get ex))
            have sv0 : sv sd x = z := by
              unfold sv
              rw [ez]
              rfl
            rw [sv0] at kt kf
            walk_at "T"
            refine k_get (f := V.int) (.inl (s6 _ _ (u_old hs5 hb1))) ez ?_
            walk_at "T"
            refine t_iteD (fun e => ?_) (fun e => ?_)
            · walk_at "T"
              exact kt _ (Same.refl _) (decide_eq_true e)
            · exact kf _ (Same.refl _) (decide_eq_false e)
          · rintro H6 s6 h6
            have eg := given_filter srt (fun x => decide (sv sd x = kept)) V.int (fun i => decide (sv sd (srt.getD i 0) = kept)) (fun i => V.int (srt.getD i 0)) fun i x ex => by
              rw [getD_get ex]
              exact ⟨rfl, fun _ => rfl⟩
            rw [List.length_map, eg] at h6
            walk_at "T"
            refine r_tupLI (ns := srt.filter fun x => decide (sv sd x = kept)) (SqL.of h6) fun t ht => ?_
            refine q t _ (((sall.upd hb1).trans s6).upd ht) ?_
            rw [upd_same, hleft, hkept]
            unfold leftBy
            rw [hsd]
        walk_at "s"
        walk_at "s"
        walk_at "s"
        walk_at "s"
        walk_at "s"
        walk_at "s"
        walk_at "s"
        walk_at "s"
        walk_at "s"
        walk_at "s"
        refine t_iteD (fun e => ?_) (fun e => ?_)
        · walk_at "s"
          walk_at "s"
          exact tail 1 (by rw [if_pos e])
        · walk_at "s"
          walk_at "s"
          exact tail 0 (by rw [if_neg e])
open PySem PySem.Spec PyProof.Rows L2 LW LM
/-! ### steps of a reading, heaps: short tactics -/
def inL (ls : List Int) (x : Int) : Bool := decide (x ∈ ls)
def sp_row_pairs (K : PySem.W.Frag) : Sp := sp3 fun x y z H Q => ∃ (r lf : Addr) (row ls : List Int) (us : Int), x = .ref r ∧ y = .ref lf ∧ z = .int us ∧ H r = some (.tup (row.map V.int)) ∧ SqT K H lf (ls.map V.int) ∧ row.length ≤ 100000 ∧
  ∀ (t t1 t2 : Addr) (bs : List Addr) (n : Int) H', Same H H' → H' t = some (.tup [.ref t1, .ref t2, .int n]) → H' t1 = some (.tup ((prow (LM.pairsOf row (inL ls)) us row).map V.int)) → H' t2 = some (.tup (bs.map V.ref)) → LS.AtPs H' bs (LM.pairsOf row (inL ls)) → Q (.ref t) H'
abbrev n_row_pairs : List Str := ["row", "lefts", "used", "keys", "one", "other", "pairs", "at", "numbers", "found", "pair"]
def t_row_pairs (K : PySem.W.Frag) (w : World) : TS :=
  (tSeq (tAsg tDNewT (gName 3))
    (tSeq (tFor (LR.iZip2 true true K (tCons (tVar 0) (tCons (tSl (rSlA K) (tVar 0) (tPart (tC (.int 1))) tNoPart) tNil))) (gTup K 2 (gCons (gName 4) (gCons (gName 5) gNil)))
    (tIfS (tAnd (tTest (tOp (rIn K false) (tVar 4) (tVar 1))) (tTest (tOp (rIn K true) (tVar 5) (tVar 1)))) (sDPut (tVar 3) (tTup (tCons (tVar 4) (tCons (tVar 5) tNil))) (tC (.bl true))) tNext))
    (tSeq (tAsg (tThen (tCB LS.rSortDP (tCons (tVar 3) tNil)) (kTup K)) (gName 6))
    (tSeq (tAsg (LD.tDcT (LR.iEnum2 true K (tCons (tVar 6) tNil)) (gTup K 2 (gCons (gName 7) (gCons (gName 10) gNil))) tYes (tVar 10) (tOp oAdd (tVar 2) (tVar 7)) [7, 10]) (gName 8))
    (tSeq (tAsg (tLst tNil) (gName 9))
    (tSeq (tAsg (tC (.int 0)) (gName 7))
    (tSeq (tWhile (tTest (tOp oLt (tVar 7) (tCB (oLen K) (tCons (tVar 0) tNil)))) (tIfS (tB (tDIn (tThen (tSl (rSlA K) (tVar 0) (tPart (tVar 7)) (tPart (tOp oAdd (tVar 7) (tC (.int 2))))) (kTup K)) (tVar 8))) (tSeq (tDrop (tBM K "list" rAppend (tVar 9) (tCons (tDGet (tVar 8) (tThen (tSl (rSlA K) (tVar 0) (tPart (tVar 7)) (tPart (tOp oAdd (tVar 7) (tC (.int 2))))) (kTup K))) tNil)))
    (tAug 7 (tC (.int 2)) (ipI fun i j => i + j))) (tSeq (tDrop (tBM K "list" rAppend (tVar 9) (tCons (tOp (rIxT K) (tVar 0) (tVar 7)) tNil)))
    (tAug 7 (tC (.int 1)) (ipI fun i j => i + j)))))
    (tRet (tTup (tCons (tThen (tVar 9) (kTup K)) (tCons (tVar 6) (tCons (tOp oAdd (tVar 2) (tCB (oLen K) (tCons (tVar 6) tNil))) tNil))))))))))))
theorem inV_ints (n : Int) (ls : List Int) : inV (.int n) (ls.map V.int) = inL ls n := by
  unfold inV inL
  rw [List.any_map]
  have e : ∀ m : Int, (m == n) = decide (m = n) := fun m => rfl
  induction ls with
  | nil => rfl
  | cons m ls ih =>
    rw [List.any_cons, ih]
    show ((eqV (.int m) (.int n)) || decide (n ∈ ls)) = decide (n ∈ m :: ls)
    have e1 : eqV (.int m) (.int n) = decide (m = n) := by
      show (m == n) = decide (m = n)
      by_cases h : m = n
      · subst h
        simp
      · simp [h]
    rw [e1]
    by_cases h : m = n
    · subst h
      simp
    · have h' : ¬ n = m := fun z => h z.symm
      simp [h, h']
theorem flat_ints (ls : List Int) : (ls.map V.int).all flatV = true := by
  rw [List.all_map, List.all_eq_true]
  exact fun _ _ => rfl
theorem r_inTI {K : PySem.W.Frag} {H : Hp} {p : Addr} {ls : List Int} {n : Int} {Q : VK} (hs : SqT K H p (ls.map V.int)) (h : Q (.bl (inL ls n)) H) : rIn K false (.int n) (.ref p) H Q :=
  ⟨p, _, rfl, .inr hs, rfl, flat_ints ls, by
    rw [inV_ints]
    exact h⟩
theorem r_ninTI {K : PySem.W.Frag} {H : Hp} {p : Addr} {ls : List Int} {n : Int} {Q : VK} (hs : SqT K H p (ls.map V.int)) (h : Q (.bl (!inL ls n)) H) : rIn K true (.int n) (.ref p) H Q :=
  ⟨p, _, rfl, .inr hs, rfl, flat_ints ls, by
    rw [inV_ints]
    exact h⟩
theorem put_trues {α : Type} [DecidableEq α] {l : List α} (x : α) : put (trues l) x true = trues (addN l x) := by
  have hk : keys (trues l) = l := keys_trues l
  unfold addN
  by_cases h : x ∈ l
  · rw [if_pos h, put_old _ (fun e => look_none.mp e (by rw [hk]; exact h))]
    unfold trues
    rw [List.map_map]
    apply List.map_congr_left
    intro y _
    show (if y = x then (y, true) else (y, true)) = (y, true)
    by_cases e : y = x <;> simp [e]
  · rw [if_neg h, put_new _ (look_none.mpr (by rw [hk]; exact h))]
    unfold trues
    rw [List.map_append]
    rfl
theorem r_sortDP {H : Hp} {a : Addr} {β : Type} {f : β → V} {l : List (P2 × β)} {Q : VK} (hr : Rd H a (.dT (encD LS.pK f l))) (h : ∀ p cs, H p = none → LS.AtPs H cs (sortP (keys l)) → Q (.ref p) (upd H p (.lst (cs.map V.ref)))) : LS.rSortDP [.ref a] H Q :=
  ⟨a, _, keys l, rfl, hr, keys_enc LS.pK f l, h⟩
theorem atPs_same {H H' : Hp} {bs : List Addr} {ps : List P2} (s : Same H H') (h : LS.AtPs H bs ps) : LS.AtPs H' bs ps := by
  induction h with
  | nil => exact .nil
  | cons r _ ih => exact .cons (s _ _ r) ih
theorem atPs_len {H : Hp} {bs : List Addr} {ps : List P2} (h : LS.AtPs H bs ps) : bs.length = ps.length := by
  induction h with
  | nil => rfl
  | cons _ _ ih => rw [List.length_cons, List.length_cons, ih]
theorem atPs_get {H : Hp} {bs : List Addr} {ps : List P2} (h : LS.AtPs H bs ps) : ∀ {i : Nat} {b : Addr}, bs[i]? = some b → ∃ p, ps[i]? = some p ∧ LS.AtP H b p := by
  induction h with
  | nil => intro i b e; cases e
  | cons r _ ih =>
    intro i b e
    cases i with
    | zero =>
      cases Option.some.inj e
      exact ⟨_, rfl, r⟩
    | succ i => exact ih e
theorem numTab_len (ps : List P2) (us : Int) : (numTab ps us).length = ps.length := by
  unfold numTab
  rw [List.length_map, List.length_range]
theorem numTab_get {ps : List P2} {us : Int} {i : Nat} {p : P2} (h : ps[i]? = some p) : (numTab ps us)[i]? = some (p, us + (i : Nat)) := by
  have hi := (List.getElem?_eq_some_iff.mp h).1
  unfold numTab
  rw [List.getElem?_map, List.getElem?_range hi]
  show some (ps.getD i (0, 0), us + (i : Nat)) = _
  rw [getD_get h]
theorem numTab_keys (ps : List P2) (us : Int) : keys (numTab ps us) = ps := by
  apply List.ext_getElem?
  intro i
  unfold keys
  rw [List.getElem?_map]
  cases h : ps[i]? with
  | none =>
    have hi : ps.length ≤ i := List.getElem?_eq_none_iff.mp h
    rw [List.getElem?_eq_none_iff.mpr (by rw [numTab_len]; exact hi)]
    rfl
  | some p =>
    rw [numTab_get h]
    rfl
theorem put_numTab {ps : List P2} (nd : ps.Nodup) (us : Int) {i : Nat} {p : P2} (h : ps[i]? = some p) : put ((numTab ps us).take i) p (us + (i : Nat)) = (numTab ps us).take (i + 1) := by
  rw [take_snoc (numTab_get h), put_new]
  rw [look_none]
  unfold keys
  rw [List.map_take]
  have := numTab_keys ps us
  unfold keys at this
  rw [this]
  exact nodup_take_get nd h
/-- row[at:at + 2] of a row that lies in the heap -/
theorem r_two {K : PySem.W.Frag} {H : Hp} {a : Addr} {ns : List Int} {at' : Nat} {hi : Int} {Q : VK} (hs : H a = some (.tup (ns.map V.int))) (ha : at' ≤ ns.length) (ehi : hi = (at' : Int) + 2)
    (h : ∀ b H', Same H H' → H' b = some (.tup (((ns.drop at').take 2).map V.int)) → Q (.ref b) H') : rSlA K (.ref a) (some (at' : Int)) (some hi) H Q := by
  have hl : (ns.map V.int).length = ns.length := List.length_map _
  have e1 : HT.sIx (ns.map V.int).length 0 (some (at' : Int)) = min at' ns.length := by
    rw [HT.sIx_nat, hl]
  have e2 : HT.sIx (ns.map V.int).length (ns.map V.int).length (some hi) = min (at' + 2) ns.length := by
    have : hi = ((at' + 2 : Nat) : Int) := by omega
    rw [this, HT.sIx_nat, hl]
  have m1 : min at' ns.length = at' := by omega
  have ec : cutV (ns.map V.int) (some (at' : Int)) (some hi) = ((ns.drop at').take 2).map V.int := by
    unfold cutV
    rw [e1, e2, m1, List.map_take, List.map_drop]
    by_cases h2 : at' + 2 ≤ ns.length
    · rw [show min (at' + 2) ns.length - at' = 2 by omega]
    · rw [List.take_of_length_le (by rw [List.length_drop, hl]; omega), List.take_of_length_le (by rw [List.length_drop, hl]; omega)]
  refine ⟨a, _, rfl, SqT.of hs, fun hh => h a H (Same.refl H) ?_, fun hh p hp => h p _ (L2.Same.new hp) ?_⟩
  · rw [e1, e2, m1, hl] at hh
    obtain ⟨h1, h2⟩ := hh
    subst h1
    rw [List.drop_zero, List.take_of_length_le (by omega)]
    exact hs
  · rw [upd_same, ec]
theorem valV_one {l : List (P2 × Int)} {x : Int} : valV (encP l) [kI x] = none := by
  induction l with
  | nil => rfl
  | cons p l ih =>
    refine (valV_neg (p := (LS.pK p.1, V.int p.2)) (r := encP l) fun z => ?_).trans ih
    have := congrArg List.length z
    cases this
theorem r_row_pairs {K : PySem.W.Frag} {w : World} (vs : List V) (H : Hp) (Q : VK) (E : XK) (h : sp_row_pairs K vs H Q E) : t_row_pairs K w { nx := fun _ H' => Q .non H', rt := Q } (start n_row_pairs vs) H := by
  obtain ⟨_, _, _, rfl, r, lf, row, ls, us, rfl, rfl, rfl, hr, hlf, hlen, q⟩ := h
  unfold t_row_pairs
  walk_at "T"
  rename_i d hd
  have s0 : Same H (upd H d (.dT [])) := L2.Same.new hd
  have hS : SqT K H r (row.map V.int) := SqT.of hr
  refine r_tail (xs := row.map V.int) (by walk_at "sq") fun b H1 s1 hb => ?_
  walk_at "T"
  have hbb : SqT K H1 b ((row.drop 1).map V.int) := by
    rw [List.map_drop]
    exact hb
  refine i_zip2E (k1 := true) (k2 := true) (xs := row.map V.int) (ys := (row.drop 1).map V.int) (show SqT K H1 r _ by walk_at "sq") (show SqT K H1 b _ from hbb) ?_
  refine for_w (w_zip2 (k1 := true) (k2 := true) (xs := row.map V.int) (ys := (row.drop 1).map V.int)) (fun i σ H' => ∃ y4 y5, σ = [some (.ref r), some (.ref lf), some (.int us), some (.ref d), y4, y5, none, none, none, none, none] ∧ Same H H' ∧ SqT K H' b ((row.drop 1).map V.int) ∧ H' d = some (.dT (encPB (trues (dedup (((zipT row).take i).filter (isK (inL ls))))))))
    ⟨none, none, rfl, s0.trans s1, hbb, (show H1 d = some (HO.dT []) by walk_at "hp")⟩ ?_ ?_ ?_
  · rintro i σ H' _ ⟨y4, y5, rfl, sm, hB, hd'⟩
    exact ⟨sm.sqT hS, hB⟩
  · rintro i σ H' _ _ hi ⟨y4, y5, rfl, sm, hB, hd'⟩ ⟨T, u, v, rfl, hT, rfl, hu, hv⟩
    obtain ⟨x, ex, rfl⟩ := map_int_get hu
    obtain ⟨y, ey, rfl⟩ := map_int_get hv
    have hi' : i < row.length - 1 := by
      rw [List.length_map, List.length_map, List.length_drop] at hi
      omega
    have ey' : row[i + 1]? = some y := by
      rw [List.getElem?_drop, Nat.add_comm] at ey
      exact ey
    have ez : ((zipT row).take (i + 1)).filter (isK (inL ls)) = ((zipT row).take i).filter (isK (inL ls)) ++ if (inL ls x && !inL ls y) = true then [(x, y)] else [] := by
      rw [take_snoc (zipT_get ex ey'), List.filter_append, List.filter_cons]
      rfl
    have hlt : (trues (dedup (((zipT row).take i).filter (isK (inL ls))))).length < sizeLine := by
      unfold trues
      rw [List.length_map]
      have h1 := len_dedup (((zipT row).take i).filter (isK (inL ls)))
      have h2 := List.length_filter_le (isK (inL ls)) ((zipT row).take i)
      rw [List.length_take, zipT_len] at h2
      rw [sizeLine_eq]
      omega
    have sT : Same H (upd H' T (.tup [.int x, .int y])) := sm.upd hT
    refine g_tup (xs := [.int x, .int y]) (by walk_at "sq") rfl ?_
    walk_at "T"
    refine r_inTI (ls := ls) (by walk_at "sq") ?_
    walk_at "T"
    have no : (inL ls x && !inL ls y) = false → (∃ y4' y5', (([some (V.ref r), some (.ref lf), some (.int us), some (.ref d), y4, y5, none, none, none, none, none].set 4 (some (.int x))).set 5 (some (.int y))) = [some (.ref r), some (.ref lf), some (.int us), some (.ref d), y4', y5', none, none, none, none, none] ∧ Same H (upd H' T (.tup [.int x, .int y])) ∧ SqT K (upd H' T (.tup [.int x, .int y])) b ((row.drop 1).map V.int) ∧ upd H' T (.tup [.int x, .int y]) d = some (.dT (encPB (trues (dedup (((zipT row).take (i + 1)).filter (isK (inL ls)))))))) := fun e => by
      refine ⟨_, _, rfl, sT, by walk_at "sq", ?_⟩
      rw [ez, e, if_neg Bool.false_ne_true, List.append_nil]
      exact u_old hd' hT
    refine t_ite (fun e1 => ?_) (fun e1 => ?_)
    · walk_at "T"
      refine r_ninTI (ls := ls) (by walk_at "sq") ?_
      walk_at "T"
      refine t_ite (fun e2 => ?_) (fun e2 => ?_)
      · walk_at "S"
        rename_i p hp
        refine p_put (f := V.bl) (m := true) (k := (x, y)) (by walk_at "hp") (atP_of (by walk_at "hp")) hlt ?_
        refine ⟨_, _, rfl, (sT.upd hp).mut hd, by walk_at "sq", ?_⟩
        rw [upd_same, put_trues, ← dedup_snoc, ez, e1, e2]
        rfl
      · walk_at "T"
        exact no (by rw [e2, Bool.and_false])
    · walk_at "T"
      exact no (by rw [e1, Bool.false_and])
  · rintro σ H' ⟨y4, y5, rfl, sm, hB, hd'⟩
    have hmn : min (row.map V.int).length ((row.drop 1).map V.int).length = (zipT row).length := by
      rw [zipT_len, List.length_map, List.length_map, List.length_drop]
      omega
    rw [hmn, List.take_length] at hd'
    walk_at "T"
    refine r_sortDP (f := V.bl) (.inl hd') fun p cs hp hcs => ?_
    rw [keys_trues] at hcs
    have hcs' : LS.AtPs H' cs (LM.pairsOf row (inL ls)) := hcs
    have hpnd := pairs_nodup row (inL ls)
    have hpl : (LM.pairsOf row (inL ls)).length ≤ 100000 := by
      unfold LM.pairsOf pkeys
      rw [(sortP_perm _).length_eq]
      have h1 := len_dedup ((zipT row).filter (isK (inL ls)))
      have h2 := List.length_filter_le (isK (inL ls)) (zipT row)
      rw [zipT_len] at h2
      omega
    generalize LM.pairsOf row (inL ls) = ps at hcs' hpnd hpl q
    have hcl := atPs_len hcs'
    walk_at "T"
    refine r_tupL (xs := cs.map V.ref) (by walk_at "sq") fun t2 ht2 => ?_
    have s2 : Same H (upd (upd H' p (.lst (cs.map V.ref))) t2 (.tup (cs.map V.ref))) := (sm.upd hp).upd ht2
    have a2 : LS.AtPs (upd (upd H' p (.lst (cs.map V.ref))) t2 (.tup (cs.map V.ref))) cs ps := atPs_same ((L2.Same.new hp).upd ht2) hcs'
    have e2 : upd (upd H' p (.lst (cs.map V.ref))) t2 (.tup (cs.map V.ref)) t2 = some (.tup (cs.map V.ref)) := upd_same
    generalize upd (upd H' p (.lst (cs.map V.ref))) t2 (.tup (cs.map V.ref)) = H2 at s2 a2 e2
    walk_at "T"
    refine i_enum2E (k := true) (xs := cs.map V.ref) (show SqT K H2 t2 _ from SqT.of e2) ?_
    walk_at "T"
    rename_i D hD
    refine dcT_w (w_enum2 (k := true) (xs := cs.map V.ref)) (fun i H3 => Same H2 H3 ∧ H3 D = some (.dT (encP ((numTab ps us).take i)))) ⟨L2.Same.new hD, upd_same⟩ (fun i H3 _ z => SqT.of (z.1 _ _ e2)) ?_ ?_
    · rintro i H3 _ _ hi ⟨s3, e3⟩ ⟨T, u, rfl, hT, rfl, hu⟩
      rw [List.getElem?_map] at hu
      cases ec : cs[i]? with
      | none => rw [ec] at hu; cases hu
      | some c =>
        rw [ec] at hu
        cases Option.some.inj hu
        obtain ⟨pr, epr, hat⟩ := atPs_get a2 ec
        have hat3 : LS.AtP (upd H3 T (.tup [.int (i : Nat), .ref c])) c pr := u_old (s3 _ _ hat) hT
        refine g_tup (xs := [.int (i : Nat), .ref c]) (by walk_at "sq") rfl ?_
        walk_at "T"
        refine q_dcputP (f := V.int) (m := us + (i : Nat)) (R := fun H5 => Same H2 H5 ∧ H5 D = some (.dT (encP ((numTab ps us).take (i + 1))))) hat3 (u_old e3 hT) ?_ ?_
        · rw [List.length_take, sizeLine_eq]
          have : i < ps.length := (List.getElem?_eq_some_iff.mp epr).1
          omega
        · refine ⟨(s3.upd hT).mut hD, ?_⟩
          rw [upd_same, put_numTab hpnd us epr]
    · rintro H3 ⟨s3, e3⟩
      have hcm : (cs.map V.ref).length = (numTab ps us).length := by
        rw [List.length_map, hcl, numTab_len]
      rw [hcm, List.take_length] at e3
      have e3' : ∀ {x y : Int}, look (numTab ps us) (x, y) = if (x, y) ∈ ps then some (numOf ps us (x, y)) else none := fun {x y} => look_numTab hpnd us (x, y)
      have s23 := s2.trans s3
      have a3 := atPs_same s3 a2
      have f3 := s3 _ _ e2
      walk_at "T"
      rename_i l hl
      have nlD : D ≠ l := (ne_none hl e3)
      refine ⟨fun m σ H4 => ∃ (at' : Nat) (fl : List Int), σ = [some (.ref r), some (.ref lf), some (.int us), some (.ref d), y4, y5, some (.ref t2), some (.int (at' : Int)), some (.ref D), some (.ref l), none] ∧ m = row.length - at' ∧ at' ≤ row.length ∧ Same H3 H4 ∧ H4 l = some (.lst (fl.map V.int)) ∧ fl.length ≤ at' ∧ fl ++ prow ps us (row.drop at') = prow ps us row,
        ⟨row.length, 0, [], rfl, rfl, Nat.zero_le _, L2.Same.new hl, upd_same, Nat.le_refl _, rfl⟩, ?_⟩
      rintro m σ H4 ⟨at', fl, rfl, rfl, hat, s4, h4, hfl, hpr⟩
      have r4 : H4 r = some (.tup (row.map V.int)) := s4 _ _ (s23 _ _ hr)
      have sr4 : SqT K H4 r (row.map V.int) := SqT.of r4
      have d4 := s4 _ _ e3
      walk_at "T"
      refine t_iteD (fun hlt => ?_) (fun hlt => ?_)
      · have hlt' : at' < row.length := by omega
        refine ⟨fun σ' H5 => ∃ (a' : Nat) (fl' : List Int), σ' = [some (.ref r), some (.ref lf), some (.int us), some (.ref d), y4, y5, some (.ref t2), some (.int (a' : Int)), some (.ref D), some (.ref l), none] ∧ at' < a' ∧ a' ≤ row.length ∧ Same H3 H5 ∧ H5 l = some (.lst (fl'.map V.int)) ∧ fl'.length ≤ a' ∧ fl' ++ prow ps us (row.drop a') = prow ps us row, ?_, ?_⟩
        · rintro σ' H5 ⟨a', fl', rfl, h1, h2, h3, h4, h5, h6⟩
          exact ⟨row.length - a', by omega, a', fl', rfl, rfl, h2, h3, h4, h5, h6⟩
        walk_at "T"
        refine r_two (ns := row) r4 hat rfl fun b5 H5 s5 e5 => ?_
        refine r_tupT (xs := ((row.drop at').take 2).map V.int) (SqT.of e5) ?_
        have l5 := s5 _ _ h4
        have d5 := s5 _ _ d4
        have r5 := s5 _ _ r4
        have sr5 : SqT K H5 r (row.map V.int) := SqT.of r5
        have s35 := s4.trans s5
        obtain ⟨x, ex, _⟩ := map_int_at (row := row) (i := at') hlt'
        have edx : row.drop at' = x :: row.drop (at' + 1) := by
          rw [← (List.getElem?_eq_some_iff.mp ex).2, ← List.drop_eq_getElem_cons hlt']
        walk_at "T"
        refine q_inP (k := ((row.drop at').take 2).map kI) (.inl d5) (by rw [e5, List.map_map]; rfl) ?_
        walk_at "T"
        have app1 : prow ps us (row.drop at') = x :: prow ps us (row.drop (at' + 1)) → ∀ (NX : L2.St → Hp → Prop), (∀ σ' H5, (∃ (a' : Nat) (fl' : List Int), σ' = [some (.ref r), some (.ref lf), some (.int us), some (.ref d), y4, y5, some (.ref t2), some (.int (a' : Int)), some (.ref D), some (.ref l), none] ∧ at' < a' ∧ a' ≤ row.length ∧ Same H3 H5 ∧ H5 l = some (.lst (fl'.map V.int)) ∧ fl'.length ≤ a' ∧ fl' ++ prow ps us (row.drop a') = prow ps us row) → NX σ' H5) → NX [some (.ref r), some (.ref lf), some (.int us), some (.ref d), y4, y5, some (.ref t2), some (.int ((at' : Int) + 1)), some (.ref D), some (.ref l), none] (upd H5 l (.lst ((fl ++ [x]).map V.int))) := fun he NX k => by
          refine k _ _ ⟨at' + 1, fl ++ [x], rfl, by omega, by omega, s35.mut hl, upd_same, ?_, ?_⟩
          · rw [List.length_append, List.length_singleton]
            omega
          · rw [← hpr, he, List.append_assoc]
            rfl
        have hval : ∀ y, row[at' + 1]? = some y → valV (encP (numTab ps us)) (((row.drop at').take 2).map kI) = if (x, y) ∈ ps then some (.int (numOf ps us (x, y))) else none := fun y ey => by
          have e2 : (row.drop at').take 2 = [x, y] := by
            have h2 : at' + 1 < row.length := (List.getElem?_eq_some_iff.mp ey).1
            rw [edx, List.drop_eq_getElem_cons h2, (List.getElem?_eq_some_iff.mp ey).2]
            rfl
          rw [e2]
          refine (valV_enc (f := V.int) pK_inj (numTab ps us) (x, y)).trans ?_
          rw [e3']
          by_cases hin : (x, y) ∈ ps
          · rw [if_pos hin, if_pos hin]
            rfl
          · rw [if_neg hin, if_neg hin]
            rfl
        have hval0 : row[at' + 1]? = none → valV (encP (numTab ps us)) (((row.drop at').take 2).map kI) = none := fun ey => by
          have e2 : (row.drop at').take 2 = [x] := by
            rw [edx, List.drop_eq_nil_of_le (List.getElem?_eq_none_iff.mp ey)]
            rfl
          rw [e2]
          exact valV_one
        refine t_ite (fun e => ?_) (fun e => ?_)
        · obtain ⟨y, ey, hin⟩ : ∃ y, row[at' + 1]? = some y ∧ (x, y) ∈ ps := by
            cases ey : row[at' + 1]? with
            | none =>
              rw [hval0 ey] at e
              cases e
            | some y =>
              rw [hval y ey] at e
              refine ⟨y, rfl, ?_⟩
              by_cases hin : (x, y) ∈ ps
              · exact hin
              · rw [if_neg hin] at e
                cases e
          have hv := hval y ey
          rw [if_pos hin] at hv
          walk_at "T"
          refine r_two (ns := row) r5 hat rfl fun b6 H6 s6 e6 => ?_
          refine r_tupT (xs := ((row.drop at').take 2).map V.int) (SqT.of e6) ?_
          have l6 := s6 _ _ l5
          have d6 := s6 _ _ d5
          walk_at "T"
          refine q_getP (k := ((row.drop at').take 2).map kI) (.inl d6) (by rw [e6, List.map_map]; rfl) hv ?_
          walk_at "T"
          refine r_appI l6 (by omega) ?_
          walk_at "T"
          refine ⟨_, _, rfl, rfl, ?_⟩
          have h2 : at' + 1 < row.length := (List.getElem?_eq_some_iff.mp ey).1
          refine ⟨at' + 2, fl ++ [numOf ps us (x, y)], rfl, by omega, by omega, (s35.trans s6).mut hl, upd_same, ?_, ?_⟩
          · rw [List.length_append, List.length_singleton]
            omega
          · rw [← hpr, edx, List.drop_eq_getElem_cons h2, (List.getElem?_eq_some_iff.mp ey).2, List.append_assoc]
            show _ = fl ++ (if (x, y) ∈ ps then numOf ps us (x, y) :: prow ps us (row.drop (at' + 1 + 1)) else _)
            rw [if_pos hin]
            rfl
        · have he : prow ps us (row.drop at') = x :: prow ps us (row.drop (at' + 1)) := by
            rw [edx]
            cases ey : row[at' + 1]? with
            | none =>
              rw [List.drop_eq_nil_of_le (List.getElem?_eq_none_iff.mp ey)]
              rfl
            | some y =>
              have h2 : at' + 1 < row.length := (List.getElem?_eq_some_iff.mp ey).1
              rw [List.drop_eq_getElem_cons h2, (List.getElem?_eq_some_iff.mp ey).2]
              rw [hval y ey] at e
              show (if (x, y) ∈ ps then _ else x :: prow ps us (y :: row.drop (at' + 1 + 1))) = _
              rw [if_neg]
              intro hin
              rw [if_pos hin] at e
              cases e
          walk_at "T"
          refine r_ixTI (ns := row) sr5 (by omega) (by omega) ?_
          rw [getD_of ex rfl]
          walk_at "T"
          refine r_appI l5 (by omega) ?_
          walk_at "T"
          refine ⟨_, _, rfl, rfl, ?_⟩
          exact app1 he _ fun σ' H7 z => z
      · have hlast : at' = row.length := by omega
        subst hlast
        rw [List.drop_length] at hpr
        have hfin : fl = prow ps us row := by
          rw [← hpr]
          exact (List.append_nil _).symm
        walk_at "T"
        refine r_tupLI (ns := fl) (SqL.of h4) fun t1 ht1 => ?_
        have f4 := s4 _ _ f3
        walk_at "T"
        rename_i t ht
        refine q t t1 t2 cs _ _ (((s23.trans s4).upd ht1).upd ht) upd_same ?_ ?_ ?_
        · rw [← hfin]
          exact u_old upd_same ht
        · exact u_old (u_old f4 ht1) ht
        · exact atPs_same ((s4.upd ht1).upd ht) a3
open PySem PySem.Spec PyProof.Rows L2 LW LM
/-! ### steps of a reading, heaps: short tactics -/
/-! ### rows of numbers: neighbours counted -/
theorem zipT_getd {row : List Int} {i : Nat} {x y : Int} (hx : row[i]? = some x) (hy : (row.drop 1)[i]? = some y) : (zipT row)[i]? = some (x, y) := by
  unfold zipT
  rw [List.getElem?_zip_eq_some]
  exact ⟨hx, hy⟩
def countsOf (ps : List P2) : List (P2 × Int) := accs [] (ones ps)
theorem countsOf_snoc (ps : List P2) (p : P2) : countsOf (ps ++ [p]) = put (countsOf ps) p ((look (countsOf ps) p).getD 0 + 1) := by
  unfold countsOf ones accs
  rw [List.map_append, List.foldl_append]
  rfl
theorem keys_len {κ β : Type} (l : List (κ × β)) : (keys l).length = l.length := List.length_map _
theorem countsOf_len (ps : List P2) : (countsOf ps).length ≤ ps.length := by
  have h : ∀ (cs : List (P2 × Int)) (l : List (P2 × Int)), (accs l cs).length ≤ l.length + cs.length := by
    intro cs
    induction cs with
    | nil => intro l; exact Nat.le_refl _
    | cons c cs ih =>
      intro l
      have h1 := ih (acc l c.1 c.2)
      have h2 : (acc l c.1 c.2).length ≤ l.length + 1 := length_put _ _ _
      show (accs (acc l c.1 c.2) cs).length ≤ _
      rw [List.length_cons]
      omega
  have := h (ones ps) []
  unfold countsOf
  unfold ones at this ⊢
  rw [List.length_map] at this
  simpa using this
def sp_row_counts (K : PySem.W.Frag) : Sp := sp1 fun x H Q => ∃ (a : Addr) (row : List Int), x = .ref a ∧ SqT K H a (row.map V.int) ∧ row.length ≤ 100000 ∧
  ∀ t d1 d2 H', Same H H' → H' t = some (.tup [.ref d1, .ref d2]) → H' d1 = some (.dT (encP (counts row))) → H' d2 = some (.dK (encB (trues (nums row)))) → H d1 = none → H d2 = none → Q (.ref t) H'
abbrev n_row_counts : List Str := ["row", "found", "one", "other", "number"]
def t_row_counts (K : PySem.W.Frag) (w : World) : TS :=
  (tSeq (tAsg tDNewT (gName 1))
    (tSeq (tFor (LR.iZip2 true true K (tCons (tVar 0) (tCons (tSl (rSlA K) (tVar 0) (tPart (tC (.int 1))) tNoPart) tNil))) (gTup K 2 (gCons (gName 2) (gCons (gName 3) gNil)))
    (sDPut (tVar 1) (tTup (tCons (tVar 2) (tCons (tVar 3) tNil))) (tOp oAdd (tDGet2 (tVar 1) (tTup (tCons (tVar 2) (tCons (tVar 3) tNil))) (tC (.int 0))) (tC (.int 1)))))
    (tRet (tTup (tCons (tVar 1) (tCons (tDc (iTup K (tVar 0)) (gName 4) tYes (tVar 4) (tC (.bl true)) [4]) tNil))))))
theorem r_row_counts {K : PySem.W.Frag} {w : World} (vs : List V) (H : Hp) (Q : VK) (E : XK) (h : sp_row_counts K vs H Q E) : t_row_counts K w { nx := fun _ H' => Q .non H', rt := Q } (start n_row_counts vs) H := by
  obtain ⟨_, rfl, a, row, rfl, hS, hlen, q⟩ := h
  unfold t_row_counts
  walk_at "S"
  rename_i d hd
  have s0 : Same H (upd H d (.dT [])) := L2.Same.new hd
  refine r_tail (xs := row.map V.int) (by walk_at "sq") fun b H1 s1 hb => ?_
  walk_at "S"
  have hbb : SqT K H1 b ((row.drop 1).map V.int) := by
    rw [List.map_drop]
    exact hb
  have hAB : ∀ i, i < row.length - 1 → ∃ x y, row[i]? = some x ∧ (row.drop 1)[i]? = some y ∧ (row.map V.int)[i]? = some (.int x) ∧ ((row.drop 1).map V.int)[i]? = some (.int y) := fun i hi => by
    obtain ⟨x, e1, e2⟩ := map_int_at (row := row) (i := i) (by omega)
    obtain ⟨y, e3, e4⟩ := map_int_at (row := row.drop 1) (i := i) (by rw [List.length_drop]; omega)
    exact ⟨x, y, e1, e3, e2, e4⟩
  refine i_zip2E (k1 := true) (k2 := true) (xs := row.map V.int) (ys := (row.drop 1).map V.int) (show SqT K H1 a _ by walk_at "sq") (show SqT K H1 b _ from hbb) ?_
  refine for_gen (row.length - 1) (fun i σ H' => ∃ y2 y3, σ = [some (.ref a), some (.ref d), y2, y3, none] ∧ Same H H' ∧ SqT K H' b ((row.drop 1).map V.int) ∧ H' d = some (.dT (encP (countsOf ((zipT row).take i)))))
    ⟨none, none, rfl, s0.trans s1, hbb, (show H1 d = some (HO.dT []) by walk_at "hp")⟩ ?_ ?_ ?_ ?_
  · rintro i σ H' hi ⟨y2, y3, rfl, sm, hB, hd'⟩
    obtain ⟨x, y, _, _, e1, e2⟩ := hAB i hi
    exact ⟨_, _, _, _, sm.sqT hS, hB, e1, e2⟩
  · rintro σ H' ⟨y2, y3, rfl, sm, hB, hd'⟩
    exact ⟨_, _, sm.sqT hS, hB, by simp only [List.length_map, List.length_drop]; omega⟩
  · rintro i σ H' _ _ hi ⟨y2, y3, rfl, sm, hB, hd'⟩ ⟨T, u, v, rfl, hT, rfl, hu, hv⟩
    obtain ⟨x, y, f1, f2, e1, e2⟩ := hAB i hi
    obtain rfl : u = .int x := Option.some.inj ((hu _ (sm.sqT hS)).symm.trans e1)
    obtain rfl : v = .int y := Option.some.inj ((hv _ hB).symm.trans e2)
    refine g_tup (xs := [.int x, .int y]) (by walk_at "sq") rfl ?_
    walk_at "S"
    rename_i p1 h1
    refine p_get2 (f := V.int) (k := (x, y)) (by walk_at "rd") (atP_of (by walk_at "hp")) ?_
    rw [getD_map V.int _ 0]
    walk_at "S"
    rename_i p2 h2
    have hlt : (countsOf ((zipT row).take i)).length < sizeLine := by
      have := countsOf_len ((zipT row).take i)
      rw [List.length_take, zipT_len] at this
      rw [sizeLine_eq]
      omega
    refine p_put (f := V.int) (k := (x, y)) (by walk_at "hp") (atP_of (by walk_at "hp")) hlt ?_
    have ez : (zipT row).take (i + 1) = (zipT row).take i ++ [(x, y)] := by
      rw [List.take_add_one, zipT_getd f1 f2]
      rfl
    refine ⟨some (.int x), some (.int y), rfl, ?_, ?_, ?_⟩
    · exact (((sm.upd hT).upd h1).upd h2).mut hd
    · walk_at "sq"
    · rw [upd_same, ez, countsOf_snoc]
  · rintro σ H' ⟨y2, y3, rfl, sm, hB, hd'⟩
    walk_at "S"
    rename_i d2 hd2
    refine dc_w (w_tup (xs := row.map V.int)) (fun i H2 => Same H' H2 ∧ H2 d2 = some (.dK (encB (trues (dedup (row.take i)))))) ⟨L2.Same.new hd2, upd_same⟩ (fun i H2 _ p => p.1.sqT (sm.sqT hS)) ?_ ?_
    · rintro i H2 x _ hi ⟨s2, e2⟩ ⟨rfl, hx⟩
      obtain ⟨n, en, rfl⟩ := map_int_get hx
      walk_at "S"
      refine q_dcput (f := V.bl) (m := true) (R := fun H5 => Same H' H5 ∧ H5 d2 = some (.dK (encB (trues (dedup (row.take (i + 1))))))) e2 ?_ ?_
      · have h1 : (trues (dedup (row.take i))).length ≤ (row.take i).length := by
          unfold trues
          rw [List.length_map]
          exact len_dedup _
        rw [List.length_take] at h1
        rw [sizeLine_eq]
        omega
      · refine ⟨s2.mut hd2, ?_⟩
        rw [upd_same, List.take_add_one, en, put_trues]
        show _ = some (HO.dK (encB (trues (dedup (row.take i ++ [n])))))
        rw [dedup_snoc]
    · rintro H2 ⟨s2, e2⟩
      rw [List.length_map, List.take_length] at e2
      walk_at "S"
      rename_i t ht
      refine q t d d2 _ ((sm.trans s2).upd ht) upd_same ?_ ?_ hd ?_
      · refine u_old (s2 _ _ ?_) ht
        rw [hd']
        have e0 : (zipT row).take (row.length - 1) = zipT row := List.take_of_length_le (by rw [zipT_len]; exact Nat.le_refl _)
        rw [e0]
        rfl
      · exact u_old e2 ht
      · exact none_of sm hd2
open PySem PySem.Spec PyProof.Rows L2 LW LM
/-! ### steps of a reading, heaps: short tactics -/
def sp_pairs (K : PySem.W.Frag) : Sp := sp3 fun x y z H Q => ∃ (r lf : Addr) (row ls : List Int) (us : Int), x = .ref r ∧ y = .ref lf ∧ z = .int us ∧ SqL K H r (row.map V.int) ∧ SqT K H lf (ls.map V.int) ∧ row.length ≤ 4000 ∧ ls.length ≤ 100000 ∧
  ∀ (t t1 t2 : Addr) (bs : List Addr) H', Same H H' → H' t = some (.tup [.ref t1, .ref t2]) → H' t1 = some (.tup ((prow (LM.pairsOf row (inL ls)) us row).map V.int)) → H' t2 = some (.tup (bs.map V.ref)) → LS.AtPs H' bs (LM.pairsOf row (inL ls)) → Q (.ref t) H'
abbrev n__law_pairs : List Str := ["row", "lefts", "used", "left", "number", "met", "k", "pairs", "told"]
def t__law_pairs (K : PySem.W.Frag) (w : World) : TS :=
  (tSeq (tAsg tDNewK (gName 3))
    (tSeq (tFor (iTup K (tVar 1)) (gName 4)
    (sDPut (tVar 3) (tVar 4) (tC (.bl true))))
    (tSeq (tAsg tDNewT (gName 5))
    (tSeq (tFor (iRng1 (tCons (tOp oSub (tCB (oLen K) (tCons (tVar 0) tNil)) (tC (.int 1))) tNil)) (gName 6)
    (tIfS (tAnd (tB (tDIn (tOp (rIxL K) (tVar 0) (tVar 6)) (tVar 3))) (tB (tDNotIn (tOp (rIxL K) (tVar 0) (tOp oAdd (tVar 6) (tC (.int 1)))) (tVar 3)))) (sDPut (tVar 5) (tTup (tCons (tOp (rIxL K) (tVar 0) (tVar 6)) (tCons (tOp (rIxL K) (tVar 0) (tOp oAdd (tVar 6) (tC (.int 1)))) tNil))) (tC (.int 0))) tNext))
    (tSeq (tAsg (tCB (rSortedPO K) (tCons (tCB oListT (tCons (tVar 5) tNil)) tNil)) (gName 7))
    (tSeq (tFor (iRng1 (tCons (tCB (oLen K) (tCons (tVar 7) tNil)) tNil)) (gName 6)
    (sDPut (tVar 5) (tOp (rIxL K) (tVar 7) (tVar 6)) (tOp oAdd (tVar 2) (tVar 6))))
    (tSeq (tAsg (tLst tNil) (gName 8))
    (tSeq (tFor (iRng1 (tCons (tCB (oLen K) (tCons (tVar 0) tNil)) tNil)) (gName 6)
    (tSeq (tIfS (tAnd (tTest (tOp oGt (tVar 6) (tC (.int 0)))) (tB (tDIn (tTup (tCons (tOp (rIxL K) (tVar 0) (tOp oSub (tVar 6) (tC (.int 1)))) (tCons (tOp (rIxL K) (tVar 0) (tVar 6)) tNil))) (tVar 5)))) tCont tNext)
    (tIfS (tAnd (tTest (tOp oLt (tOp oAdd (tVar 6) (tC (.int 1))) (tCB (oLen K) (tCons (tVar 0) tNil)))) (tB (tDIn (tTup (tCons (tOp (rIxL K) (tVar 0) (tVar 6)) (tCons (tOp (rIxL K) (tVar 0) (tOp oAdd (tVar 6) (tC (.int 1)))) tNil))) (tVar 5)))) (tDrop (tBM K "list" rAppend (tVar 8) (tCons (tDGet (tVar 5) (tTup (tCons (tOp (rIxL K) (tVar 0) (tVar 6)) (tCons (tOp (rIxL K) (tVar 0) (tOp oAdd (tVar 6) (tC (.int 1)))) tNil)))) tNil))) (tDrop (tBM K "list" rAppend (tVar 8) (tCons (tOp (rIxL K) (tVar 0) (tVar 6)) tNil))))))
    (tRet (tTup (tCons (tThen (tVar 8) (kTup K)) (tCons (tThen (tVar 7) (kTup K)) tNil))))))))))))
def cst {α β : Type} (c : β) (l : List α) : List (α × β) := l.map fun x => (x, c)
theorem keys_cst {α β : Type} (c : β) (l : List α) : keys (cst c l) = l := by
  unfold keys cst
  rw [List.map_map]
  exact List.map_id _
theorem put_cst {α β : Type} [DecidableEq α] (c : β) {l : List α} (x : α) : put (cst c l) x c = cst c (addN l x) := by
  have hk : keys (cst c l) = l := keys_cst c l
  unfold addN
  by_cases h : x ∈ l
  · rw [if_pos h, put_old _ (fun e => look_none.mp e (by rw [hk]; exact h))]
    unfold cst
    rw [List.map_map]
    apply List.map_congr_left
    intro y _
    show (if y = x then (y, c) else (y, c)) = (y, c)
    by_cases e : y = x <;> simp [e]
  · rw [if_neg h, put_new _ (look_none.mpr (by rw [hk]; exact h))]
    unfold cst
    rw [List.map_append]
    rfl
theorem look_cst {α β : Type} [DecidableEq α] (c : β) (l : List α) (x : α) : look (cst c l) x = if x ∈ l then some c else none := by
  by_cases h : x ∈ l
  · rw [if_pos h]
    obtain ⟨v, hv⟩ := mem_keys_look (l := cst c l) (k := x) (by rw [keys_cst]; exact h)
    rw [hv]
    have := look_some_mem hv
    unfold cst at this
    obtain ⟨y, _, e⟩ := List.mem_map.mp this
    rw [← (Prod.mk.inj e).2]
  · rw [if_neg h]
    exact look_none.mpr (by rw [keys_cst]; exact h)
theorem in_cst {α β γ : Type} [DecidableEq α] (f : β → γ) (c : β) (l : List α) (x : α) : (Option.map f (look (cst c l) x)).isSome = decide (x ∈ l) := by
  rw [look_cst]
  by_cases h : x ∈ l
  · rw [if_pos h, decide_eq_true h]
    rfl
  · rw [if_neg h, decide_eq_false h]
    rfl
theorem r_listDT {H : Hp} {d : Addr} {β : Type} {f : β → V} {l : List (P2 × β)} {Q : VK} (hr : Rd H d (.dT (encD LS.pK f l))) (h : ∀ p bs, H p = none → LS.AtPs H bs (keys l) → Q (.ref p) (upd H p (.lst (bs.map V.ref)))) : oListT [.ref d] H Q := by
  refine ⟨d, _, rfl, hr, fun p bs hp hk => h p bs hp ?_⟩
  have : ∀ (l : List (P2 × β)) (bs : List Addr), IsKeys H (encD LS.pK f l) bs → LS.AtPs H bs (keys l) := by
    intro l
    induction l with
    | nil =>
      intro bs hk
      cases hk
      exact .nil
    | cons p l ih =>
      intro bs hk
      cases hk with
      | cons r t => exact .cons r (ih _ t)
  exact this l bs hk
theorem numOf_get {ps : List P2} (nd : ps.Nodup) (us : Int) {i : Nat} {p : P2} (h : ps[i]? = some p) : numOf ps us p = us + (i : Nat) := by
  have h1 := look_of_mem (l := numTab ps us) (by rw [numTab_keys]; exact nd) (mem_of_get (numTab_get (us := us) h))
  rw [look_numTab nd, if_pos (mem_of_get h)] at h1
  exact Option.some.inj h1
def pin (ps : List P2) (row : List Int) (k : Nat) : Bool := match row[k]?, row[k + 1]? with
  | some a, some b => decide ((a, b) ∈ ps)
  | _, _ => false
def flag (ps : List P2) (row : List Int) : Nat → Bool
  | 0 => false
  | k + 1 => pin ps row k
theorem lrow_step {ps : List P2} {us : Int} {row : List Int} {k : Nat} {x : Int} (h : row[k]? = some x) (f : Bool) :
    lrow ps us f (row.drop k) = (if f = true then [] else [match row[k + 1]? with | some y => if (x, y) ∈ ps then numOf ps us (x, y) else x | none => x]) ++ lrow ps us (pin ps row k) (row.drop (k + 1)) := by
  have hk := (List.getElem?_eq_some_iff.mp h).1
  have e1 : row.drop k = x :: row.drop (k + 1) := by
    rw [← (List.getElem?_eq_some_iff.mp h).2, ← List.drop_eq_getElem_cons hk]
  unfold pin
  rw [e1, h]
  cases ey : row[k + 1]? with
  | none =>
    rw [List.drop_eq_nil_of_le (List.getElem?_eq_none_iff.mp ey)]
    cases f <;> rfl
  | some y =>
    have h2 : k + 1 < row.length := (List.getElem?_eq_some_iff.mp ey).1
    rw [List.drop_eq_getElem_cons h2, (List.getElem?_eq_some_iff.mp ey).2]
    cases f <;> rfl
theorem r_pairs {K : PySem.W.Frag} {w : World} (vs : List V) (H : Hp) (Q : VK) (E : XK) (h : sp_pairs K vs H Q E) : t__law_pairs K w { nx := fun _ H' => Q .non H', rt := Q } (start n__law_pairs vs) H := by
  obtain ⟨_, _, _, rfl, r, lf, row, ls, us, rfl, rfl, rfl, hr, hlf, hlen, hls, q⟩ := h
  unfold t__law_pairs
  walk_at "T"
  rename_i d hd
  refine for_w (w_tup (xs := ls.map V.int)) (fun i σ H' => ∃ y4 : Option V, σ = [some (.ref r), some (.ref lf), some (.int us), some (.ref d), y4, none, none, none, none] ∧ Same H H' ∧ H' d = some (.dK (encB (cst true (dedup (ls.take i))))))
    ⟨none, rfl, L2.Same.new hd, upd_same⟩ ?_ ?_ ?_
  · rintro i σ H' _ ⟨y4, rfl, sm, hd'⟩
    exact sm.sqT hlf
  · rintro i σ _ x H' hi ⟨y4, rfl, sm, hd'⟩ ⟨rfl, hx⟩
    obtain ⟨n, en, rfl⟩ := map_int_get hx
    walk_at "S"
    refine k_put (f := V.bl) (m := true) hd' ?_ ?_
    · have h1 := len_dedup (ls.take i)
      rw [List.length_take] at h1
      unfold cst
      rw [List.length_map, sizeLine_eq]
      omega
    · refine ⟨_, rfl, sm.mut hd, ?_⟩
      rw [upd_same, put_cst, ← dedup_snoc, ← take_snoc en]
  · rintro σ H1 ⟨y4, rfl, sm1, hd1⟩
    rw [List.length_map, List.take_length] at hd1
    have hr1 := sm1.seq hr
    walk_at "T"
    rename_i m hm
    have nmd : m ≠ d := (ne_none hm hd1).symm
    have hm0 := none_of sm1 hm
    have hn : (↑row.length - 1 : Int).toNat = row.length - 1 := by omega
    rw [hn]
    have hinl : ∀ x : Int, decide (x ∈ dedup ls) = inL ls x := fun x => by
      unfold inL
      by_cases h : x ∈ ls
      · rw [decide_eq_true h, decide_eq_true (mem_dedup.mpr h)]
      · rw [decide_eq_false h, decide_eq_false fun z => h (mem_dedup.mp z)]
    refine for_w (w_rng (lo := 0) (n := row.length - 1)) (fun i σ H' => ∃ y6 : Option V, σ = [some (.ref r), some (.ref lf), some (.int us), some (.ref d), y4, some (.ref m), y6, none, none] ∧ Same H H' ∧ H' d = some (.dK (encB (cst true (dedup ls)))) ∧ H' m = some (.dT (encP (cst 0 (dedup (((zipT row).take i).filter (isK (inL ls))))))))
      ⟨none, rfl, sm1.upd hm, u_old hd1 hm, upd_same⟩ (fun _ _ _ _ _ => trivial) ?_ ?_
    · rintro i σ _ x H' hi ⟨y6, rfl, sm, hd', hm'⟩ ⟨rfl, rfl⟩
      have hr' := sm.seq hr
      obtain ⟨x, ex, _⟩ := map_int_at (row := row) (i := i) (by omega)
      obtain ⟨y, ey, _⟩ := map_int_at (row := row) (i := i + 1) (by omega)
      have ez : ((zipT row).take (i + 1)).filter (isK (inL ls)) = ((zipT row).take i).filter (isK (inL ls)) ++ if (inL ls x && !inL ls y) = true then [(x, y)] else [] := by
        rw [take_snoc (zipT_get ex ey), List.filter_append, List.filter_cons]
        rfl
      have hlt : (cst (0 : Int) (dedup (((zipT row).take i).filter (isK (inL ls))))).length < sizeLine := by
        unfold cst
        rw [List.length_map]
        have h1 := len_dedup (((zipT row).take i).filter (isK (inL ls)))
        have h2 := List.length_filter_le (isK (inL ls)) ((zipT row).take i)
        rw [List.length_take, zipT_len] at h2
        rw [sizeLine_eq]
        omega
      walk_at "T"
      rw [getD_of ex (by omega)]
      refine k_in (f := V.bl) (.inl hd') ?_
      rw [in_cst, hinl]
      walk_at "T"
      have no : (inL ls x && !inL ls y) = false → ∃ y6' : Option V, ([some (V.ref r), some (.ref lf), some (.int us), some (.ref d), y4, some (.ref m), y6, none, none].set 6 (some (.int (0 + (i : Nat))))) = [some (.ref r), some (.ref lf), some (.int us), some (.ref d), y4, some (.ref m), y6', none, none] ∧ Same H H' ∧ H' d = some (.dK (encB (cst true (dedup ls)))) ∧ H' m = some (.dT (encP (cst 0 (dedup (((zipT row).take (i + 1)).filter (isK (inL ls))))))) := fun e => by
        refine ⟨_, rfl, sm, hd', ?_⟩
        rw [ez, e, if_neg Bool.false_ne_true, List.append_nil]
        exact hm'
      refine t_ite (fun e1 => ?_) (fun e1 => ?_)
      · walk_at "T"
        rw [getD_of ey (by omega)]
        refine k_in (f := V.bl) (.inl hd') ?_
        rw [in_cst, hinl]
        walk_at "T"
        refine t_ite (fun e2 => ?_) (fun e2 => ?_)
        · walk_at "S"
          rename_i p hp
          rw [getD_of ex (by omega), getD_of ey (by omega)]
          refine p_put (f := V.int) (m := 0) (k := (x, y)) (u_old hm' hp) (atP_of upd_same) hlt ?_
          refine ⟨_, rfl, (sm.upd hp).mut hm0, u_oth nmd.symm (u_old hd' hp), ?_⟩
          rw [upd_same, put_cst, ← dedup_snoc, ez, e1, e2]
          rfl
        · walk_at "T"
          exact no (by rw [e2, Bool.and_false])
      · walk_at "T"
        exact no (by rw [e1, Bool.false_and])
    · rintro σ H2 ⟨y6, rfl, sm, hd2, hm2⟩
      have e0 : (zipT row).take (row.length - 1) = zipT row := List.take_of_length_le (by rw [zipT_len]; exact Nat.le_refl _)
      rw [e0] at hm2
      walk_at "T"
      refine r_listDT (f := V.int) (.inl hm2) fun p0 bs hp0 hbs => ?_
      rw [keys_cst] at hbs
      walk_at "T"
      refine LS.rd_sortedP (bs := bs) (SqL.of upd_same) (atPs_same (L2.Same.new hp0) hbs) fun p cs hp hcs => ?_
      have hcs' : LS.AtPs (upd H2 p0 (.lst (bs.map V.ref))) cs (LM.pairsOf row (inL ls)) := hcs
      have hpnd := pairs_nodup row (inL ls)
      have hisK := pairs_isK row (inL ls)
      have hpl : (LM.pairsOf row (inL ls)).length ≤ 4000 := by
        unfold LM.pairsOf pkeys
        rw [(sortP_perm _).length_eq]
        have h1 := len_dedup ((zipT row).filter (isK (inL ls)))
        have h2 := List.length_filter_le (isK (inL ls)) (zipT row)
        rw [zipT_len] at h2
        omega
      have hmem : ∀ p, p ∈ dedup ((zipT row).filter (isK (inL ls))) ↔ p ∈ LM.pairsOf row (inL ls) := fun p => (sortP_perm _).mem_iff.symm
      have hdl : (cst (0 : Int) (dedup ((zipT row).filter (isK (inL ls))))).length ≤ 4000 := by
        unfold cst
        rw [List.length_map]
        have h1 := len_dedup ((zipT row).filter (isK (inL ls)))
        have h2 := List.length_filter_le (isK (inL ls)) (zipT row)
        rw [zipT_len] at h2
        omega
      have hlk : ∀ p, look (cst (0 : Int) (dedup ((zipT row).filter (isK (inL ls))))) p = if p ∈ LM.pairsOf row (inL ls) then some 0 else none := fun p => by
        rw [look_cst]
        by_cases h : p ∈ LM.pairsOf row (inL ls)
        · rw [if_pos h, if_pos ((hmem p).mpr h)]
        · rw [if_neg h, if_neg fun z => h ((hmem p).mp z)]
      generalize LM.pairsOf row (inL ls) = ps at hcs' hpnd hisK hpl hlk q
      generalize cst (0 : Int) (dedup ((zipT row).filter (isK (inL ls)))) = mt0 at hm2 hdl hlk
      have hcl := atPs_len hcs'
      have s3 : Same H (upd (upd H2 p0 (.lst (bs.map V.ref))) p (.lst (cs.map V.ref))) := (sm.upd hp0).upd hp
      have a3 : LS.AtPs (upd (upd H2 p0 (.lst (bs.map V.ref))) p (.lst (cs.map V.ref))) cs ps := atPs_same (L2.Same.new hp) hcs'
      have m3 : upd (upd H2 p0 (.lst (bs.map V.ref))) p (.lst (cs.map V.ref)) m = some (.dT (encP mt0)) := u_old (u_old hm2 hp0) hp
      have p3 : upd (upd H2 p0 (.lst (bs.map V.ref))) p (.lst (cs.map V.ref)) p = some (.lst (cs.map V.ref)) := upd_same
      generalize upd (upd H2 p0 (.lst (bs.map V.ref))) p (.lst (cs.map V.ref)) = H3 at s3 a3 m3 p3
      have nmp : m ≠ p := ne_of m3 p3 (fun z => nomatch z)
      have aK : ∀ c ∈ cs, ∃ pr, LS.AtP H3 c pr := fun c hc => by
        obtain ⟨j, hj⟩ := List.getElem?_of_mem hc
        obtain ⟨pr, _, e⟩ := atPs_get a3 hj
        exact ⟨pr, e⟩
      walk_at "T"
      rw [show (cs.map V.ref).length = cs.length from List.length_map _]
      walk_at "T"
      refine for_w (w_rng (lo := 0) (n := cs.length)) (fun i σ H' => ∃ (y6 : Option V) (mt : List (P2 × Int)), σ = [some (.ref r), some (.ref lf), some (.int us), some (.ref d), y4, some (.ref m), y6, some (.ref p), none] ∧ Same H H' ∧ Kb m H3 H' ∧ H' m = some (.dT (encP mt)) ∧ mt.length ≤ 4000 + i ∧ ∀ p, look mt p = if p ∈ ps.take i then some (numOf ps us p) else if p ∈ ps then some 0 else none)
        ⟨_, mt0, rfl, s3, Kb.refl _ _, m3, by omega, fun p => by
          rw [hlk]
          rfl⟩ (fun _ _ _ _ _ => trivial) ?_ ?_
      · rintro i σ _ x H' hi ⟨y6, mt, rfl, sm', kb, hm', hml, hlk'⟩ ⟨rfl, rfl⟩
        have hp' : H' p = some (.lst (cs.map V.ref)) := kb _ _ p3 nmp.symm
        obtain ⟨c, ec⟩ := get_of hi
        obtain ⟨pr, epr, hat⟩ := atPs_get a3 ec
        have nmc : c ≠ m := ne_of (show H3 c = some _ from hat) m3 (fun z => nomatch z)
        have hat' : LS.AtP H' c pr := kb _ _ hat nmc
        walk_at "S"
        refine r_ixL (v := .ref c) (SqL.of hp') (at_nat (by omega) ?_) ?_
        · rw [List.getElem?_map, show (0 + (i : Int)).toNat = i by omega, ec]
          rfl
        walk_at "S"
        refine p_put (f := V.int) (k := pr) hm' hat' (by rw [sizeLine_eq]; omega) ?_
        refine ⟨_, _, rfl, sm'.mut hm0, kb.self, upd_same, ?_, ?_⟩
        · have := length_put mt pr (us + (0 + (i : Int)))
          omega
        · intro p'
          rw [look_put, take_snoc epr]
          by_cases h : p' = pr
          · subst h
            rw [if_pos rfl, if_pos (List.mem_append_right _ List.mem_cons_self), numOf_get hpnd us epr, Int.zero_add]
          · rw [if_neg h, hlk']
            by_cases h2 : p' ∈ ps.take i
            · rw [if_pos h2, if_pos (List.mem_append_left _ h2)]
            · rw [if_neg h2, if_neg (c := p' ∈ ps.take i ++ [pr])]
              intro z
              rcases List.mem_append.mp z with z | z
              · exact h2 z
              · exact h (List.mem_singleton.mp z)
      · rintro σ H4 ⟨y6, mt, rfl, s4, kb, hm4, hml, hlk'⟩
        have hcp : cs.length = ps.length := hcl
        rw [hcp] at hlk'
        rw [List.take_length] at hlk'
        have hlk4 : ∀ p, look mt p = if p ∈ ps then some (numOf ps us p) else none := fun p => by
          rw [hlk']
          by_cases h : p ∈ ps
          · rw [if_pos h, if_pos h]
          · rw [if_neg h, if_neg h, if_neg h]
        have hin4 : ∀ p, (Option.map V.int (look mt p)).isSome = decide (p ∈ ps) := fun p => by
          rw [hlk4]
          by_cases h : p ∈ ps
          · rw [if_pos h, decide_eq_true h]
            rfl
          · rw [if_neg h, decide_eq_false h]
            rfl
        have p4 : H4 p = some (.lst (cs.map V.ref)) := kb _ _ p3 nmp.symm
        have a4 : LS.AtPs H4 cs ps := by
          have : ∀ (cs : List Addr) (ps : List P2), LS.AtPs H3 cs ps → LS.AtPs H4 cs ps := by
            intro cs ps h
            induction h with
            | nil => exact .nil
            | cons z _ ih => exact .cons (kb _ _ z (ne_of (show H3 _ = some _ from z) m3 (fun z => nomatch z))) ih
          exact this _ _ a3
        have r4 := s4.seq hr
        walk_at "T"
        rename_i l hl
        have hl0 := none_of s4 hl
        refine for_w (w_rng (lo := 0) (n := row.length)) (fun i σ H' => ∃ (y6 : Option V) (fl : List Int), σ = [some (.ref r), some (.ref lf), some (.int us), some (.ref d), y4, some (.ref m), y6, some (.ref p), some (.ref l)] ∧ Same H4 H' ∧ H' l = some (.lst (fl.map V.int)) ∧ fl.length ≤ i ∧ fl ++ lrow ps us (flag ps row i) (row.drop i) = lrow ps us false row)
          ⟨_, [], rfl, L2.Same.new hl, upd_same, Nat.le_refl _, rfl⟩ (fun _ _ _ _ _ => trivial) ?_ ?_
        · rintro i σ _ x H' hi ⟨y6, fl, rfl, sm', hl', hfl, heq⟩ ⟨rfl, rfl⟩
          have hr' := sm'.seq r4
          have hm' := sm' _ _ hm4
          obtain ⟨x, ex, _⟩ := map_int_at (row := row) (i := i) hi
          have hstep := lrow_step (ps := ps) (us := us) ex (flag ps row i)
          walk_at "s"
          with_reducible refine s_seqR (fun σ' H'' => σ' = [some (.ref r), some (.ref lf), some (.int us), some (.ref d), y4, some (.ref m), some (.int (0 + (i : Nat))), some (.ref p), some (.ref l)] ∧ Same H4 H'' ∧ H'' l = some (.lst (fl.map V.int)) ∧ flag ps row i = false) ?_ ?_
          · rintro _ H5 ⟨rfl, s5, l5, hf⟩
            rw [hf] at heq
            have hl0' : H4 l = none := hl
            have hr5 := s5.seq r4
            have hm5 := s5 _ _ hm4
            have fin : ∀ (v : Int) (H6 : Hp), Same H4 H6 → lrow ps us false (row.drop i) = v :: lrow ps us (pin ps row i) (row.drop (i + 1)) → ∃ (y6 : Option V) (fl' : List Int), [some (V.ref r), some (.ref lf), some (.int us), some (.ref d), y4, some (.ref m), some (.int (0 + (i : Nat))), some (.ref p), some (.ref l)] = [some (.ref r), some (.ref lf), some (.int us), some (.ref d), y4, some (.ref m), y6, some (.ref p), some (.ref l)] ∧ Same H4 (upd H6 l (.lst ((fl ++ [v]).map V.int))) ∧ upd H6 l (.lst ((fl ++ [v]).map V.int)) l = some (.lst (fl'.map V.int)) ∧ fl'.length ≤ i + 1 ∧ fl' ++ lrow ps us (flag ps row (i + 1)) (row.drop (i + 1)) = lrow ps us false row := fun v H6 s6 he => by
              refine ⟨_, fl ++ [v], rfl, s6.mut hl0', upd_same, ?_, ?_⟩
              · rw [List.length_append, List.length_singleton]
                omega
              · rw [← heq, he, List.append_assoc]
                rfl
            rw [hf] at hstep
            walk_at "T"
            refine t_iteD (fun hlt => ?_) (fun hlt => ?_)
            · obtain ⟨y, ey, _⟩ := map_int_at (row := row) (i := i + 1) (by omega)
              have g1 : row.getD (0 + (i : Int)).toNat 0 = x := getD_of ex (by omega)
              have g2 : row.getD (0 + (i : Int) + 1).toNat 0 = y := getD_of ey (by omega)
              rw [ey] at hstep
              walk_at "T"
              rename_i u hu
              rw [g1, g2]
              refine p_in (f := V.int) (k := (x, y)) (.inl (u_old hm5 hu)) (atP_of upd_same) ?_
              rw [hin4]
              walk_at "T"
              refine t_iteD (fun hin => ?_) (fun hin => ?_)
              · walk_at "T"
                rename_i u2 hu2
                rw [g1, g2]
                refine p_get (f := V.int) (k := (x, y)) (m := numOf ps us (x, y)) (.inl (u_old (u_old hm5 hu) hu2)) (atP_of upd_same) (by rw [hlk4, if_pos hin]) ?_
                walk_at "T"
                refine r_appI (u_old (u_old l5 hu) hu2) (by omega) ?_
                walk_at "T"
                refine fin _ _ ((s5.upd hu).upd hu2) ?_
                rw [hstep]
                show (if (x, y) ∈ ps then numOf ps us (x, y) else x) :: _ = _
                rw [if_pos hin]
                rfl
              · walk_at "T"
                rw [g1]
                refine r_appI (u_old l5 hu) (by omega) ?_
                walk_at "T"
                refine fin _ _ (s5.upd hu) ?_
                rw [hstep]
                show (if (x, y) ∈ ps then numOf ps us (x, y) else x) :: _ = _
                rw [if_neg hin]
                rfl
            · have g1 : row.getD (0 + (i : Int)).toNat 0 = x := getD_of ex (by omega)
              have ey : row[i + 1]? = none := List.getElem?_eq_none_iff.mpr (by omega)
              rw [ey] at hstep
              walk_at "T"
              rw [g1]
              refine r_appI l5 (by omega) ?_
              walk_at "T"
              exact fin _ _ s5 hstep
          · intro NX k
            walk_at "T"
            refine t_iteD (fun hlt => ?_) (fun hlt => ?_)
            · obtain ⟨j, rfl⟩ : ∃ j, i = j + 1 := ⟨i - 1, by omega⟩
              obtain ⟨a, ea, _⟩ := map_int_at (row := row) (i := j) (by omega)
              have g1 : row.getD (0 + ((j + 1 : Nat) : Int) - 1).toNat 0 = a := getD_of ea (by omega)
              have g2 : row.getD (0 + ((j + 1 : Nat) : Int)).toNat 0 = x := getD_of ex (by omega)
              have hfl' : flag ps row (j + 1) = decide ((a, x) ∈ ps) := by
                show pin ps row j = _
                unfold pin
                rw [ea, ex]
              walk_at "T"
              rename_i u hu
              rw [g1, g2]
              refine p_in (f := V.int) (k := (a, x)) (.inl (u_old hm' hu)) (atP_of upd_same) ?_
              rw [hin4]
              walk_at "T"
              refine t_iteD (fun hin => ?_) (fun hin => ?_)
              · walk_at "T"
                refine ⟨_, fl, rfl, sm'.upd hu, u_old hl' hu, by omega, ?_⟩
                rw [hfl', decide_eq_true hin, if_pos rfl] at hstep
                rw [hfl', decide_eq_true hin] at heq
                rw [← heq, hstep]
                rfl
              · walk_at "T"
                exact k _ _ ⟨rfl, sm'.upd hu, u_old hl' hu, by rw [hfl', decide_eq_false hin]⟩
            · obtain rfl : i = 0 := by omega
              walk_at "T"
              exact k _ _ ⟨rfl, sm', hl', rfl⟩
        · rintro σ H' ⟨y6, fl, rfl, sm', hl', hfl, heq⟩
          rw [List.drop_length] at heq
          have hnil : ∀ b, lrow ps us b [] = [] := fun b => by cases b <;> rfl
          rw [hnil, List.append_nil, lrow_prow hisK] at heq
          have p' := sm' _ _ p4
          walk_at "T"
          refine r_tupLI (ns := fl) (SqL.of hl') fun t1 ht1 => ?_
          walk_at "T"
          refine r_tupL (xs := cs.map V.ref) (SqL.of (u_old p' ht1)) fun t2 ht2 => ?_
          walk_at "T"
          rename_i t ht
          refine q t t1 t2 cs _ ((((s4.trans sm').upd ht1).upd ht2).upd ht) upd_same ?_ (u_old upd_same ht) ?_
          · rw [← heq]
            exact u_old (u_old upd_same ht2) ht
          · exact atPs_same (((sm'.upd ht1).upd ht2).upd ht) a4
open PySem PySem.Spec PyProof.Rows L2 LW LM
/-! ### steps of a reading, heaps: short tactics -/
/-! ### told and due, alike -/
def EqT : Nat → Hp → V → V → Prop
  | 0, _, u, v => ∃ n : Int, u = .int n ∧ v = .int n
  | k + 1, H, u, v => (∃ n : Int, u = .int n ∧ v = .int n) ∨ ∃ (a b : Addr) (xs ys : List V), u = .ref a ∧ v = .ref b ∧ H a = some (.tup xs) ∧ H b = some (.tup ys) ∧ xs.length = ys.length ∧ xs.length ≤ 1000000 ∧ ∀ (i : Nat) (x y : V), xs[i]? = some x → ys[i]? = some y → EqT k H x y
def sp_is (n : Nat) : Sp := sp2 fun u v H Q => EqT n H u v ∧ Q (.bl true) H
theorem r_isi_int {K : PySem.W.Frag} {H : Hp} {n : Int} {T : String} {b : Bool} {Q : VK} (h : kitB "int" T = some b) (q : Q (.bl b) H) : rIsi K [.int n, .ty T] H Q := ⟨_, _, _, _, b, rfl, .ty T, .base (.int n), kit_ty h, q⟩
theorem r_isi_tup {K : PySem.W.Frag} {H : Hp} {a : Addr} {xs : List V} {T : String} {b : Bool} {Q : VK} (ha : H a = some (.tup xs)) (h : kitB "tuple" T = some b) (q : Q (.bl b) H) : rIsi K [.ref a, .ty T] H Q := ⟨_, _, _, _, b, rfl, .ty T, .base (.tup ha), kit_ty h, q⟩
abbrev n__law_is : List Str := ["told", "due", "k"]
def t__law_is (K : PySem.W.Frag) (w : World) (spr : Sp) : TS :=
  (tSeq (tIfS (tB (tCB (rIsi K) (tCons (tVar 1) (tCons (tC (.ty "tuple")) tNil)))) (tSeq (tIfS (tOr (tNot (tB (tCB (rIsi K) (tCons (tVar 0) (tCons (tC (.ty "tuple")) tNil))))) (tTest (tOp rNe (tCB (oLen K) (tCons (tVar 0) tNil)) (tCB (oLen K) (tCons (tVar 1) tNil))))) (tRet (tC (.bl false))) tNext)
    (tSeq (tFor (iRng1 (tCons (tCB (oLen K) (tCons (tVar 1) tNil)) tNil)) (gName 2)
    (tIfS (tNot (tB (tCall spr [] E0 (tCons (tOp (rIxT K) (tVar 0) (tVar 2)) (tCons (tOp (rIxT K) (tVar 1) (tVar 2)) tNil))))) (tRet (tC (.bl false))) tNext))
    (tRet (tC (.bl true))))) tNext)
    (tSeq (tIfS (tOr (tB (tCB (rIsi K) (tCons (tVar 0) (tCons (tC (.ty "bool")) tNil)))) (tNot (tB (tCB (rIsi K) (tCons (tVar 0) (tCons (tC (.ty "int")) tNil)))))) (tRet (tC (.bl false))) tNext)
    (tRet (tOp rEq (tVar 0) (tVar 1)))))
theorem r_is_int {K : PySem.W.Frag} {w : World} {spr : Sp} {n : Int} {H : Hp} {Q : VK} (q : Q (.bl true) H) : t__law_is K w spr { nx := fun _ H' => Q .non H', rt := Q } (start n__law_is [.int n, .int n]) H := by
  unfold t__law_is
  walk_at "T"
  refine r_isi_int (b := false) (by decide +kernel) ?_
  walk_at "T"
  refine r_isi_int (b := false) (by decide +kernel) ?_
  walk_at "T"
  refine r_isi_int (b := true) (by decide +kernel) ?_
  walk_at "T"
  show if false = true then _ else _
  walk_at "T"
  rw [decide_eq_true rfl]
  exact q
theorem r_is {K : PySem.W.Frag} {w : World} {n : Nat} (vs : List V) (H : Hp) (Q : VK) (E : XK) (h : sp_is (n + 1) vs H Q E) : t__law_is K w (sp_is n) { nx := fun _ H' => Q .non H', rt := Q } (start n__law_is vs) H := by
  obtain ⟨_, _, rfl, h, q⟩ := h
  rcases h with ⟨n, rfl, rfl⟩ | ⟨a, b, xs, ys, rfl, rfl, ha, hb, hl, hz, hx⟩
  · exact r_is_int q
  have sa : SqT K H a xs := SqT.of ha
  have sb : SqT K H b ys := SqT.of hb
  unfold t__law_is
  walk_at "T"
  refine r_isi_tup (b := true) hb (by decide +kernel) ?_
  walk_at "T"
  refine r_isi_tup (b := true) ha (by decide +kernel) ?_
  walk_at "T"
  show if false = true then _ else _
  walk_at "T"
  rw [hl]
  refine t_iteN (fun e => absurd rfl e) (fun _ => ?_)
  walk_at "T"
  refine for_w (w_rng (lo := 0) (n := ys.length)) (fun i σ H' => ∃ y2 : Option V, σ = [some (.ref a), some (.ref b), y2] ∧ H' = H) ⟨_, rfl, rfl⟩ (fun _ _ _ _ _ => trivial) ?_ ?_
  · rintro i σ H' x _ hi ⟨y2, rfl, rfl⟩ ⟨rfl, rfl⟩
    obtain ⟨x, ex⟩ := get_of (xs := xs) (i := i) (by omega)
    obtain ⟨y, ey⟩ := get_of (xs := ys) (i := i) hi
    have e0 : (0 + (i : Int)).toNat = i := by omega
    walk_at "T"
    refine r_ixT (v := x) sa (at_nat (by omega) (by rw [e0]; exact ex)) ?_
    walk_at "T"
    refine r_ixT (v := y) sb (at_nat (by omega) (by rw [e0]; exact ey)) ?_
    walk_at "T"
    refine ⟨x, y, rfl, hx i x y ex ey, ?_⟩
    walk_at "T"
    show if false = true then _ else _
    walk_at "T"
    exact ⟨_, rfl, rfl⟩
  · rintro σ H' ⟨y2, rfl, rfl⟩
    walk_at "T"
    exact q
open PySem PySem.Spec PyProof.Rows L2 LW LM
/-! ### steps of a reading, heaps: short tactics -/
theorem c_row_counts {K : PySem.W.Frag} {H : Hp} {r : Addr} {row : List Int} {Q : VK} {E : XK} (hS : SqT K H r (row.map V.int)) (hl : row.length ≤ 100000)
    (h : ∀ t d1 d2 H', Same H H' → H' t = some (.tup [.ref d1, .ref d2]) → H' d1 = some (.dT (encP (counts row))) → H' d2 = some (.dK (encB (trues (nums row)))) → Q (.ref t) H') : sp_row_counts K ([.ref r] ++ []) H Q E :=
  ⟨_, rfl, r, row, rfl, hS, hl, fun t d1 d2 H' a b c d _ _ => h t d1 d2 H' a b c d⟩
theorem c_left_numbers {K : PySem.W.Frag} {H : Hp} {d1 d2 : Addr} {row : List Int} {Q : VK} {E : XK} (h1 : H d1 = some (.dT (encP (counts row)))) (h2 : H d2 = some (.dK (encB (trues (nums row))))) (hl : row.length ≤ 100000)
    (h : ∀ (t : Addr) H', Same H H' → H' t = some (.tup ((leftNums row).map V.int)) → Q (.ref t) H') : sp_left_numbers K ([.ref d1, .ref d2] ++ []) H Q E :=
  ⟨_, _, rfl, d1, d2, row, rfl, rfl, h1, h2, hl, h⟩
theorem c_row_pairs {K : PySem.W.Frag} {H : Hp} {r lf : Addr} {row ls : List Int} {us : Int} {Q : VK} {E : XK} (hr : H r = some (.tup (row.map V.int))) (hlf : SqT K H lf (ls.map V.int)) (hl : row.length ≤ 100000)
    (h : ∀ (t t1 t2 : Addr) (bs : List Addr) (n : Int) H', Same H H' → H' t = some (.tup [.ref t1, .ref t2, .int n]) → H' t1 = some (.tup ((prow (LM.pairsOf row (inL ls)) us row).map V.int)) → H' t2 = some (.tup (bs.map V.ref)) → LS.AtPs H' bs (LM.pairsOf row (inL ls)) → Q (.ref t) H') :
    sp_row_pairs K ([.ref r, .ref lf, .int us] ++ []) H Q E := ⟨_, _, _, rfl, r, lf, row, ls, us, rfl, rfl, rfl, hr, hlf, hl, h⟩
def sp_sides_of (K : PySem.W.Frag) : Sp := sp1 fun x H Q => ∃ (r : Addr) (row : List Int), x = .ref r ∧ SqT K H r (row.map V.int) ∧ row.length ≤ 100000 ∧
  ∀ (t : Addr) H', Same H H' → H' t = some (.tup ((leftNums row).map V.int)) → Q (.ref t) H'
abbrev n_sides_of : List Str := ["row", "counts", "numbers"]
def t_sides_of (K : PySem.W.Frag) (w : World) : TS :=
  (tSeq (tAsg (tCall (sp_row_counts K) [] E0 (tCons (tVar 0) tNil)) (gTup K 2 (gCons (gName 1) (gCons (gName 2) gNil))))
    (tRet (tCall (sp_left_numbers K) [] E0 (tCons (tVar 1) (tCons (tVar 2) tNil)))))
theorem r_sides_of {K : PySem.W.Frag} {w : World} (vs : List V) (H : Hp) (Q : VK) (E : XK) (h : sp_sides_of K vs H Q E) : t_sides_of K w { nx := fun _ H' => Q .non H', rt := Q } (start n_sides_of vs) H := by
  obtain ⟨_, rfl, r, row, rfl, hS, hl, q⟩ := h
  unfold t_sides_of
  walk_at "T"
  refine c_row_counts hS hl fun t d1 d2 H1 s1 e e1 e2 => ?_
  refine g_tup (xs := [.ref d1, .ref d2]) (SqT.of e) rfl ?_
  walk_at "T"
  refine c_left_numbers e1 e2 hl fun t H2 s2 e3 => ?_
  exact q t H2 (s1.trans s2) e3
/-- what pair_row tells -/
def PRow (H : Hp) (t : Addr) (row ls : List Int) (us : Int) : Prop := ∃ (t1 t2 : Addr) (bs : List Addr), H t = some (.tup [.ref t1, .ref t2]) ∧ H t1 = some (.tup ((prow (LM.pairsOf row (inL ls)) us row).map V.int)) ∧ H t2 = some (.tup (bs.map V.ref)) ∧ LS.AtPs H bs (LM.pairsOf row (inL ls))
theorem PRow.same {H H' : Hp} {t : Addr} {row ls : List Int} {us : Int} (s : Same H H') (h : PRow H t row ls us) : PRow H' t row ls us := by
  obtain ⟨t1, t2, bs, a, b, c, d⟩ := h
  exact ⟨t1, t2, bs, s _ _ a, s _ _ b, s _ _ c, atPs_same s d⟩
def sp_pair_row (K : PySem.W.Frag) : Sp := sp3 fun x y z H Q => ∃ (r lf : Addr) (row ls : List Int) (us : Int), x = .ref r ∧ y = .ref lf ∧ z = .int us ∧ H r = some (.tup (row.map V.int)) ∧ SqT K H lf (ls.map V.int) ∧ row.length ≤ 100000 ∧
  ∀ (t : Addr) H', Same H H' → PRow H' t row ls us → Q (.ref t) H'
abbrev n_pair_row : List Str := ["row", "lefts", "used", "found", "pairs", "further"]
def t_pair_row (K : PySem.W.Frag) (w : World) : TS :=
  (tSeq (tAsg (tCall (sp_row_pairs K) [] E0 (tCons (tVar 0) (tCons (tVar 1) (tCons (tVar 2) tNil)))) (gTup K 3 (gCons (gName 3) (gCons (gName 4) (gCons (gName 5) gNil)))))
    (tRet (tTup (tCons (tVar 3) (tCons (tVar 4) tNil)))))
theorem r_pair_row {K : PySem.W.Frag} {w : World} (vs : List V) (H : Hp) (Q : VK) (E : XK) (h : sp_pair_row K vs H Q E) : t_pair_row K w { nx := fun _ H' => Q .non H', rt := Q } (start n_pair_row vs) H := by
  obtain ⟨_, _, _, rfl, r, lf, row, ls, us, rfl, rfl, rfl, hr, hlf, hl, q⟩ := h
  unfold t_pair_row
  walk_at "T"
  refine c_row_pairs hr hlf hl fun t t1 t2 bs n H1 s1 e e1 e2 e3 => ?_
  refine g_tup (xs := [.ref t1, .ref t2, .int n]) (SqT.of e) rfl ?_
  walk_at "T"
  rename_i u hu
  exact q u _ (s1.upd hu) ⟨t1, t2, bs, upd_same, u_old e1 hu, u_old e2 hu, atPs_same (L2.Same.new hu) e3⟩
theorem c_sides_of {K : PySem.W.Frag} {H : Hp} {r : Addr} {row : List Int} {Q : VK} {E : XK} (hS : SqT K H r (row.map V.int)) (hl : row.length ≤ 100000)
    (h : ∀ (t : Addr) H', Same H H' → H' t = some (.tup ((leftNums row).map V.int)) → Q (.ref t) H') : sp_sides_of K [.ref r] H Q E := ⟨_, rfl, r, row, rfl, hS, hl, h⟩
theorem c_pair_row {K : PySem.W.Frag} {H : Hp} {r lf : Addr} {row ls : List Int} {us : Int} {Q : VK} {E : XK} (hr : H r = some (.tup (row.map V.int))) (hlf : SqT K H lf (ls.map V.int)) (hl : row.length ≤ 100000)
    (h : ∀ (t : Addr) H', Same H H' → PRow H' t row ls us → Q (.ref t) H') : sp_pair_row K [.ref r, .ref lf, .int us] H Q E := ⟨_, _, _, rfl, r, lf, row, ls, us, rfl, rfl, rfl, hr, hlf, hl, h⟩
def sp_sides_told (K : PySem.W.Frag) : Sp := sp2 fun x y H Q => ∃ (r : Addr) (row : List Int) (k : Bool), x = .ref r ∧ y = .bl k ∧ SqT K H r (row.map V.int) ∧ row.length ≤ 100000 ∧
  ∀ (t : Addr) H', Same H H' → H' t = some (.tup ((leftNums row).map V.int)) → Q (.ref t) H'
abbrev n__law_sides_told : List Str := ["row", "named"]
def t__law_sides_told (K : PySem.W.Frag) (w : World) : TS :=
  (tSeq (tIfS (tB (tVar 1)) (tRet (tCallK (sp_sides_of K) LD.gKw1 E0 tNil (tCons (tVar 0) tNil))) tNext)
    (tRet (tCall (sp_sides_of K) [] E0 (tCons (tVar 0) tNil))))
theorem r_sides_told {K : PySem.W.Frag} {w : World} (vs : List V) (H : Hp) (Q : VK) (E : XK) (h : sp_sides_told K vs H Q E) : t__law_sides_told K w { nx := fun _ H' => Q .non H', rt := Q } (start n__law_sides_told vs) H := by
  obtain ⟨_, _, rfl, r, row, k, rfl, rfl, hS, hl, q⟩ := h
  unfold t__law_sides_told
  walk_at "T"
  refine t_ite (fun _ => ?_) (fun _ => ?_)
  · walk_at "T"
    exact c_sides_of hS hl q
  · walk_at "T"
    exact c_sides_of hS hl q
def sp_pairs_told (K : PySem.W.Frag) : Sp := sp4 fun x y z k H Q => ∃ (r lf : Addr) (row ls : List Int) (us : Int) (b : Bool), x = .ref r ∧ y = .ref lf ∧ z = .int us ∧ k = .bl b ∧ H r = some (.tup (row.map V.int)) ∧ SqT K H lf (ls.map V.int) ∧ row.length ≤ 100000 ∧
  ∀ (t : Addr) H', Same H H' → PRow H' t row ls us → Q (.ref t) H'
abbrev n__law_pairs_told : List Str := ["row", "lefts", "used", "named"]
def t__law_pairs_told (K : PySem.W.Frag) (w : World) : TS :=
  (tSeq (tIfS (tB (tVar 3)) (tRet (tCallK (sp_pair_row K) LD.gKw321 E0 tNil (tCons (tVar 2) (tCons (tVar 1) (tCons (tVar 0) tNil))))) tNext)
    (tRet (tCall (sp_pair_row K) [] E0 (tCons (tVar 0) (tCons (tVar 1) (tCons (tVar 2) tNil))))))
theorem r_pairs_told {K : PySem.W.Frag} {w : World} (vs : List V) (H : Hp) (Q : VK) (E : XK) (h : sp_pairs_told K vs H Q E) : t__law_pairs_told K w { nx := fun _ H' => Q .non H', rt := Q } (start n__law_pairs_told vs) H := by
  obtain ⟨_, _, _, _, rfl, r, lf, row, ls, us, k, rfl, rfl, rfl, rfl, hr, hlf, hl, q⟩ := h
  unfold t__law_pairs_told
  walk_at "T"
  refine t_ite (fun _ => ?_) (fun _ => ?_)
  · walk_at "T"
    exact c_pair_row hr hlf hl q
  · walk_at "T"
    exact c_pair_row hr hlf hl q
theorem c_sides_told {K : PySem.W.Frag} {H : Hp} {r : Addr} {row : List Int} {k : Bool} {Q : VK} {E : XK} (hS : SqT K H r (row.map V.int)) (hl : row.length ≤ 100000)
    (h : ∀ (t : Addr) H', Same H H' → H' t = some (.tup ((leftNums row).map V.int)) → Q (.ref t) H') : sp_sides_told K ([.ref r, .bl k] ++ []) H Q E := ⟨_, _, rfl, r, row, k, rfl, rfl, hS, hl, h⟩
theorem c_pairs_told {K : PySem.W.Frag} {H : Hp} {r lf : Addr} {row ls : List Int} {us : Int} {k : Bool} {Q : VK} {E : XK} (hr : H r = some (.tup (row.map V.int))) (hlf : SqT K H lf (ls.map V.int)) (hl : row.length ≤ 100000)
    (h : ∀ (t : Addr) H', Same H H' → PRow H' t row ls us → Q (.ref t) H') : sp_pairs_told K ([.ref r, .ref lf, .int us, .bl k] ++ []) H Q E := ⟨_, _, _, _, rfl, r, lf, row, ls, us, k, rfl, rfl, rfl, rfl, hr, hlf, hl, h⟩
theorem c_sides {K : PySem.W.Frag} {H : Hp} {r : Addr} {row : List Int} {Q : VK} {E : XK} (hS : SqL K H r (row.map V.int)) (hl : row.length ≤ 4000)
    (h : ∀ (t : Addr) H', Same H H' → H' t = some (.tup ((leftNums row).map V.int)) → Q (.ref t) H') : sp_sides K ([.ref r] ++ []) H Q E := ⟨_, rfl, r, row, rfl, hS, hl, h⟩
theorem c_pairs {K : PySem.W.Frag} {H : Hp} {r lf : Addr} {row ls : List Int} {us : Int} {Q : VK} {E : XK} (hr : SqL K H r (row.map V.int)) (hlf : SqT K H lf (ls.map V.int)) (hl : row.length ≤ 4000) (hls : ls.length ≤ 100000)
    (h : ∀ (t : Addr) H', Same H H' → PRow H' t row ls us → Q (.ref t) H') : sp_pairs K ([.ref r, .ref lf, .int us] ++ []) H Q E :=
  ⟨_, _, _, rfl, r, lf, row, ls, us, rfl, rfl, rfl, hr, hlf, hl, hls, fun t t1 t2 bs H' s a b c d => h t H' s ⟨t1, t2, bs, a, b, c, d⟩⟩
theorem c_is {n : Nat} {u v : V} {H : Hp} {Q : VK} {E : XK} (h : EqT n H u v) (q : Q (.bl true) H) : sp_is n ([u, v] ++ []) H Q E := ⟨u, v, rfl, h, q⟩
theorem eqT_ints {H : Hp} {a b : Addr} {ns : List Int} (k : Nat) (ha : H a = some (.tup (ns.map V.int))) (hb : H b = some (.tup (ns.map V.int))) (hz : ns.length ≤ 1000000) : EqT (k + 1) H (.ref a) (.ref b) := by
  refine .inr ⟨a, b, _, _, rfl, rfl, ha, hb, rfl, by rw [List.length_map]; exact hz, fun i x y ex ey => ?_⟩
  obtain ⟨n, _, rfl⟩ := map_int_get ex
  obtain rfl := Option.some.inj (ex.symm.trans ey)
  cases k with
  | zero => exact ⟨n, rfl, rfl⟩
  | succ k => exact .inl ⟨n, rfl, rfl⟩
theorem eqT_pairs {H : Hp} {a b : Addr} {bs cs : List Addr} {ps : List P2} (ha : H a = some (.tup (bs.map V.ref))) (hb : H b = some (.tup (cs.map V.ref))) (h1 : LS.AtPs H bs ps) (h2 : LS.AtPs H cs ps) (hz : ps.length ≤ 1000000) : EqT 2 H (.ref a) (.ref b) := by
  have l1 := atPs_len h1
  have l2 := atPs_len h2
  refine .inr ⟨a, b, _, _, rfl, rfl, ha, hb, by rw [List.length_map, List.length_map, l1, l2], by rw [List.length_map, l1]; exact hz, fun i x y ex ey => ?_⟩
  rw [List.getElem?_map] at ex ey
  cases e1 : bs[i]? with
  | none => rw [e1] at ex; cases ex
  | some c =>
    cases e2 : cs[i]? with
    | none => rw [e2] at ey; cases ey
    | some d =>
      rw [e1] at ex
      rw [e2] at ey
      obtain rfl := Option.some.inj ex
      obtain rfl := Option.some.inj ey
      obtain ⟨p, ep, hp⟩ := atPs_get h1 e1
      obtain ⟨q, eq, hq⟩ := atPs_get h2 e2
      obtain rfl := Option.some.inj (ep.symm.trans eq)
      exact eqT_ints (ns := [p.1, p.2]) 0 hp hq (by show 2 ≤ _; omega)
theorem prow_len (ps : List P2) (us : Int) : ∀ row : List Int, (prow ps us row).length ≤ row.length
  | [] => Nat.le_refl _
  | [_] => Nat.le_refl _
  | a :: b :: r => by
    unfold prow
    by_cases h : (a, b) ∈ ps
    · rw [if_pos h]
      have := prow_len ps us r
      simp only [List.length_cons]
      omega
    · rw [if_neg h]
      have := prow_len ps us (b :: r)
      simp only [List.length_cons] at this ⊢
      omega
theorem pairs_len (row : List Int) (lf : Int → Bool) : (LM.pairsOf row lf).length ≤ row.length := by
  unfold LM.pairsOf pkeys
  rw [(sortP_perm _).length_eq]
  have h1 := len_dedup ((zipT row).filter (isK lf))
  have h2 := List.length_filter_le (isK lf) (zipT row)
  rw [zipT_len] at h2
  omega
theorem leftNums_len (row : List Int) : (leftNums row).length ≤ row.length := by
  unfold leftNums leftBy
  refine Nat.le_trans (List.length_filter_le _ _) ?_
  rw [(sortI_perm _).length_eq]
  exact len_dedup _
theorem eqT_prow {H : Hp} {a b : Addr} {row ls : List Int} {us : Int} (h1 : PRow H a row ls us) (h2 : PRow H b row ls us) (hl : row.length ≤ 100000) : EqT 3 H (.ref a) (.ref b) := by
  obtain ⟨t1, t2, bs, a0, a1, a2, a3⟩ := h1
  obtain ⟨u1, u2, cs, b0, b1, b2, b3⟩ := h2
  have hp := prow_len (LM.pairsOf row (inL ls)) us row
  have hq := pairs_len row (inL ls)
  refine .inr ⟨a, b, _, _, rfl, rfl, a0, b0, rfl, by show 2 ≤ _; omega, fun i x y ex ey => ?_⟩
  match i with
  | 0 =>
    obtain rfl := Option.some.inj ex
    obtain rfl := Option.some.inj ey
    exact eqT_ints 1 a1 b1 (by omega)
  | 1 =>
    obtain rfl := Option.some.inj ex
    obtain rfl := Option.some.inj ey
    exact eqT_pairs a2 b2 a3 b3 (by omega)
  | i + 2 => cases ex
def sp_asked (K : PySem.W.Frag) : Sp := sp3 fun x y z H Q => ∃ (b ce r : Addr) (row : List Int) (us : Int), x = .ref b ∧ y = .ref r ∧ z = .int us ∧ Bag H b ce ∧ H r = some (.lst (row.map V.int)) ∧ row ≠ [] ∧ row.length ≤ 4000 ∧ ∀ H', Bag H' b ce → Kb b H H' → Q (.bl true) H'
theorem c_asked {K : PySem.W.Frag} {H : Hp} {b ce r : Addr} {row : List Int} {us : Int} {Q : VK} {E : XK} (hB : Bag H b ce) (hr : H r = some (.lst (row.map V.int))) (h0 : row ≠ []) (hl : row.length ≤ 4000) (h : ∀ H', Bag H' b ce → Kb b H H' → Q (.bl true) H') :
    sp_asked K ([.ref b, .ref r, .int us] ++ []) H Q E := ⟨_, _, _, rfl, b, ce, r, row, us, rfl, rfl, rfl, hB, hr, h0, hl, h⟩
abbrev n__law_asked : List Str := ["bag", "row", "used", "named", "sides", "due", "lefts"]
def t__law_asked (K : PySem.W.Frag) (w : World) : TS :=
  (tSeq (tAsg (tOp rEq (tCall sp_draw [] E0 (tCons (tVar 0) (tCons (tC (.int 2)) tNil))) (tC (.int 1))) (gName 3))
    (tSeq (tAsg (tCall (sp_sides K) [] E0 (tCons (tVar 1) tNil)) (gName 4))
    (tSeq (tIfS (tNot (tB (tCall (sp_is 3) [] E0 (tCons (tCall (sp_sides_told K) [] E0 (tCons (tThen (tVar 1) (kTup K)) (tCons (tVar 3) tNil))) (tCons (tVar 4) tNil))))) (tRet (tC (.bl false))) tNext)
    (tSeq (tAsg (tCall (sp_pairs K) [] E0 (tCons (tVar 1) (tCons (tVar 4) (tCons (tVar 2) tNil)))) (gName 5))
    (tSeq (tIfS (tNot (tB (tCall (sp_is 3) [] E0 (tCons (tCall (sp_pairs_told K) [] E0 (tCons (tThen (tVar 1) (kTup K)) (tCons (tVar 4) (tCons (tVar 2) (tCons (tNotV (tVar 3)) tNil))))) (tCons (tVar 5) tNil))))) (tRet (tC (.bl false))) tNext)
    (tSeq (tAsg (tCall (sp_lefts K) [] E0 (tCons (tVar 0) (tCons (tVar 1) (tCons (tVar 2) tNil)))) (gName 6))
    (tRet (tCall (sp_is 3) [] E0 (tCons (tCall (sp_pairs_told K) [] E0 (tCons (tThen (tVar 1) (kTup K)) (tCons (tVar 6) (tCons (tVar 2) (tCons (tVar 3) tNil))))) (tCons (tCall (sp_pairs K) [] E0 (tCons (tVar 1) (tCons (tVar 6) (tCons (tVar 2) tNil)))) tNil))))))))))
theorem r_asked {K : PySem.W.Frag} {w : World} (vs : List V) (H : Hp) (Q : VK) (E : XK) (h : sp_asked K vs H Q E) : t__law_asked K w { nx := fun _ H' => Q .non H', rt := Q } (start n__law_asked vs) H := by
  obtain ⟨_, _, _, rfl, b, ce, r, row, us, rfl, rfl, rfl, hB, hr, h0, hl, q⟩ := h
  have hrb := hB.lst hr
  have hll := leftNums_len row
  unfold t__law_asked
  walk_at "T"
  refine c_draw hB (by decide) fun nd H1 n0 n1 B1 s1 => ?_
  have r1 : H1 r = some (.lst (row.map V.int)) := s1 _ _ hr hrb
  walk_at "T"
  refine c_sides (SqL.of r1) hl fun t1 H2 s2 e2 => ?_
  have r2 := s2 _ _ r1
  have k2 := s1.same s2
  walk_at "T"
  refine r_tupLI (ns := row) (SqL.of r2) fun u hu => ?_
  walk_at "T"
  refine c_sides_told (SqT.of upd_same) (by omega) fun t2 H3 s3 e3 => ?_
  have s23 := (L2.Same.new hu (o := .tup (row.map V.int))).trans s3
  have e23 := s23 _ _ e2
  walk_at "T"
  refine c_is (eqT_ints 2 e3 e23 (by omega)) ?_
  walk_at "T"
  show if false = true then _ else _
  walk_at "T"
  have r3 := s23 _ _ r2
  refine c_pairs (SqL.of r3) (SqT.of e23) hl (by omega) fun t4 H4 s4 e4 => ?_
  walk_at "T"
  have r4 := s4 _ _ r3
  refine r_tupLI (ns := row) (SqL.of r4) fun v hv => ?_
  walk_at "T"
  have sv : Same H4 (upd H4 v (.tup (row.map V.int))) := L2.Same.new hv
  refine c_pairs_told (ls := leftNums row) upd_same (SqT.of (sv _ _ (s4 _ _ e23))) (by omega) fun t5 H5 s5 e5 => ?_
  have s45 := sv.trans s5
  walk_at "T"
  refine c_is (eqT_prow e5 (e4.same s45) (by omega)) ?_
  walk_at "T"
  show if false = true then _ else _
  walk_at "T"
  have r5 := s45 _ _ r4
  have k5 := (k2.same s23).same (s4.trans s45)
  have B5 := (B1.same s2).same (s23.trans (s4.trans s45))
  refine c_lefts B5 r5 h0 hl fun t6 ls H6 B6 s6 e6 l6 => ?_
  have r6 : H6 r = some (.lst (row.map V.int)) := s6 _ _ r5 hrb
  walk_at "T"
  refine r_tupLI (ns := row) (SqL.of r6) fun x hx => ?_
  walk_at "T"
  have sx : Same H6 (upd H6 x (.tup (row.map V.int))) := L2.Same.new hx
  refine c_pairs_told (ls := ls) upd_same (sx.sqT e6) (by omega) fun t7 H7 s7 e7 => ?_
  have s67 := sx.trans s7
  walk_at "T"
  refine c_pairs (SqL.of (s67 _ _ r6)) (s67.sqT e6) hl (by omega) fun t8 H8 s8 e8 => ?_
  walk_at "T"
  refine c_is (eqT_prow (e7.same s8) e8 (by omega)) ?_
  exact q H8 (B6.same (s67.trans s8)) ((k5.trans s6).same (s67.trans s8))
open PySem PySem.Spec PyProof.Rows L2 LW LM
/-! ### steps of a reading, heaps: short tactics -/
theorem fix_pairs : ∀ a b c : Fin 5, LM.pairsOf [5 + (b.val : Int), 10 + (c.val : Int), (a.val : Int), 10 + (c.val : Int), 5 + (b.val : Int), (a.val : Int), 5 + (b.val : Int)] (inL [(a.val : Int), 5 + (b.val : Int)]) = [((a.val : Int), 10 + (c.val : Int)), (5 + (b.val : Int), 10 + (c.val : Int))] := by decide +kernel
theorem fix_prow : ∀ a b c : Fin 5, prow [((a.val : Int), 10 + (c.val : Int)), (5 + (b.val : Int), 10 + (c.val : Int))] 20 [5 + (b.val : Int), 10 + (c.val : Int), (a.val : Int), 10 + (c.val : Int), 5 + (b.val : Int), (a.val : Int), 5 + (b.val : Int)] = [21, 20, 5 + (b.val : Int), (a.val : Int), 5 + (b.val : Int)] := by decide +kernel
theorem fix_pairs2 : ∀ a b c : Fin 5, LM.pairsOf [5 + (b.val : Int), 10 + (c.val : Int), (a.val : Int)] (inL [(a.val : Int), 1000]) = [] := by decide +kernel
theorem fix_left : ∀ a b c : Fin 5, leftNums [5 + (b.val : Int), (a.val : Int), 10 + (c.val : Int), 5 + (b.val : Int)] = [(a.val : Int), 10 + (c.val : Int)] := by decide +kernel
theorem fix_prow2 : ∀ a b c : Fin 5, prow [] 20 [5 + (b.val : Int), 10 + (c.val : Int), (a.val : Int)] = [5 + (b.val : Int), 10 + (c.val : Int), (a.val : Int)] := by decide +kernel
theorem to_fin {v : Int} (h0 : 0 ≤ v) (h1 : v < 5) : ∃ a : Fin 5, v = (a.val : Int) := ⟨⟨v.toNat, by omega⟩, by
  show v = (v.toNat : Int)
  omega⟩
theorem c_bag {K : PySem.W.Frag} {H : Hp} {a : Addr} {ns : List Int} {Q : VK} {E : XK} (hS : SqL K H a (ns.map V.int)) (h : ∀ b ce H', Bag H' b ce → Same H H' → Q (.ref b) H') : sp_bag K ([.ref a] ++ []) H Q E := ⟨_, rfl, a, ns, rfl, hS, h⟩
theorem at_last {ns : List Int} (h : ns ≠ []) : atI (ns.map V.int) (-1) = some (.int (ns.getLast h)) := by
  have hp : 0 < ns.length := List.length_pos_iff.mpr h
  unfold atI ixN
  rw [if_neg (by decide), if_pos (by rw [List.length_map]; omega)]
  show (ns.map V.int)[((-1 : Int) + ((ns.map V.int).length : Nat)).toNat]? = _
  rw [List.length_map, show ((-1 : Int) + (ns.length : Nat)).toNat = ns.length - 1 by omega, List.getElem?_map, ← List.getLast?_eq_getElem?, List.getLast?_eq_getLast h]
  rfl
def spLaw (K : PySem.W.Frag) : Sp := sp1 fun x H Q => ∃ (a : Addr) (ns : List Int), x = .ref a ∧ SqL K H a (ns.map V.int) ∧ ∀ H', Q (.bl true) H'
abbrev n_law : List Str := ["script", "bag", "many", "row", "used", "pressed", "number", "made", "one", "two", "far", "told"]
def t_law (K : PySem.W.Frag) (w : World) : TS :=
  (tSeq (tAsg (tCall (sp_bag K) [] E0 (tCons (tVar 0) tNil)) (gName 1))
    (tSeq (tAsg (tOp oAdd (tC (.int 2)) (tCall sp_draw [] E0 (tCons (tVar 1) (tCons (tC (.int 11)) tNil)))) (gName 2))
    (tSeq (tAsg (tCall sp_row [] E0 (tCons (tVar 1) (tCons (tVar 2) (tCons (tOp oAdd (tC (.int 2)) (tCall sp_draw [] E0 (tCons (tVar 1) (tCons (tC (.int 90)) tNil)))) tNil)))) (gName 3))
    (tSeq (tIfS (tTest (tOp rEq (tCall sp_draw [] E0 (tCons (tVar 1) (tCons (tC (.int 7)) tNil))) (tC (.int 5)))) (tAsg (tCall sp_row [] E0 (tCons (tVar 1) (tCons (tOp (rIxL K) (tLst (tCons (tC (.int 2)) (tCons (tC (.int 3)) (tCons (tC (.int 40)) (tCons (tC (.int 700)) tNil))))) (tCall sp_draw [] E0 (tCons (tVar 1) (tCons (tC (.int 4)) tNil)))) (tCons (tC (.int 3000)) tNil)))) (gName 3)) tNext)
    (tSeq (tAsg (tOp (rIxL K) (tLst (tCons (tOp oAdd (tCB (rMax K) (tCons (tVar 3) tNil)) (tC (.int 1))) (tCons (tOp oPow (tC (.int 10)) (tC (.int 18))) (tCons (tCB oMin2 (tCons (tOp oPow (tC (.int 10)) (tC (.int 18))) (tCons (tOp oAdd (tOp oAdd (tCB (rMax K) (tCons (tVar 3) tNil)) (tC (.int 1))) (tCall sp_draw [] E0 (tCons (tVar 1) (tCons (tC (.int 500)) tNil)))) tNil))) tNil)))) (tCall sp_draw [] E0 (tCons (tVar 1) (tCons (tC (.int 3)) tNil)))) (gName 4))
    (tSeq (tIfS (tNot (tB (tCall (sp_asked K) [] E0 (tCons (tVar 1) (tCons (tVar 3) (tCons (tVar 4) tNil)))))) (tRet (tC (.bl false))) tNext)
    (tSeq (tAsg (tLst (tCons (tOp (rIxL K) (tVar 3) (tC (.int 0))) tNil)) (gName 5))
    (tSeq (tFor (iTup K (tOp (rIxT K) (tCall (sp_pairs K) [] E0 (tCons (tVar 3) (tCons (tCall (sp_sides K) [] E0 (tCons (tVar 3) tNil)) (tCons (tVar 4) tNil)))) (tC (.int 0)))) (gName 6)
    (tIfS (tAnd (tTest (tOp rNe (tVar 6) (tOp (rIxL K) (tVar 5) (tUn oNeg (tC (.int 1)))))) (tTest (tOp oLt (tVar 6) (tOp oPow (tC (.int 10)) (tC (.int 18)))))) (tDrop (tBM K "list" rAppend (tVar 5) (tCons (tVar 6) tNil))) tNext))
    (tSeq (tIfS (tAnd (tTest (tOp oGt (tCB (oLen K) (tCons (tVar 5) tNil)) (tC (.int 1)))) (tNot (tB (tCall (sp_asked K) [] E0 (tCons (tVar 1) (tCons (tVar 5) (tCons (tOp oAdd (tCB (rMax K) (tCons (tVar 5) tNil)) (tC (.int 1))) tNil))))))) (tRet (tC (.bl false))) tNext)
    (tSeq (tFor (iList K (tCall sp_made [] E0 (tCons (tVar 1) tNil))) (gName 7)
    (tIfS (tNot (tB (tCall (sp_asked K) [] E0 (tCons (tVar 1) (tCons (tVar 7) (tCons (tOp oAdd (tOp oAdd (tCB (rMax K) (tCons (tVar 7) tNil)) (tC (.int 1))) (tCall sp_draw [] E0 (tCons (tVar 1) (tCons (tC (.int 3)) tNil)))) tNil)))))) (tRet (tC (.bl false))) tNext))
    (tSeq (tPar3 8 9 10 (tCons (tCall sp_draw [] E0 (tCons (tVar 1) (tCons (tC (.int 5)) tNil))) (tCons (tOp oAdd (tC (.int 5)) (tCall sp_draw [] E0 (tCons (tVar 1) (tCons (tC (.int 5)) tNil)))) (tCons (tOp oAdd (tC (.int 10)) (tCall sp_draw [] E0 (tCons (tVar 1) (tCons (tC (.int 5)) tNil)))) tNil))))
    (tSeq (tAsg (tCall (sp_pairs_told K) [] E0 (tCons (tTup (tCons (tVar 9) (tCons (tVar 10) (tCons (tVar 8) (tCons (tVar 10) (tCons (tVar 9) (tCons (tVar 8) (tCons (tVar 9) tNil)))))))) (tCons (tTup (tCons (tVar 8) (tCons (tVar 9) tNil))) (tCons (tC (.int 20)) (tCons (tC (.bl false)) tNil))))) (gName 11))
    (tSeq (tIfS (tNot (tB (tCall (sp_is 3) [] E0 (tCons (tVar 11) (tCons (tTup (tCons (tTup (tCons (tC (.int 21)) (tCons (tC (.int 20)) (tCons (tVar 9) (tCons (tVar 8) (tCons (tVar 9) tNil)))))) (tCons (tTup (tCons (tTup (tCons (tVar 8) (tCons (tVar 10) tNil))) (tCons (tTup (tCons (tVar 9) (tCons (tVar 10) tNil))) tNil))) tNil))) tNil))))) (tRet (tC (.bl false))) tNext)
    (tSeq (tIfS (tNot (tB (tCall (sp_is 3) [] E0 (tCons (tCall (sp_pairs_told K) [] E0 (tCons (tTup (tCons (tVar 9) (tCons (tVar 10) (tCons (tVar 8) tNil)))) (tCons (tTup (tCons (tVar 8) (tCons (tC (.int 1000)) tNil))) (tCons (tC (.int 20)) (tCons (tC (.bl true)) tNil))))) (tCons (tTup (tCons (tTup (tCons (tVar 9) (tCons (tVar 10) (tCons (tVar 8) tNil)))) (tCons (tTup tNil) tNil))) tNil))))) (tRet (tC (.bl false))) tNext)
    (tRet (tCall (sp_is 3) [] E0 (tCons (tCall (sp_sides_told K) [] E0 (tCons (tTup (tCons (tVar 9) (tCons (tVar 8) (tCons (tVar 10) (tCons (tVar 9) tNil))))) (tCons (tC (.bl true)) tNil))) (tCons (tTup (tCons (tVar 8) (tCons (tVar 10) tNil))) tNil))))))))))))))))))
theorem r_law {K : PySem.W.Frag} {w : World} (vs : List V) (H : Hp) (Q : VK) (E : XK) (h : spLaw K vs H Q E) : t_law K w { nx := fun _ H' => Q .non H', rt := Q } (start n_law vs) H := by
  obtain ⟨_, rfl, a, ns, rfl, hS, q⟩ := h
  unfold t_law
  walk_at "T"
  refine c_bag hS fun b ce H1 B1 _ => ?_
  walk_at "T"
  refine c_draw B1 (by decide) fun m0 H2 m1 m2 B2 _ => ?_
  walk_at "T"
  refine c_draw B2 (by decide) fun n0 H3 n1 n2 B3 _ => ?_
  walk_at "T"
  refine c_row B3 (by omega) (by omega) (by omega) (by omega) fun r0 row0 H4 B4 _ e4 l4 _ _ _ => ?_
  walk_at "s"
  with_reducible refine s_seqR (fun σ' H' => ∃ (r : Addr) (row : List Int), σ' = [some (.ref a), some (.ref b), some (.int (2 + m0)), some (.ref r), none, none, none, none, none, none, none, none] ∧ Bag H' b ce ∧ H' r = some (.lst (row.map V.int)) ∧ 0 < row.length ∧ row.length ≤ 3000) ?tail ?main
  case main =>
    intro NX k
    walk_at "T"
    refine c_draw B4 (by decide) fun c0 H5 c1 c2 B5 k5 => ?_
    walk_at "T"
    refine t_iteD (fun _ => ?_) (fun _ => ?_)
    · walk_at "T"
      rename_i p hp
      refine c_draw (B5.new hp) (by decide) fun v H6 v1 v2 B6 k6 => ?_
      have p6 : H6 p = some (.lst ([2, 3, 40, 700].map V.int)) := k6 _ _ upd_same (B5.nb hp)
      refine r_ixI (ns := [2, 3, 40, 700]) (SqL.of p6) v1 (by show v < 4; exact v2) ?_
      have hb : 2 ≤ ([2, 3, 40, 700] : List Int).getD v.toNat 0 ∧ ([2, 3, 40, 700] : List Int).getD v.toNat 0 ≤ 1000 := by
        have : v = 0 ∨ v = 1 ∨ v = 2 ∨ v = 3 := by omega
        rcases this with rfl | rfl | rfl | rfl <;> decide
      generalize ([2, 3, 40, 700] : List Int).getD v.toNat 0 = many at hb
      walk_at "T"
      refine c_row B6 hb.1 hb.2 (by decide) (by decide) fun r row H7 B7 _ e7 l7 _ _ _ => ?_
      walk_at "T"
      have l7' : row.length = 3000 := l7
      exact k _ _ ⟨r, row, rfl, B7, e7, by omega, by omega⟩
    · walk_at "T"
      exact k _ _ ⟨r0, row0, rfl, B5, k5 _ _ e4 (B4.lst e4), by omega, by omega⟩
  case tail =>
    rintro _ H5 ⟨r, row, rfl, B5, e5, hl0, hl⟩
    have hne : row ≠ [] := List.length_pos_iff.mp hl0
    have nrb := B5.lst e5
    clear e4 l4 B4
    walk_at "T"
    refine r_max (ns := row) (SqL.of e5) hl0 fun mx _ _ => ?_
    walk_at "T"
    refine r_max (ns := row) (SqL.of e5) hl0 fun mx2 _ _ => ?_
    walk_at "T"
    refine c_draw B5 (by decide) fun c0 H6 c1 c2 B6 k6 => ?_
    have e6 := k6 _ _ e5 nrb
    walk_at "T"
    rename_i p hp
    refine c_draw (B6.new hp) (by decide) fun v H7 v1 v2 B7 k7 => ?_
    have e7 := k7 _ _ (u_old e6 hp) nrb
    have p7 : H7 p = some (.lst ([mx + 1, 10 ^ Int.toNat 18, if mx2 + 1 + c0 < 10 ^ Int.toNat 18 then mx2 + 1 + c0 else 10 ^ Int.toNat 18].map V.int)) := k7 _ _ upd_same (B6.nb hp)
    refine r_ixI (ns := [mx + 1, 10 ^ Int.toNat 18, if mx2 + 1 + c0 < 10 ^ Int.toNat 18 then mx2 + 1 + c0 else 10 ^ Int.toNat 18]) (SqL.of p7) v1 (by show v < 3; exact v2) ?_
    generalize ([mx + 1, 10 ^ Int.toNat 18, if mx2 + 1 + c0 < 10 ^ Int.toNat 18 then mx2 + 1 + c0 else 10 ^ Int.toNat 18] : List Int).getD v.toNat 0 = us
    walk_at "T"
    refine c_asked B7 e7 hne (by omega) fun H8 B8 k8 => ?_
    have e8 := k8 _ _ e7 nrb
    walk_at "T"
    show if false = true then _ else _
    walk_at "T"
    rename_i pr hpr
    have nprb := B8.nb hpr
    have nprc := B8.nc hpr
    have nrp : r ≠ pr := ne_none hpr e8
    have B9 := B8.new hpr (o := .lst [.int (row.getD (Int.toNat 0) 0)])
    have e9 : upd H8 pr (.lst [.int (row.getD (Int.toNat 0) 0)]) r = some (.lst (row.map V.int)) := u_old e8 hpr
    have p9 : upd H8 pr (.lst [.int (row.getD (Int.toNat 0) 0)]) pr = some (.lst ([row.getD (Int.toNat 0) 0].map V.int)) := upd_same
    generalize upd H8 pr (.lst [.int (row.getD (Int.toNat 0) 0)]) = H9 at B9 e9 p9
    refine c_sides (SqL.of e9) (by omega) fun ts H10 s10 t10 => ?_
    walk_at "T"
    refine c_pairs (ls := leftNums row) (SqL.of (s10 _ _ e9)) (SqT.of t10) (by omega) (by have := leftNums_len row; omega) fun tp H11 s11 q11 => ?_
    obtain ⟨t1, t2, bs, f0, f1, f2, f3⟩ := q11
    have s911 := s10.trans s11
    walk_at "T"
    have pl := prow_len (LM.pairsOf row (inL (leftNums row))) us row
    have ntp : t1 ≠ pr := ne_of f1 (s911 _ _ p9) (fun z => nomatch z)
    refine for_w (w_tup (xs := (prow (LM.pairsOf row (inL (leftNums row))) us row).map V.int)) (fun i σ H' => ∃ (y6 : Option V) (pn : List Int), σ = [some (.ref a), some (.ref b), some (.int (2 + m0)), some (.ref r), some (.int us), some (.ref pr), y6, none, none, none, none, none] ∧ Bag H' b ce ∧ H' t1 = some (.tup ((prow (LM.pairsOf row (inL (leftNums row))) us row).map V.int)) ∧ H' pr = some (.lst (pn.map V.int)) ∧ pn ≠ [] ∧ pn.length ≤ i + 1)
      ⟨none, _, rfl, B9.same s911, f1, s911 _ _ p9, (fun z => nomatch z), Nat.le_refl _⟩ ?_ ?_ ?_
    · rintro i σ H' _ ⟨y6, pn, rfl, B, g1, g2, g3, g4⟩
      exact SqT.of g1
    · rintro i σ _ x H' hi ⟨y6, pn, rfl, B, g1, g2, g3, g4⟩ ⟨rfl, hx⟩
      obtain ⟨x, ex, rfl⟩ := map_int_get hx
      rw [List.length_map] at hi
      walk_at "T"
      refine r_ixL (SqL.of g2) (at_last g3) ?_
      walk_at "T"
      have no : ∃ (y6' : Option V) (pn' : List Int), ([some (V.ref a), some (.ref b), some (.int (2 + m0)), some (.ref r), some (.int us), some (.ref pr), y6, none, none, none, none, none].set 6 (some (.int x))) = [some (.ref a), some (.ref b), some (.int (2 + m0)), some (.ref r), some (.int us), some (.ref pr), y6', none, none, none, none, none] ∧ Bag H' b ce ∧ H' t1 = some (.tup ((prow (LM.pairsOf row (inL (leftNums row))) us row).map V.int)) ∧ H' pr = some (.lst (pn'.map V.int)) ∧ pn' ≠ [] ∧ pn'.length ≤ i + 1 + 1 := ⟨_, pn, rfl, B, g1, g2, g3, by omega⟩
      refine t_iteN (fun _ => ?_) (fun _ => ?_)
      · walk_at "T"
        refine t_iteD (fun _ => ?_) (fun _ => ?_)
        · walk_at "T"
          refine r_appI g2 (by omega) ?_
          walk_at "T"
          refine ⟨_, pn ++ [x], rfl, B.mut nprb nprc, u_oth ntp g1, upd_same, ?_, ?_⟩
          · intro z
            have := congrArg List.length z
            rw [List.length_append] at this
            cases this
          · rw [List.length_append, List.length_singleton]
            omega
        · walk_at "T"
          exact no
      · walk_at "T"
        exact no
    · rintro σ H12 ⟨y6, pn, rfl, B12, g1, g2, g3, g4⟩
      rw [List.length_map] at g4
      have g5 : 0 < pn.length := List.length_pos_iff.mpr g3
      clear f0 f1 f2 f3 s911 s10 s11 B9 e9 p9 g1
      with_reducible refine s_seqR (fun σ' H' => σ' = [some (.ref a), some (.ref b), some (.int (2 + m0)), some (.ref r), some (.int us), some (.ref pr), y6, none, none, none, none, none] ∧ Bag H' b ce) ?tail2 ?main2
      case main2 =>
        intro NX k
        walk_at "T"
        refine t_iteD (fun _ => ?_) (fun _ => ?_)
        · walk_at "T"
          refine r_max (ns := pn) (SqL.of g2) g5 fun mx3 _ _ => ?_
          walk_at "T"
          refine c_asked B12 g2 g3 (by omega) fun H13 B13 k13 => ?_
          walk_at "T"
          show if false = true then _ else _
          walk_at "T"
          exact k _ _ ⟨rfl, B13⟩
        · walk_at "T"
          exact k _ _ ⟨rfl, B12⟩
      case tail2 =>
        rintro _ H13 ⟨rfl, B13⟩
        clear g2 B12
        walk_at "T"
        refine c_made B13 fun ml rs H14 B14 _ e14 nml hrs => ?_
        walk_at "T"
        refine for_w (w_list (xs := rs.map V.ref)) (fun i σ H' => ∃ y7 : Option V, σ = [some (.ref a), some (.ref b), some (.int (2 + m0)), some (.ref r), some (.int us), some (.ref pr), y6, y7, none, none, none, none] ∧ Bag H' b ce ∧ Kb b H14 H')
          ⟨none, rfl, B14, Kb.refl _ _⟩ ?_ ?_ ?_
        · rintro i σ H' _ ⟨y7, rfl, B, kb⟩
          exact SqL.of (kb _ _ e14 nml)
        · rintro i σ _ x H' hi ⟨y7, rfl, B, kb⟩ ⟨rfl, hx⟩
          rw [List.getElem?_map] at hx
          cases ec : rs[i]? with
          | none => rw [ec] at hx; cases hx
          | some c =>
            rw [ec] at hx
            obtain rfl := Option.some.inj hx
            obtain ⟨cn, h1, h2, h3⟩ := hrs c (mem_of_get ec)
            have ncb := B14.lst h1
            have h4 := kb _ _ h1 ncb
            walk_at "T"
            refine r_max (ns := cn) (SqL.of h4) (List.length_pos_iff.mpr h2) fun mx4 _ _ => ?_
            walk_at "T"
            refine c_draw B (by decide) fun c0 H15 c1 c2 B15 k15 => ?_
            walk_at "T"
            refine c_asked B15 (k15 _ _ h4 ncb) h2 (by omega) fun H16 B16 k16 => ?_
            walk_at "T"
            show if false = true then _ else _
            walk_at "T"
            exact ⟨_, rfl, B16, (kb.trans k15).trans k16⟩
        · rintro σ H15 ⟨y7, rfl, B15, _⟩
          clear B14 e14 hrs B13
          walk_at "T"
          refine c_draw B15 (by decide) fun da H16 a1 a2 B16 _ => ?_
          walk_at "T"
          refine c_draw B16 (by decide) fun db H17 b1 b2 B17 _ => ?_
          walk_at "T"
          refine c_draw B17 (by decide) fun dc H18 c1 c2 B18 _ => ?_
          obtain ⟨fa, rfl⟩ := to_fin a1 a2
          obtain ⟨fb, rfl⟩ := to_fin b1 b2
          obtain ⟨fc, rfl⟩ := to_fin c1 c2
          walk_at "T"
          rename_i u1 hu1 u2 hu2
          refine c_pairs_told (row := [5 + (fb.val : Int), 10 + (fc.val : Int), (fa.val : Int), 10 + (fc.val : Int), 5 + (fb.val : Int), (fa.val : Int), 5 + (fb.val : Int)]) (ls := [(fa.val : Int), 5 + (fb.val : Int)]) (u_old upd_same hu2) (SqT.of upd_same) (Nat.le_of_ble_eq_true rfl) fun t H19 s19 p19 => ?_
          walk_at "T"
          rename_i z1 hz1 z2 hz2 z3 hz3 z4 hz4 z5 hz5
          refine c_is (eqT_prow (p19.same (((((L2.Same.new hz1).upd hz2).upd hz3).upd hz4).upd hz5)) ⟨z1, z4, [z2, z3], upd_same, ?p1, ?p2, ?p3⟩ (Nat.le_of_ble_eq_true rfl)) ?_
          case p1 =>
            rw [fix_pairs, fix_prow]
            show _ = some (HO.tup [V.int 21, V.int 20, V.int (5 + (fb.val : Int)), V.int (fa.val : Int), V.int (5 + (fb.val : Int))])
            walk_at "hp"
          case p2 =>
            show _ = some (HO.tup [V.ref z2, V.ref z3])
            walk_at "hp"
          case p3 =>
            rw [fix_pairs]
            exact .cons (atP_of (by walk_at "hp")) (.cons (atP_of (by walk_at "hp")) .nil)
          walk_at "T"
          show if false = true then _ else _
          walk_at "T"
          rename_i u3 hu3 u4 hu4
          refine c_pairs_told (row := [5 + (fb.val : Int), 10 + (fc.val : Int), (fa.val : Int)]) (ls := [(fa.val : Int), 1000]) (u_old upd_same hu4) (SqT.of upd_same) (Nat.le_of_ble_eq_true rfl) fun t' H20 s20 p20 => ?_
          walk_at "T"
          rename_i x1 hx1 x2 hx2 x3 hx3
          refine c_is (eqT_prow (p20.same (((L2.Same.new hx1).upd hx2).upd hx3)) ⟨x1, x2, [], upd_same, ?q1, ?q2, ?q3⟩ (Nat.le_of_ble_eq_true rfl)) ?_
          case q1 =>
            rw [fix_pairs2, fix_prow2]
            show _ = some (HO.tup [V.int (5 + (fb.val : Int)), V.int (10 + (fc.val : Int)), V.int (fa.val : Int)])
            walk_at "hp"
          case q2 =>
            show _ = some (HO.tup [])
            walk_at "hp"
          case q3 =>
            rw [fix_pairs2]
            exact .nil
          walk_at "T"
          show if false = true then _ else _
          walk_at "T"
          rename_i u5 hu5
          refine c_sides_told (row := [5 + (fb.val : Int), (fa.val : Int), 10 + (fc.val : Int), 5 + (fb.val : Int)]) (SqT.of upd_same) (Nat.le_of_ble_eq_true rfl) fun t3 H21 s21 p21 => ?_
          rw [fix_left] at p21
          walk_at "T"
          rename_i y1 hy1
          exact c_is (eqT_ints (ns := [(fa.val : Int), 10 + (fc.val : Int)]) 2 (u_old p21 hy1) upd_same (Nat.le_of_ble_eq_true rfl)) (q _)
open PySem PySem.Spec PyProof.Rows L2 LW LM
theorem r_is0 {K : PySem.W.Frag} {w : World} (vs : List V) (H : Hp) (Q : VK) (E : XK) (h : sp_is 0 vs H Q E) : t__law_is K w (fun _ _ _ _ => False) { nx := fun _ H' => Q .non H', rt := Q } (start n__law_is vs) H := by
  obtain ⟨_, _, rfl, ⟨n, rfl, rfl⟩, q⟩ := h
  exact r_is_int q
structure Txt (mg : Str → Option Value) : Prop where
  m_bool : mg "bool" = none
  m_enumerate : mg "enumerate" = none
  m_int : mg "int" = none
  m_isinstance : mg "isinstance" = none
  m_len : mg "len" = none
  m_list : mg "list" = none
  m_max : mg "max" = none
  m_min : mg "min" = none
  m_range : mg "range" = none
  m_set : mg "set" = none
  m_sorted : mg "sorted" = none
  m_sum : mg "sum" = none
  m_tuple : mg "tuple" = none
  m_zip : mg "zip" = none
def topS (i : Nat) : Stmt := PySem.Challenge.pw_longforms_k15_sides_of_pair_row.main.body.getD i (.Pass ⟨0, 0, 0, 0⟩)
abbrev s_left_numbers : Stmt := topS 1
theorem sc_left_numbers : FnScope n_left_numbers ["counts", "numbers"] (defScope s_left_numbers) := ⟨rfl, rfl, rfl, by decide +kernel, rfl, by decide +kernel, by decide +kernel⟩
theorem d_left_numbers {P : Program} {w : World} {K : PySem.W.Frag} {mg : Str → Option Value} {base : Heap} {f : Addr} {cdv : Value} {A : Around} {outer : List Env} {s : Shared} {H : Hp} {E : XK} (T : Txt mg)
    (hr : Room 0 (A.deeper (envOfC "left_numbers" (defScope s_left_numbers) s.heap.objs.size f cdv))) :
    PSs (cxOf CX0 P w K mg base n_left_numbers "left_numbers" (defScope s_left_numbers) f cdv A outer s H E).nox (defBody s_left_numbers) (t_left_numbers K w) :=
  (pss_cons (ps_set (i := 3) sc_left_numbers.nd rfl (Or.inr rfl) (pe_lock (pe_dc (own := [("number", 2)]) (g := (gName 2)) (tt := tYes) (tk := (tVar 2)) (tv := tDNewK) rfl sc_left_numbers.nd (pi_keys (pv 1)) (blkOk_by (own := [("number", 2)]) (N := n_left_numbers) (sc := defScope s_left_numbers) (by decide +kernel)) (fun _ _ _ _ _ => (pg_name (i := 2) sc_left_numbers.nd rfl (Or.inl rfl))) (fun _ _ _ _ _ => pts_nil) (fun _ _ _ _ _ => (pv 2)) (fun _ _ _ _ _ => pe_dnewK))))
    (pss_cons (ps_lock (ps_for PassesOwn.never rfl (pi_keys (pv 0)) (pg_tup rfl (pgs_cons (pg_name (i := 4) sc_left_numbers.nd rfl (Or.inl rfl)) (pgs_cons (pg_name (i := 5) sc_left_numbers.nd rfl (Or.inl rfl)) pgs_nil))) (pss_cons (ps_dput (hu_of hr) (pe_dget (hu_of hr) (pv 3) (pv 4) (fun _ _ => rfl)) (pv 5) (pe_op op_add (pe_dget2 (hu_of hr) (pe_dget (hu_of hr) (pv 3) (pv 4) (fun _ _ => rfl)) (pv 5) pe_int ⟨by rfl, by rfl, by rfl, by rfl⟩) (pe_dget (hu_of hr) (pv 0) (pe_tup (pa_cons (pv 4) (pa_cons (pv 5) pa_nil))) (fun _ _ => rfl))) rfl)
    (pss_one (ps_dput (hu_of hr) (pe_dget (hu_of hr) (pv 3) (pv 5) (fun _ _ => rfl)) (pv 4) (pe_op op_add (pe_dget2 (hu_of hr) (pe_dget (hu_of hr) (pv 3) (pv 5) (fun _ _ => rfl)) (pv 4) pe_int ⟨by rfl, by rfl, by rfl, by rfl⟩) (pe_dget (hu_of hr) (pv 0) (pe_tup (pa_cons (pv 4) (pa_cons (pv 5) pa_nil))) (fun _ _ => rfl))) rfl)))))
    (pss_cons (ps_set (i := 6) sc_left_numbers.nd rfl (Or.inr rfl) pe_dnewK)
    (pss_cons (ps_for PassesOwn.never rfl (pi_list (pe_callB (LS.cr_sortDI rfl) (by rfl) T.m_sorted (by decide +kernel) (pa_cons (pv 1) pa_nil))) (pg_name (i := 2) sc_left_numbers.nd rfl (Or.inr rfl)) (pss_cons (ps_set (i := 7) sc_left_numbers.nd rfl (Or.inl rfl) (pe_callB (cr_sum rfl) (by rfl) T.m_sum (by decide +kernel) (pa_cons (pe_lock (pe_lc (own := [("other", 5)]) (g := (gName 5)) (tt := (tTest (tOp rEq (tDGet2 (tVar 6) (tVar 5) (tC (.int 1))) (tC (.int 0))))) (te := (tDGet (tDGet (tVar 3) (tVar 2)) (tVar 5))) rfl sc_left_numbers.nd (pi_keys (pe_dget (hu_of hr) (pv 3) (pv 2) (fun _ _ => rfl))) (blkOk_by (own := [("other", 5)]) (N := n_left_numbers) (sc := defScope s_left_numbers) (by decide +kernel)) (fun _ _ _ _ _ => (pg_name (i := 5) sc_left_numbers.nd rfl (Or.inl rfl))) (fun _ _ _ _ _ => (pts_one (pt_cmpR op_eq (pe_dget2 (hu_of hr) (pv 6) (pv 5) pe_int ⟨by rfl, by rfl, by rfl, by rfl⟩) pe_int (nomark _)))) (fun _ _ _ _ _ => (pe_dget (hu_of hr) (pe_dget (hu_of hr) (pv 3) (pv 2) (fun _ _ => rfl)) (pv 5) (fun _ _ => rfl))))) pa_nil)))
    (pss_cons (ps_set (i := 8) sc_left_numbers.nd rfl (Or.inl rfl) (pe_callB (cr_sum rfl) (by rfl) T.m_sum (by decide +kernel) (pa_cons (pe_lock (pe_lc (own := [("other", 5)]) (g := (gName 5)) (tt := (tTest (tOp rEq (tDGet2 (tVar 6) (tVar 5) (tC (.int 0))) (tC (.int 1))))) (te := (tDGet (tDGet (tVar 3) (tVar 2)) (tVar 5))) rfl sc_left_numbers.nd (pi_keys (pe_dget (hu_of hr) (pv 3) (pv 2) (fun _ _ => rfl))) (blkOk_by (own := [("other", 5)]) (N := n_left_numbers) (sc := defScope s_left_numbers) (by decide +kernel)) (fun _ _ _ _ _ => (pg_name (i := 5) sc_left_numbers.nd rfl (Or.inl rfl))) (fun _ _ _ _ _ => (pts_one (pt_cmpR op_eq (pe_dget2 (hu_of hr) (pv 6) (pv 5) pe_int ⟨by rfl, by rfl, by rfl, by rfl⟩) pe_int (nomark _)))) (fun _ _ _ _ _ => (pe_dget (hu_of hr) (pe_dget (hu_of hr) (pv 3) (pv 2) (fun _ _ => rfl)) (pv 5) (fun _ _ => rfl))))) pa_nil)))
    (pss_one (ps_dput (hu_of hr) (pv 6) (pv 2) (pe_ifExp (pt_cmpR op_lt (pv 8) (pv 7) (nomark _)) pe_int pe_int) rfl)))))
    (pss_cons (ps_set (i := 9) sc_left_numbers.nd rfl (Or.inl rfl) (pe_callB (cr_sum rfl) (by rfl) T.m_sum (by decide +kernel) (pa_cons (pe_lock (pe_lc (own := [("pair", 12)]) (g := (gName 12)) (tt := (tTest (tOp oLt (tDGet (tVar 6) (tOp (rIxT K) (tVar 12) (tC (.int 0)))) (tDGet (tVar 6) (tOp (rIxT K) (tVar 12) (tC (.int 1))))))) (te := (tDGet (tVar 0) (tVar 12))) rfl sc_left_numbers.nd (pi_keys (pv 0)) (blkOk_by (own := [("pair", 12)]) (N := n_left_numbers) (sc := defScope s_left_numbers) (by decide +kernel)) (fun _ _ _ _ _ => (pg_name (i := 12) sc_left_numbers.nd rfl (Or.inl rfl))) (fun _ _ _ _ _ => (pts_one (pt_cmpR op_lt (pe_dget (hu_of hr) (pv 6) (pe_ix ix_tup (pv 12) pe_int (fun _ _ => rfl)) (fun _ _ => rfl)) (pe_dget (hu_of hr) (pv 6) (pe_ix ix_tup (pv 12) pe_int (fun _ _ => rfl)) (fun _ _ => rfl)) (nomark _)))) (fun _ _ _ _ _ => (pe_dget (hu_of hr) (pv 0) (pv 12) (fun _ _ => rfl))))) pa_nil)))
    (pss_cons (ps_set (i := 10) sc_left_numbers.nd rfl (Or.inl rfl) (pe_callB (cr_sum rfl) (by rfl) T.m_sum (by decide +kernel) (pa_cons (pe_lock (pe_lc (own := [("pair", 12)]) (g := (gName 12)) (tt := (tTest (tOp oGt (tDGet (tVar 6) (tOp (rIxT K) (tVar 12) (tC (.int 0)))) (tDGet (tVar 6) (tOp (rIxT K) (tVar 12) (tC (.int 1))))))) (te := (tDGet (tVar 0) (tVar 12))) rfl sc_left_numbers.nd (pi_keys (pv 0)) (blkOk_by (own := [("pair", 12)]) (N := n_left_numbers) (sc := defScope s_left_numbers) (by decide +kernel)) (fun _ _ _ _ _ => (pg_name (i := 12) sc_left_numbers.nd rfl (Or.inl rfl))) (fun _ _ _ _ _ => (pts_one (pt_cmpR op_gt (pe_dget (hu_of hr) (pv 6) (pe_ix ix_tup (pv 12) pe_int (fun _ _ => rfl)) (fun _ _ => rfl)) (pe_dget (hu_of hr) (pv 6) (pe_ix ix_tup (pv 12) pe_int (fun _ _ => rfl)) (fun _ _ => rfl)) (nomark _)))) (fun _ _ _ _ _ => (pe_dget (hu_of hr) (pv 0) (pv 12) (fun _ _ => rfl))))) pa_nil)))
    (pss_cons (ps_set (i := 11) sc_left_numbers.nd rfl (Or.inr rfl) (pe_ifExp (pt_cmpR op_gt (pv 10) (pv 9) (nomark _)) pe_int pe_int))
    (pss_one (ps_ret (pe_tupleOf (by rfl) T.m_tuple (pe_lc (own := [("number", 2)]) (g := (gName 2)) (tt := (tTest (tOp rEq (tDGet (tVar 6) (tVar 2)) (tVar 11)))) (te := (tVar 2)) rfl sc_left_numbers.nd (pi_list (pe_callB (LS.cr_sortDI rfl) (by rfl) T.m_sorted (by decide +kernel) (pa_cons (pv 6) pa_nil))) (blkOk_by (own := [("number", 2)]) (N := n_left_numbers) (sc := defScope s_left_numbers) (by decide +kernel)) (fun _ _ _ _ _ => (pg_name (i := 2) sc_left_numbers.nd rfl (Or.inl rfl))) (fun _ _ _ _ _ => (pts_one (pt_cmpR op_eq (pe_dget (hu_of hr) (pv 6) (pv 2) (fun _ _ => rfl)) (pv 11) (nomark _)))) (fun _ _ _ _ _ => (pv 2)))))))))))))
abbrev s_row_counts : Stmt := topS 3
theorem sc_row_counts : FnScope n_row_counts ["row"] (defScope s_row_counts) := ⟨rfl, rfl, rfl, by decide +kernel, rfl, by decide +kernel, by decide +kernel⟩
theorem d_row_counts {P : Program} {w : World} {K : PySem.W.Frag} {mg : Str → Option Value} {base : Heap} {f : Addr} {cdv : Value} {A : Around} {outer : List Env} {s : Shared} {H : Hp} {E : XK} (T : Txt mg)
    (hr : Room 0 (A.deeper (envOfC "row_counts" (defScope s_row_counts) s.heap.objs.size f cdv))) :
    PSs (cxOf CX0 P w K mg base n_row_counts "row_counts" (defScope s_row_counts) f cdv A outer s H E).nox (defBody s_row_counts) (t_row_counts K w) :=
  (pss_cons (ps_set (i := 1) sc_row_counts.nd rfl (Or.inl rfl) pe_dnewT)
    (pss_cons (ps_for PassesOwn.never rfl (LR.pi_zip2 true true (by rfl) T.m_zip (pa_cons (pv 0) (pa_cons (pe_slice sl_tupA (pv 0) (po_some pe_int) po_none) pa_nil))) (pg_tup rfl (pgs_cons (pg_name (i := 2) sc_row_counts.nd rfl (Or.inl rfl)) (pgs_cons (pg_name (i := 3) sc_row_counts.nd rfl (Or.inl rfl)) pgs_nil))) (pss_one (ps_dput (hu_of hr) (pv 1) (pe_tup (pa_cons (pv 2) (pa_cons (pv 3) pa_nil))) (pe_op op_add (pe_dget2 (hu_of hr) (pv 1) (pe_tup (pa_cons (pv 2) (pa_cons (pv 3) pa_nil))) pe_int ⟨by rfl, by rfl, by rfl, by rfl⟩) pe_int) rfl)))
    (pss_one (ps_ret (pe_tup (pa_cons (pv 1) (pa_cons (pe_dc (own := [("number", 4)]) (g := (gName 4)) (tt := tYes) (tk := (tVar 4)) (tv := (tC (.bl true))) rfl sc_row_counts.nd (pi_tup (pv 0)) (blkOk_by (own := [("number", 4)]) (N := n_row_counts) (sc := defScope s_row_counts) (by decide +kernel)) (fun _ _ _ _ _ => (pg_name (i := 4) sc_row_counts.nd rfl (Or.inl rfl))) (fun _ _ _ _ _ => pts_nil) (fun _ _ _ _ _ => (pv 4)) (fun _ _ _ _ _ => pe_bl)) pa_nil)))))))
abbrev s_row_pairs : Stmt := topS 4
theorem sc_row_pairs : FnScope n_row_pairs ["row", "lefts", "used"] (defScope s_row_pairs) := ⟨rfl, rfl, rfl, by decide +kernel, rfl, by decide +kernel, by decide +kernel⟩
theorem d_row_pairs {P : Program} {w : World} {K : PySem.W.Frag} {mg : Str → Option Value} {base : Heap} {f : Addr} {cdv : Value} {A : Around} {outer : List Env} {s : Shared} {H : Hp} {E : XK} (T : Txt mg)
    (hr : Room 0 (A.deeper (envOfC "row_pairs" (defScope s_row_pairs) s.heap.objs.size f cdv))) :
    PSs (cxOf CX0 P w K mg base n_row_pairs "row_pairs" (defScope s_row_pairs) f cdv A outer s H E).nox (defBody s_row_pairs) (t_row_pairs K w) :=
  (pss_cons (ps_set (i := 3) sc_row_pairs.nd rfl (Or.inl rfl) pe_dnewT)
    (pss_cons (ps_for PassesOwn.never rfl (LR.pi_zip2 true true (by rfl) T.m_zip (pa_cons (pv 0) (pa_cons (pe_slice sl_tupA (pv 0) (po_some pe_int) po_none) pa_nil))) (pg_tup rfl (pgs_cons (pg_name (i := 4) sc_row_pairs.nd rfl (Or.inl rfl)) (pgs_cons (pg_name (i := 5) sc_row_pairs.nd rfl (Or.inl rfl)) pgs_nil))) (pss_one (ps_if (PW.pt (pw_and (pt_cmpR op_in_seq (pv 4) (pv 1) (by first | exact nobehind _ (by decide) (by decide) | rfl)) (pw_and1 (pt_cmpR op_notIn_seq (pv 5) (pv 1) (by first | exact nobehind _ (by decide) (by decide) | rfl))))) (pss_one (ps_dput (hu_of hr) (pv 3) (pe_tup (pa_cons (pv 4) (pa_cons (pv 5) pa_nil))) pe_bl rfl)) pss_nil)))
    (pss_cons (ps_set (i := 6) sc_row_pairs.nd rfl (Or.inl rfl) (pe_tupleOf (by rfl) T.m_tuple (pe_callB (LS.cr_sortDP rfl) (by rfl) T.m_sorted (by decide +kernel) (pa_cons (pv 3) pa_nil))))
    (pss_cons (LDx.ps_setDcT (i := 8) (own := [("at", 7), ("pair", 10)]) (g := (gTup K 2 (gCons (gName 7) (gCons (gName 10) gNil)))) (tt := tYes) (tk := (tVar 10)) (tv := (tOp oAdd (tVar 2) (tVar 7))) (hu_of hr) rfl sc_row_pairs.nd rfl rfl (LDx.sw_trueD rfl rfl rfl (by decide +kernel)) (LR.pi_enum2 true (by rfl) T.m_enumerate (pa_cons (pv 6) pa_nil)) (blkOk_by (own := [("at", 7), ("pair", 10)]) (N := n_row_pairs) (sc := defScope s_row_pairs) (by decide +kernel)) (fun _ _ _ _ _ => (pg_tup rfl (pgs_cons (pg_name (i := 7) sc_row_pairs.nd rfl (Or.inl rfl)) (pgs_cons (pg_name (i := 10) sc_row_pairs.nd rfl (Or.inl rfl)) pgs_nil)))) (fun _ _ _ _ _ => pts_nil) (fun _ _ _ _ _ => (pv 10)) (fun _ _ _ _ _ => (pe_op op_add (pv 2) (pv 7))))
    (pss_cons (ps_set (i := 9) sc_row_pairs.nd rfl (Or.inl rfl) (pe_lst pa_nil))
    (pss_cons (ps_set (i := 7) sc_row_pairs.nd rfl (Or.inl rfl) pe_int)
    (pss_cons (ps_while PassesOwn.never (pt_cmpR op_lt (pv 7) (pe_callB call_len_seq (by rfl) T.m_len PySem.boot_len (pa_cons (pv 0) pa_nil)) (nomark _)) (pss_one (ps_if (pt_cmp (pc_din (hu_of hr) (pe_tupleOf (by rfl) T.m_tuple (pe_slice sl_tupA (pv 0) (po_some (pv 7)) (po_some (pe_op op_add (pv 7) pe_int)))) (pv 8))) (pss_cons (ps_expr (pe_bm PySem.F.plainAttrs_list PySem.F.slot_list_append PySem.F.type_list_append mt_append (pv 9) (pa_cons (pe_dget (hu_of hr) (pv 8) (pe_tupleOf (by rfl) T.m_tuple (pe_slice sl_tupA (pv 0) (po_some (pv 7)) (po_some (pe_op op_add (pv 7) pe_int)))) (fun _ _ => rfl)) pa_nil)))
    (pss_one (ps_aug (i := 7) sc_row_pairs.nd rfl (Or.inl rfl) pe_int ip_add))) (pss_cons (ps_expr (pe_bm PySem.F.plainAttrs_list PySem.F.slot_list_append PySem.F.type_list_append mt_append (pv 9) (pa_cons (pe_ix ix_tup (pv 0) (pv 7) (fun _ _ => rfl)) pa_nil)))
    (pss_one (ps_aug (i := 7) sc_row_pairs.nd rfl (Or.inl rfl) pe_int ip_add))))))
    (pss_one (ps_ret (pe_tup (pa_cons (pe_tupleOf (by rfl) T.m_tuple (pv 9)) (pa_cons (pv 6) (pa_cons (pe_op op_add (pv 2) (pe_callB call_len_seq (by rfl) T.m_len PySem.boot_len (pa_cons (pv 6) pa_nil))) pa_nil)))))))))))))
abbrev s_sides_of : Stmt := topS 6
theorem sc_sides_of : FnScope n_sides_of ["row"] (defScope s_sides_of) := ⟨rfl, rfl, rfl, by decide +kernel, rfl, by decide +kernel, by decide +kernel⟩
theorem d_sides_of {P : Program} {w : World} {K : PySem.W.Frag} {mg : Str → Option Value} {base : Heap} {f : Addr} {cdv : Value} {A : Around} {outer : List Env} {s : Shared} {H : Hp} {E : XK} (T : Txt mg) (c_left_numbers : Cl P w K mg base 1 "left_numbers" (sp_left_numbers K)) (c_row_counts : Cl P w K mg base 1 "row_counts" (sp_row_counts K))
    (hr : Room 1 (A.deeper (envOfC "sides_of" (defScope s_sides_of) s.heap.objs.size f cdv))) :
    PSs (cxOf CX0 P w K mg base n_sides_of "sides_of" (defScope s_sides_of) f cdv A outer s H E).nox (defBody s_sides_of) (t_sides_of K w) :=
  (pss_cons (ps_asg (pe_cl c_row_counts hr (by decide) (by rfl) (pa_cons (pv 0) pa_nil)) (pg_tup rfl (pgs_cons (pg_name (i := 1) sc_sides_of.nd rfl (Or.inl rfl)) (pgs_cons (pg_name (i := 2) sc_sides_of.nd rfl (Or.inl rfl)) pgs_nil))))
    (pss_one (ps_ret (pe_cl c_left_numbers hr (by decide) (by rfl) (pa_cons (pv 1) (pa_cons (pv 2) pa_nil))))))
abbrev s_pair_row : Stmt := topS 7
theorem sc_pair_row : FnScope n_pair_row ["row", "lefts", "used"] (defScope s_pair_row) := ⟨rfl, rfl, rfl, by decide +kernel, rfl, by decide +kernel, by decide +kernel⟩
theorem d_pair_row {P : Program} {w : World} {K : PySem.W.Frag} {mg : Str → Option Value} {base : Heap} {f : Addr} {cdv : Value} {A : Around} {outer : List Env} {s : Shared} {H : Hp} {E : XK} (T : Txt mg) (c_row_pairs : Cl P w K mg base 1 "row_pairs" (sp_row_pairs K))
    (hr : Room 1 (A.deeper (envOfC "pair_row" (defScope s_pair_row) s.heap.objs.size f cdv))) :
    PSs (cxOf CX0 P w K mg base n_pair_row "pair_row" (defScope s_pair_row) f cdv A outer s H E).nox (defBody s_pair_row) (t_pair_row K w) :=
  (pss_cons (ps_asg (pe_cl c_row_pairs hr (by decide) (by rfl) (pa_cons (pv 0) (pa_cons (pv 1) (pa_cons (pv 2) pa_nil)))) (pg_tup rfl (pgs_cons (pg_name (i := 3) sc_pair_row.nd rfl (Or.inl rfl)) (pgs_cons (pg_name (i := 4) sc_pair_row.nd rfl (Or.inl rfl)) (pgs_cons (pg_name (i := 5) sc_pair_row.nd rfl (Or.inl rfl)) pgs_nil)))))
    (pss_one (ps_ret (pe_tup (pa_cons (pv 3) (pa_cons (pv 4) pa_nil))))))
abbrev s__law_draw : Stmt := topS 11
theorem sc__law_draw : FnScope n__law_draw ["bag", "many"] (defScope s__law_draw) := ⟨rfl, rfl, rfl, by decide +kernel, rfl, by decide +kernel, by decide +kernel⟩
theorem d__law_draw {P : Program} {w : World} {K : PySem.W.Frag} {mg : Str → Option Value} {base : Heap} {f : Addr} {cdv : Value} {A : Around} {outer : List Env} {s : Shared} {H : Hp} {E : XK} (T : Txt mg)
    (hr : Room 0 (A.deeper (envOfC "_law_draw" (defScope s__law_draw) s.heap.objs.size f cdv))) :
    PSs (cxOf CX0 P w K mg base n__law_draw "_law_draw" (defScope s__law_draw) f cdv A outer s H E).nox (defBody s__law_draw) (t__law_draw K w) :=
  (pss_cons (ps_asg (pe_op op_add (pe_ix ix_list (pv 0) pe_int (fun _ _ => rfl)) pe_int) (pg_sub (pv 0) pe_int set_list))
    (pss_cons (ps_set (i := 2) sc__law_draw.nd rfl (Or.inl rfl) (pe_ix ix_list (pe_ix ix_list (pv 0) pe_int (fun _ _ => rfl)) (pe_op op_modN (pe_callTy call_int1 (by rfl) T.m_int (by decide +kernel) (pa_cons (pe_op op_add (pe_op op_mul (pe_ix ix_list (pv 0) pe_int (fun _ _ => rfl)) pe_int) (pe_op op_fdivN (pe_ix ix_list (pv 0) pe_int (fun _ _ => rfl)) (pe_callB call_len_seq (by rfl) T.m_len PySem.boot_len (pa_cons (pe_ix ix_list (pv 0) pe_int (fun _ _ => rfl)) pa_nil)))) pa_nil)) (pe_callB call_len_seq (by rfl) T.m_len PySem.boot_len (pa_cons (pe_ix ix_list (pv 0) pe_int (fun _ _ => rfl)) pa_nil))) (fun _ _ => rfl)))
    (pss_cons (ps_asg (pe_op op_modN (pe_callTy call_int1 (by rfl) T.m_int (by decide +kernel) (pa_cons (pe_op op_add (pe_op op_add (pe_op op_mul (pe_ix ix_list (pv 0) pe_int (fun _ _ => rfl)) pe_int) (pe_op op_mul (pv 2) pe_int)) (pe_op op_mul (pe_ix ix_list (pv 0) pe_int (fun _ _ => rfl)) pe_int)) pa_nil)) pe_int) (pg_sub (pv 0) pe_int set_list))
    (pss_one (ps_ret (pe_op op_modN (pe_callTy call_int1 (by rfl) T.m_int (by decide +kernel) (pa_cons (pe_op op_fdivN (pe_ix ix_list (pv 0) pe_int (fun _ _ => rfl)) pe_int) pa_nil)) (pv 1)))))))
abbrev s__law_bag : Stmt := topS 12
theorem sc__law_bag : FnScope n__law_bag ["script"] (defScope s__law_bag) := ⟨rfl, rfl, rfl, by decide +kernel, rfl, by decide +kernel, by decide +kernel⟩
theorem d__law_bag {P : Program} {w : World} {K : PySem.W.Frag} {mg : Str → Option Value} {base : Heap} {f : Addr} {cdv : Value} {A : Around} {outer : List Env} {s : Shared} {H : Hp} {E : XK} (T : Txt mg)
    (hr : Room 0 (A.deeper (envOfC "_law_bag" (defScope s__law_bag) s.heap.objs.size f cdv))) :
    PSs (cxOf CX0 P w K mg base n__law_bag "_law_bag" (defScope s__law_bag) f cdv A outer s H E).nox (defBody s__law_bag) (t__law_bag K w) :=
  (pss_cons (ps_set (i := 1) sc__law_bag.nd rfl (Or.inl rfl) (pe_lst (pa_cons pe_int pa_nil)))
    (pss_cons (ps_for PassesOwn.never rfl (pi_list (pe_slice sl_list (pv 0) po_none (po_some pe_int))) (pg_name (i := 2) sc__law_bag.nd rfl (Or.inl rfl)) (pss_one (ps_expr (pe_bm PySem.F.plainAttrs_list PySem.F.slot_list_append PySem.F.type_list_append mt_append (pv 1) (pa_cons (pe_op op_modN (pe_callTy call_int1 (by rfl) T.m_int (by decide +kernel) (pa_cons (pv 2) pa_nil)) pe_int) pa_nil)))))
    (pss_one (ps_ret (pe_lst (pa_cons pe_int (pa_cons (pe_op op_add pe_int (pe_op op_mul (pe_callB call_len_seq (by rfl) T.m_len PySem.boot_len (pa_cons (pv 1) pa_nil)) pe_int)) (pa_cons (pv 1) pa_nil))))))))
abbrev s__law_is : Stmt := topS 13
theorem sc__law_is : FnScope n__law_is ["told", "due"] (defScope s__law_is) := ⟨rfl, rfl, rfl, by decide +kernel, rfl, by decide +kernel, by decide +kernel⟩
theorem d__law_is {P : Program} {w : World} {K : PySem.W.Frag} {mg : Str → Option Value} {base : Heap} {f : Addr} {cdv : Value} {A : Around} {outer : List Env} {s : Shared} {H : Hp} {E : XK} (T : Txt mg) {k : Nat} {spr : Sp} (c__law_is : Cl P w K mg base k "_law_is" spr)
    (hr : Room k (A.deeper (envOfC "_law_is" (defScope s__law_is) s.heap.objs.size f cdv))) :
    PSs (cxOf CX0 P w K mg base n__law_is "_law_is" (defScope s__law_is) f cdv A outer s H E).nox (defBody s__law_is) (t__law_is K w spr) :=
  (pss_cons (ps_if (pt_val (pe_callB call_isi (by rfl) T.m_isinstance (by decide +kernel) (pa_cons (pv 1) (pa_cons (pe_bltn (v := .ty "tuple") (u := .type "tuple") (by rfl) T.m_tuple (by decide +kernel) rfl) pa_nil)))) (pss_cons (ps_if (PW.pt (pw_or (pt_not (pt_val (pe_callB call_isi (by rfl) T.m_isinstance (by decide +kernel) (pa_cons (pv 0) (pa_cons (pe_bltn (v := .ty "tuple") (u := .type "tuple") (by rfl) T.m_tuple (by decide +kernel) rfl) pa_nil))))) (pw_or1 (pt_cmpR op_ne (pe_callB call_len_seq (by rfl) T.m_len PySem.boot_len (pa_cons (pv 0) pa_nil)) (pe_callB call_len_seq (by rfl) T.m_len PySem.boot_len (pa_cons (pv 1) pa_nil)) (nomark _))))) (pss_one (ps_ret pe_bl)) pss_nil)
    (pss_cons (ps_for PassesOwn.never rfl (pi_range1 rfl T.m_range (pa_cons (pe_callB call_len_seq (by rfl) T.m_len PySem.boot_len (pa_cons (pv 1) pa_nil)) pa_nil)) (pg_name (i := 2) sc__law_is.nd rfl (Or.inl rfl)) (pss_one (ps_if (pt_not (pt_val (pe_cl c__law_is hr (Nat.le_refl _) (by rfl) (pa_cons (pe_ix ix_tup (pv 0) (pv 2) (fun _ _ => rfl)) (pa_cons (pe_ix ix_tup (pv 1) (pv 2) (fun _ _ => rfl)) pa_nil))))) (pss_one (ps_ret pe_bl)) pss_nil)))
    (pss_one (ps_ret pe_bl)))) pss_nil)
    (pss_cons (ps_if (PW.pt (pw_or (pt_val (pe_callB call_isi (by rfl) T.m_isinstance (by decide +kernel) (pa_cons (pv 0) (pa_cons (pe_bltn (v := .ty "bool") (u := .type "bool") (by rfl) T.m_bool (by decide +kernel) rfl) pa_nil)))) (pw_or1 (pt_not (pt_val (pe_callB call_isi (by rfl) T.m_isinstance (by decide +kernel) (pa_cons (pv 0) (pa_cons (pe_bltn (v := .ty "int") (u := .type "int") (by rfl) T.m_int (by decide +kernel) rfl) pa_nil)))))))) (pss_one (ps_ret pe_bl)) pss_nil)
    (pss_one (ps_ret (pe_cmpR op_eq (pv 0) (pv 1) (nomark _))))))
abbrev s__law_sides_told : Stmt := topS 14
theorem sc__law_sides_told : FnScope n__law_sides_told ["row", "named"] (defScope s__law_sides_told) := ⟨rfl, rfl, rfl, by decide +kernel, rfl, by decide +kernel, by decide +kernel⟩
theorem d__law_sides_told {P : Program} {w : World} {K : PySem.W.Frag} {mg : Str → Option Value} {base : Heap} {f : Addr} {cdv : Value} {A : Around} {outer : List Env} {s : Shared} {H : Hp} {E : XK} (T : Txt mg) (c_k_sides_of : ClK P w K mg base 2 "sides_of" (sp_sides_of K) ["row"] LD.gKw1) (c_sides_of : Cl P w K mg base 2 "sides_of" (sp_sides_of K))
    (hr : Room 2 (A.deeper (envOfC "_law_sides_told" (defScope s__law_sides_told) s.heap.objs.size f cdv))) :
    PSs (cxOf CX0 P w K mg base n__law_sides_told "_law_sides_told" (defScope s__law_sides_told) f cdv A outer s H E).nox (defBody s__law_sides_told) (t__law_sides_told K w) :=
  (pss_one (ps_try_thru0 (pss_cons (ps_if (pt_val (pv 1)) (pss_one (ps_ret (pe_clK c_k_sides_of hr (by decide) (by rfl) (pk_cons (pv 0) pk_nil)))) pss_nil)
    (pss_one (ps_ret (pe_cl c_sides_of hr (by decide) (by rfl) (pa_cons (pv 0) pa_nil)))))))
abbrev s__law_pairs_told : Stmt := topS 15
theorem sc__law_pairs_told : FnScope n__law_pairs_told ["row", "lefts", "used", "named"] (defScope s__law_pairs_told) := ⟨rfl, rfl, rfl, by decide +kernel, rfl, by decide +kernel, by decide +kernel⟩
theorem d__law_pairs_told {P : Program} {w : World} {K : PySem.W.Frag} {mg : Str → Option Value} {base : Heap} {f : Addr} {cdv : Value} {A : Around} {outer : List Env} {s : Shared} {H : Hp} {E : XK} (T : Txt mg) (c_k_pair_row : ClK P w K mg base 2 "pair_row" (sp_pair_row K) ["used", "lefts", "row"] LD.gKw321) (c_pair_row : Cl P w K mg base 2 "pair_row" (sp_pair_row K))
    (hr : Room 2 (A.deeper (envOfC "_law_pairs_told" (defScope s__law_pairs_told) s.heap.objs.size f cdv))) :
    PSs (cxOf CX0 P w K mg base n__law_pairs_told "_law_pairs_told" (defScope s__law_pairs_told) f cdv A outer s H E).nox (defBody s__law_pairs_told) (t__law_pairs_told K w) :=
  (pss_one (ps_try_thru0 (pss_cons (ps_if (pt_val (pv 3)) (pss_one (ps_ret (pe_clK c_k_pair_row hr (by decide) (by rfl) (pk_cons (pv 2) (pk_cons (pv 1) (pk_cons (pv 0) pk_nil)))))) pss_nil)
    (pss_one (ps_ret (pe_cl c_pair_row hr (by decide) (by rfl) (pa_cons (pv 0) (pa_cons (pv 1) (pa_cons (pv 2) pa_nil)))))))))
abbrev s__law_weights : Stmt := topS 16
theorem sc__law_weights : FnScope n__law_weights ["row"] (defScope s__law_weights) := ⟨rfl, rfl, rfl, by decide +kernel, rfl, by decide +kernel, by decide +kernel⟩
theorem d__law_weights {P : Program} {w : World} {K : PySem.W.Frag} {mg : Str → Option Value} {base : Heap} {f : Addr} {cdv : Value} {A : Around} {outer : List Env} {s : Shared} {H : Hp} {E : XK} (T : Txt mg)
    (hr : Room 0 (A.deeper (envOfC "_law_weights" (defScope s__law_weights) s.heap.objs.size f cdv))) :
    PSs (cxOf CX0 P w K mg base n__law_weights "_law_weights" (defScope s__law_weights) f cdv A outer s H E).nox (defBody s__law_weights) (t__law_weights K w) :=
  (pss_cons (ps_set (i := 1) sc__law_weights.nd rfl (Or.inl rfl) pe_dnewK)
    (pss_cons (ps_for PassesOwn.never rfl (pi_range1 rfl T.m_range (pa_cons (pe_callB call_len_seq (by rfl) T.m_len PySem.boot_len (pa_cons (pv 0) pa_nil)) pa_nil)) (pg_name (i := 2) sc__law_weights.nd rfl (Or.inl rfl)) (pss_one (ps_if (pt_cmp (pc_dnotin (hu_of hr) (pe_ix ix_list (pv 0) (pv 2) (fun _ _ => rfl)) (pv 1))) (pss_one (ps_dput (hu_of hr) (pv 1) (pe_ix ix_list (pv 0) (pv 2) (fun _ _ => rfl)) pe_dnewK rfl)) pss_nil)))
    (pss_cons (ps_for PassesOwn.never rfl (pi_range1 rfl T.m_range (pa_cons (pe_op op_sub (pe_callB call_len_seq (by rfl) T.m_len PySem.boot_len (pa_cons (pv 0) pa_nil)) pe_int) pa_nil)) (pg_name (i := 2) sc__law_weights.nd rfl (Or.inl rfl)) (pss_cons (ps_par (by rfl) sc__law_weights.nd rfl rfl (by decide) rfl rfl (pa_cons (pe_ix ix_list (pv 0) (pv 2) (fun _ _ => rfl)) (pa_cons (pe_ix ix_list (pv 0) (pe_op op_add (pv 2) pe_int) (fun _ _ => rfl)) pa_nil)) (by rfl))
    (pss_cons (ps_dput (hu_of hr) (pe_dget (hu_of hr) (pv 1) (pv 3) (fun _ _ => rfl)) (pv 4) (pe_op op_add (pe_dget2 (hu_of hr) (pe_dget (hu_of hr) (pv 1) (pv 3) (fun _ _ => rfl)) (pv 4) pe_int ⟨by rfl, by rfl, by rfl, by rfl⟩) pe_int) rfl)
    (pss_one (ps_dput (hu_of hr) (pe_dget (hu_of hr) (pv 1) (pv 4) (fun _ _ => rfl)) (pv 3) (pe_op op_add (pe_dget2 (hu_of hr) (pe_dget (hu_of hr) (pv 1) (pv 4) (fun _ _ => rfl)) (pv 3) pe_int ⟨by rfl, by rfl, by rfl, by rfl⟩) pe_int) rfl)))))
    (pss_one (ps_ret (pv 1))))))
abbrev s__law_sides : Stmt := topS 17
theorem sc__law_sides : FnScope n__law_sides ["row"] (defScope s__law_sides) := ⟨rfl, rfl, rfl, by decide +kernel, rfl, by decide +kernel, by decide +kernel⟩
theorem d__law_sides {P : Program} {w : World} {K : PySem.W.Frag} {mg : Str → Option Value} {base : Heap} {f : Addr} {cdv : Value} {A : Around} {outer : List Env} {s : Shared} {H : Hp} {E : XK} (T : Txt mg) (c__law_weights : Cl P w K mg base 1 "_law_weights" (sp_weights K))
    (hr : Room 1 (A.deeper (envOfC "_law_sides" (defScope s__law_sides) s.heap.objs.size f cdv))) :
    PSs (cxOf CX0 P w K mg base n__law_sides "_law_sides" (defScope s__law_sides) f cdv A outer s H E).nox (defBody s__law_sides) (t__law_sides K w) :=
  (pss_cons (ps_set (i := 1) sc__law_sides.nd rfl (Or.inl rfl) (pe_cl c__law_weights hr (by decide) (by rfl) (pa_cons (pv 0) pa_nil)))
    (pss_cons (ps_set (i := 2) sc__law_sides.nd rfl (Or.inr rfl) pe_dnewK)
    (pss_cons (ps_for PassesOwn.never rfl (pi_list (pe_callB cr_sortedI (by rfl) T.m_sorted (by decide +kernel) (pa_cons (pe_callTy (call_list_dK rfl) (by rfl) T.m_list (by decide +kernel) (pa_cons (pv 1) pa_nil)) pa_nil))) (pg_name (i := 3) sc__law_sides.nd rfl (Or.inl rfl)) (pss_cons (ps_set (i := 4) sc__law_sides.nd rfl (Or.inl rfl) (pe_lst (pa_cons pe_int (pa_cons pe_int pa_nil))))
    (pss_cons (ps_lock (ps_for PassesOwn.never rfl (pi_items (pe_dget (hu_of hr) (pv 1) (pv 3) (fun _ _ => rfl))) (pg_tup rfl (pgs_cons (pg_name (i := 5) sc__law_sides.nd rfl (Or.inl rfl)) (pgs_cons (pg_name (i := 6) sc__law_sides.nd rfl (Or.inl rfl)) pgs_nil))) (pss_one (ps_if (pt_cmp (pc_din (hu_of hr) (pv 5) (pv 2))) (pss_one (ps_asg (pe_op op_add (pe_ix ix_list (pv 4) (pe_dget (hu_of hr) (pv 2) (pv 5) (fun _ _ => rfl)) (fun _ _ => rfl)) (pv 6)) (pg_sub (pv 4) (pe_dget (hu_of hr) (pv 2) (pv 5) (fun _ _ => rfl)) set_list))) pss_nil))))
    (pss_one (ps_dput (hu_of hr) (pv 2) (pv 3) (pe_callTy call_int1 (by rfl) T.m_int (by decide +kernel) (pa_cons (pe_cmpR op_lt (pe_ix ix_list (pv 4) pe_int (fun _ _ => rfl)) (pe_ix ix_list (pv 4) pe_int (fun _ _ => rfl)) (nomark _)) pa_nil)) rfl)))))
    (pss_cons (ps_set (i := 7) sc__law_sides.nd rfl (Or.inl rfl) (pe_lst (pa_cons pe_int (pa_cons pe_int pa_nil))))
    (pss_cons (ps_for PassesOwn.never rfl (pi_range1 rfl T.m_range (pa_cons (pe_op op_sub (pe_callB call_len_seq (by rfl) T.m_len PySem.boot_len (pa_cons (pv 0) pa_nil)) pe_int) pa_nil)) (pg_name (i := 8) sc__law_sides.nd rfl (Or.inl rfl)) (pss_one (ps_if (pt_cmpR op_ne (pe_dget (hu_of hr) (pv 2) (pe_ix ix_list (pv 0) (pv 8) (fun _ _ => rfl)) (fun _ _ => rfl)) (pe_dget (hu_of hr) (pv 2) (pe_ix ix_list (pv 0) (pe_op op_add (pv 8) pe_int) (fun _ _ => rfl)) (fun _ _ => rfl)) (nomark _)) (pss_one (ps_asg (pe_op op_add (pe_ix ix_list (pv 7) (pe_dget (hu_of hr) (pv 2) (pe_ix ix_list (pv 0) (pv 8) (fun _ _ => rfl)) (fun _ _ => rfl)) (fun _ _ => rfl)) pe_int) (pg_sub (pv 7) (pe_dget (hu_of hr) (pv 2) (pe_ix ix_list (pv 0) (pv 8) (fun _ _ => rfl)) (fun _ _ => rfl)) set_list))) pss_nil)))
    (pss_cons (ps_set (i := 9) sc__law_sides.nd rfl (Or.inr rfl) (pe_callTy call_int1 (by rfl) T.m_int (by decide +kernel) (pa_cons (pe_cmpR op_gt (pe_ix ix_list (pv 7) pe_int (fun _ _ => rfl)) (pe_ix ix_list (pv 7) pe_int (fun _ _ => rfl)) (nomark _)) pa_nil)))
    (pss_one (ps_ret (pe_tupleOf (by rfl) T.m_tuple (pe_lc (own := [("number", 3)]) (g := (gName 3)) (tt := (tTest (tOp rEq (tDGet (tVar 2) (tVar 3)) (tVar 9)))) (te := (tVar 3)) rfl sc__law_sides.nd (pi_list (pe_callB cr_sortedI (by rfl) T.m_sorted (by decide +kernel) (pa_cons (pe_callTy (call_list_dK rfl) (by rfl) T.m_list (by decide +kernel) (pa_cons (pv 1) pa_nil)) pa_nil))) (blkOk_by (own := [("number", 3)]) (N := n__law_sides) (sc := defScope s__law_sides) (by decide +kernel)) (fun _ _ _ _ _ => (pg_name (i := 3) sc__law_sides.nd rfl (Or.inl rfl))) (fun _ _ _ _ _ => (pts_one (pt_cmpR op_eq (pe_dget (hu_of hr) (pv 2) (pv 3) (fun _ _ => rfl)) (pv 9) (nomark _)))) (fun _ _ _ _ _ => (pv 3))))))))))))
abbrev s__law_pairs : Stmt := topS 18
theorem sc__law_pairs : FnScope n__law_pairs ["row", "lefts", "used"] (defScope s__law_pairs) := ⟨rfl, rfl, rfl, by decide +kernel, rfl, by decide +kernel, by decide +kernel⟩
theorem d__law_pairs {P : Program} {w : World} {K : PySem.W.Frag} {mg : Str → Option Value} {base : Heap} {f : Addr} {cdv : Value} {A : Around} {outer : List Env} {s : Shared} {H : Hp} {E : XK} (T : Txt mg)
    (hr : Room 0 (A.deeper (envOfC "_law_pairs" (defScope s__law_pairs) s.heap.objs.size f cdv))) :
    PSs (cxOf CX0 P w K mg base n__law_pairs "_law_pairs" (defScope s__law_pairs) f cdv A outer s H E).nox (defBody s__law_pairs) (t__law_pairs K w) :=
  (pss_cons (ps_set (i := 3) sc__law_pairs.nd rfl (Or.inl rfl) pe_dnewK)
    (pss_cons (ps_for PassesOwn.never rfl (pi_tup (pv 1)) (pg_name (i := 4) sc__law_pairs.nd rfl (Or.inl rfl)) (pss_one (ps_dput (hu_of hr) (pv 3) (pv 4) pe_bl rfl)))
    (pss_cons (ps_set (i := 5) sc__law_pairs.nd rfl (Or.inl rfl) pe_dnewT)
    (pss_cons (ps_for PassesOwn.never rfl (pi_range1 rfl T.m_range (pa_cons (pe_op op_sub (pe_callB call_len_seq (by rfl) T.m_len PySem.boot_len (pa_cons (pv 0) pa_nil)) pe_int) pa_nil)) (pg_name (i := 6) sc__law_pairs.nd rfl (Or.inl rfl)) (pss_one (ps_if (PW.pt (pw_and (pt_cmp (pc_din (hu_of hr) (pe_ix ix_list (pv 0) (pv 6) (fun _ _ => rfl)) (pv 3))) (pw_and1 (pt_cmp (pc_dnotin (hu_of hr) (pe_ix ix_list (pv 0) (pe_op op_add (pv 6) pe_int) (fun _ _ => rfl)) (pv 3)))))) (pss_one (ps_dput (hu_of hr) (pv 5) (pe_tup (pa_cons (pe_ix ix_list (pv 0) (pv 6) (fun _ _ => rfl)) (pa_cons (pe_ix ix_list (pv 0) (pe_op op_add (pv 6) pe_int) (fun _ _ => rfl)) pa_nil))) pe_int rfl)) pss_nil)))
    (pss_cons (ps_set (i := 7) sc__law_pairs.nd rfl (Or.inl rfl) (pe_callB cr_sortedPO (by rfl) T.m_sorted (by decide +kernel) (pa_cons (pe_callTy (call_list_dT rfl) (by rfl) T.m_list (by decide +kernel) (pa_cons (pv 5) pa_nil)) pa_nil)))
    (pss_cons (ps_for PassesOwn.never rfl (pi_range1 rfl T.m_range (pa_cons (pe_callB call_len_seq (by rfl) T.m_len PySem.boot_len (pa_cons (pv 7) pa_nil)) pa_nil)) (pg_name (i := 6) sc__law_pairs.nd rfl (Or.inl rfl)) (pss_one (ps_dput (hu_of hr) (pv 5) (pe_ix ix_list (pv 7) (pv 6) (fun _ _ => rfl)) (pe_op op_add (pv 2) (pv 6)) rfl)))
    (pss_cons (ps_set (i := 8) sc__law_pairs.nd rfl (Or.inl rfl) (pe_lst pa_nil))
    (pss_cons (ps_for PassesOwn.never rfl (pi_range1 rfl T.m_range (pa_cons (pe_callB call_len_seq (by rfl) T.m_len PySem.boot_len (pa_cons (pv 0) pa_nil)) pa_nil)) (pg_name (i := 6) sc__law_pairs.nd rfl (Or.inl rfl)) (pss_cons (ps_if (PW.pt (pw_and (pt_cmpR op_gt (pv 6) pe_int (nomark _)) (pw_and1 (pt_cmp (pc_din (hu_of hr) (pe_tup (pa_cons (pe_ix ix_list (pv 0) (pe_op op_sub (pv 6) pe_int) (fun _ _ => rfl)) (pa_cons (pe_ix ix_list (pv 0) (pv 6) (fun _ _ => rfl)) pa_nil))) (pv 5)))))) (pss_one ps_continue) pss_nil)
    (pss_one (ps_if (PW.pt (pw_and (pt_cmpR op_lt (pe_op op_add (pv 6) pe_int) (pe_callB call_len_seq (by rfl) T.m_len PySem.boot_len (pa_cons (pv 0) pa_nil)) (nomark _)) (pw_and1 (pt_cmp (pc_din (hu_of hr) (pe_tup (pa_cons (pe_ix ix_list (pv 0) (pv 6) (fun _ _ => rfl)) (pa_cons (pe_ix ix_list (pv 0) (pe_op op_add (pv 6) pe_int) (fun _ _ => rfl)) pa_nil))) (pv 5)))))) (pss_one (ps_expr (pe_bm PySem.F.plainAttrs_list PySem.F.slot_list_append PySem.F.type_list_append mt_append (pv 8) (pa_cons (pe_dget (hu_of hr) (pv 5) (pe_tup (pa_cons (pe_ix ix_list (pv 0) (pv 6) (fun _ _ => rfl)) (pa_cons (pe_ix ix_list (pv 0) (pe_op op_add (pv 6) pe_int) (fun _ _ => rfl)) pa_nil))) (fun _ _ => rfl)) pa_nil)))) (pss_one (ps_expr (pe_bm PySem.F.plainAttrs_list PySem.F.slot_list_append PySem.F.type_list_append mt_append (pv 8) (pa_cons (pe_ix ix_list (pv 0) (pv 6) (fun _ _ => rfl)) pa_nil))))))))
    (pss_one (ps_ret (pe_tup (pa_cons (pe_tupleOf (by rfl) T.m_tuple (pv 8)) (pa_cons (pe_tupleOf (by rfl) T.m_tuple (pv 7)) pa_nil)))))))))))))
abbrev s__law_base : Stmt := topS 19
theorem sc__law_base : FnScope n__law_base ["bag", "many"] (defScope s__law_base) := ⟨rfl, rfl, rfl, by decide +kernel, rfl, by decide +kernel, by decide +kernel⟩
theorem d__law_base {P : Program} {w : World} {K : PySem.W.Frag} {mg : Str → Option Value} {base : Heap} {f : Addr} {cdv : Value} {A : Around} {outer : List Env} {s : Shared} {H : Hp} {E : XK} (T : Txt mg) (c__law_draw : Cl P w K mg base 1 "_law_draw" sp_draw)
    (hr : Room 1 (A.deeper (envOfC "_law_base" (defScope s__law_base) s.heap.objs.size f cdv))) :
    PSs (cxOf CX0 P w K mg base n__law_base "_law_base" (defScope s__law_base) f cdv A outer s H E).nox (defBody s__law_base) (t__law_base K w) :=
  (pss_cons (ps_set (i := 2) sc__law_base.nd rfl (Or.inl rfl) (pe_cl c__law_draw hr (by decide) (by rfl) (pa_cons (pv 0) (pa_cons pe_int pa_nil))))
    (pss_cons (ps_set (i := 3) sc__law_base.nd rfl (Or.inl rfl) (pe_cl c__law_draw hr (by decide) (by rfl) (pa_cons (pv 0) (pa_cons pe_int pa_nil))))
    (pss_cons (ps_set (i := 4) sc__law_base.nd rfl (Or.inl rfl) (pe_lst (pa_cons (pv 3) pa_nil)))
    (pss_cons (ps_for PassesOwn.never rfl (pi_range1 rfl T.m_range (pa_cons (pe_op op_sub (pv 1) pe_int) pa_nil)) (pg_name (i := 5) sc__law_base.nd rfl (Or.inl rfl)) (pss_cons (ps_set (i := 6) sc__law_base.nd rfl (Or.inl rfl) pe_int)
    (pss_cons (ps_if (pt_cmpR op_eq (pv 2) pe_int (nomark _)) (pss_one (ps_set (i := 6) sc__law_base.nd rfl (Or.inl rfl) (pe_op op_add pe_int (pe_cl c__law_draw hr (by decide) (by rfl) (pa_cons (pv 0) (pa_cons pe_int pa_nil)))))) pss_nil)
    (pss_cons (ps_if (pt_cmpR op_eq (pv 2) pe_int (nomark _)) (pss_one (ps_set (i := 6) sc__law_base.nd rfl (Or.inl rfl) (pe_op op_add pe_int (pe_op op_mul (pe_cl c__law_draw hr (by decide) (by rfl) (pa_cons (pv 0) (pa_cons (pe_op op_pow pe_int pe_int) pa_nil))) (pe_op op_pow pe_int pe_int))))) pss_nil)
    (pss_cons (ps_set (i := 3) sc__law_base.nd rfl (Or.inl rfl) (pe_op op_add (pv 3) (pv 6)))
    (pss_one (ps_expr (pe_bm PySem.F.plainAttrs_list PySem.F.slot_list_append PySem.F.type_list_append mt_append (pv 4) (pa_cons (pv 3) pa_nil)))))))))
    (pss_cons (ps_if (pt_cmpR op_eq (pe_cl c__law_draw hr (by decide) (by rfl) (pa_cons (pv 0) (pa_cons pe_int pa_nil))) pe_int (nomark _)) (pss_one (ps_asg (pe_op op_sub (pe_op op_pow pe_int pe_int) pe_int) (pg_sub (pv 4) (pe_op op_sub (pe_callB call_len_seq (by rfl) T.m_len PySem.boot_len (pa_cons (pv 4) pa_nil)) pe_int) set_list))) pss_nil)
    (pss_one (ps_ret (pv 4))))))))
abbrev s__law_row : Stmt := topS 20
theorem sc__law_row : FnScope n__law_row ["bag", "many", "length"] (defScope s__law_row) := ⟨rfl, rfl, rfl, by decide +kernel, rfl, by decide +kernel, by decide +kernel⟩
theorem d__law_row {P : Program} {w : World} {K : PySem.W.Frag} {mg : Str → Option Value} {base : Heap} {f : Addr} {cdv : Value} {A : Around} {outer : List Env} {s : Shared} {H : Hp} {E : XK} (T : Txt mg) (c__law_base : Cl P w K mg base 2 "_law_base" sp_base) (c__law_draw : Cl P w K mg base 1 "_law_draw" sp_draw)
    (hr : Room 2 (A.deeper (envOfC "_law_row" (defScope s__law_row) s.heap.objs.size f cdv))) :
    PSs (cxOf CX0 P w K mg base n__law_row "_law_row" (defScope s__law_row) f cdv A outer s H E).nox (defBody s__law_row) (t__law_row K w) :=
  (pss_cons (ps_set (i := 3) sc__law_row.nd rfl (Or.inl rfl) (pe_cl c__law_base hr (by decide) (by rfl) (pa_cons (pv 0) (pa_cons (pv 1) pa_nil))))
    (pss_cons (ps_set (i := 4) sc__law_row.nd rfl (Or.inl rfl) (pe_cl c__law_draw hr (by decide) (by rfl) (pa_cons (pv 0) (pa_cons pe_int pa_nil))))
    (pss_cons (ps_set (i := 5) sc__law_row.nd rfl (Or.inl rfl) (pe_cl c__law_draw hr (by decide) (by rfl) (pa_cons (pv 0) (pa_cons (pv 1) pa_nil))))
    (pss_cons (ps_set (i := 6) sc__law_row.nd rfl (Or.inl rfl) (pe_op op_add pe_int (pe_cl c__law_draw hr (by decide) (by rfl) (pa_cons (pv 0) (pa_cons (pe_op op_sub (pv 1) pe_int) pa_nil)))))
    (pss_cons (ps_set (i := 7) sc__law_row.nd rfl (Or.inl rfl) (pe_lst (pa_cons (pe_ix ix_list (pv 3) (pv 5) (fun _ _ => rfl)) pa_nil)))
    (pss_cons (ps_for PassesOwn.never rfl (pi_range1 rfl T.m_range (pa_cons (pe_op op_sub (pv 2) pe_int) pa_nil)) (pg_name (i := 8) sc__law_row.nd rfl (Or.inl rfl)) (pss_cons (ps_if (pt_cmpR op_eq (pv 4) pe_int (nomark _)) (pss_one (ps_set (i := 5) sc__law_row.nd rfl (Or.inl rfl) (pe_op op_modN (pe_callTy call_int1 (by rfl) T.m_int (by decide +kernel) (pa_cons (pe_op op_add (pv 5) (pv 6)) pa_nil)) (pv 1)))) (pss_one (ps_if (PW.pt (pw_and (pt_cmpR op_eq (pv 4) pe_int (nomark _)) (pw_and1 (pt_cmpR op_gt (pe_cl c__law_draw hr (by decide) (by rfl) (pa_cons (pv 0) (pa_cons pe_int pa_nil))) pe_int (nomark _))))) (pss_one (ps_set (i := 5) sc__law_row.nd rfl (Or.inl rfl) (pe_op op_modN (pe_callTy call_int1 (by rfl) T.m_int (by decide +kernel) (pa_cons (pe_op op_add (pv 5) pe_int) pa_nil)) (pv 1)))) (pss_one (ps_set (i := 5) sc__law_row.nd rfl (Or.inl rfl) (pe_op op_modN (pe_callTy call_int1 (by rfl) T.m_int (by decide +kernel) (pa_cons (pe_op op_add (pe_op op_add (pv 5) pe_int) (pe_cl c__law_draw hr (by decide) (by rfl) (pa_cons (pv 0) (pa_cons (pe_op op_sub (pv 1) pe_int) pa_nil)))) pa_nil)) (pv 1)))))))
    (pss_one (ps_expr (pe_bm PySem.F.plainAttrs_list PySem.F.slot_list_append PySem.F.type_list_append mt_append (pv 7) (pa_cons (pe_ix ix_list (pv 3) (pv 5) (fun _ _ => rfl)) pa_nil))))))
    (pss_one (ps_ret (pv 7)))))))))
abbrev s__law_lefts : Stmt := topS 21
theorem sc__law_lefts : FnScope n__law_lefts ["bag", "row", "used"] (defScope s__law_lefts) := ⟨rfl, rfl, rfl, by decide +kernel, rfl, by decide +kernel, by decide +kernel⟩
theorem d__law_lefts {P : Program} {w : World} {K : PySem.W.Frag} {mg : Str → Option Value} {base : Heap} {f : Addr} {cdv : Value} {A : Around} {outer : List Env} {s : Shared} {H : Hp} {E : XK} (T : Txt mg) (c__law_draw : Cl P w K mg base 1 "_law_draw" sp_draw)
    (hr : Room 1 (A.deeper (envOfC "_law_lefts" (defScope s__law_lefts) s.heap.objs.size f cdv))) :
    PSs (cxOf CX0 P w K mg base n__law_lefts "_law_lefts" (defScope s__law_lefts) f cdv A outer s H E).nox (defBody s__law_lefts) (t__law_lefts K w) :=
  (pss_cons (ps_set (i := 3) sc__law_lefts.nd rfl (Or.inl rfl) (pe_callB (LS.cr_sortSet rfl) (by rfl) T.m_sorted (by decide +kernel) (pa_cons (pe_callTy (LS.cr_setI rfl) (by rfl) T.m_set (by decide +kernel) (pa_cons (pv 1) pa_nil)) pa_nil)))
    (pss_cons (ps_set (i := 4) sc__law_lefts.nd rfl (Or.inl rfl) (pe_cl c__law_draw hr (by decide) (by rfl) (pa_cons (pv 0) (pa_cons pe_int pa_nil))))
    (pss_cons (ps_if (pt_cmpR op_eq (pv 4) pe_int (nomark _)) (pss_one (ps_ret (pe_tup pa_nil))) pss_nil)
    (pss_cons (ps_if (pt_cmpR op_eq (pv 4) pe_int (nomark _)) (pss_one (ps_ret (pe_tupleOf (by rfl) T.m_tuple (pv 3)))) pss_nil)
    (pss_cons (ps_setLc (i := 5) (own := [("number", 6)]) (g := (gName 6)) (tt := (tTest (tOp rEq (tCall sp_draw [] E0 (tCons (tVar 0) (tCons (tC (.int 2)) tNil))) (tC (.int 1))))) (te := (tVar 6)) rfl sc__law_lefts.nd rfl rfl (sw_true rfl rfl rfl (by decide +kernel)) (pi_list (pv 3)) (blkOk_by (own := [("number", 6)]) (N := n__law_lefts) (sc := defScope s__law_lefts) (by decide +kernel)) (fun _ _ _ _ _ => (pg_name (i := 6) sc__law_lefts.nd rfl (Or.inl rfl))) (fun _ _ _ _ _ => (pts_one (pt_cmpR op_eq (pe_cl c__law_draw hr (by decide) (by rfl) (pa_cons (pv 0) (pa_cons pe_int pa_nil))) pe_int (nomark _)))) (fun _ _ _ _ _ => (pv 6)))
    (pss_cons (ps_if (pt_cmpR op_gt (pv 4) pe_int (nomark _)) (pss_one (ps_set (i := 5) sc__law_lefts.nd rfl (Or.inl rfl) (pe_op op_cat (pv 5) (pe_lst (pa_cons (pe_cl c__law_draw hr (by decide) (by rfl) (pa_cons (pv 0) (pa_cons pe_int pa_nil))) (pa_cons (pe_op op_sub (pv 2) pe_int) (pa_cons (pe_op op_pow pe_int pe_int) pa_nil))))))) pss_nil)
    (pss_cons (ps_if (pt_cmpR op_gt (pv 4) pe_int (nomark _)) (pss_one (ps_set (i := 5) sc__law_lefts.nd rfl (Or.inl rfl) (pe_op op_cat (pv 5) (pe_lst (pa_cons (pe_op op_mul (pe_cl c__law_draw hr (by decide) (by rfl) (pa_cons (pv 0) (pa_cons (pe_op op_pow pe_int pe_int) pa_nil))) (pe_op op_pow pe_int pe_int)) (pa_cons (pe_callB (call_max2 rfl) (by rfl) T.m_max (by decide +kernel) (pa_cons pe_int (pa_cons (pe_op op_sub (pe_ix ix_list (pv 3) pe_int (fun _ _ => rfl)) pe_int) pa_nil))) pa_nil)))))) pss_nil)
    (pss_one (ps_ret (pe_tupleOf (by rfl) T.m_tuple (pe_callB (LS.cr_sortSet rfl) (by rfl) T.m_sorted (by decide +kernel) (pa_cons (pe_callTy (LS.cr_setI rfl) (by rfl) T.m_set (by decide +kernel) (pa_cons (pv 5) pa_nil)) pa_nil))))))))))))
abbrev s__law_asked : Stmt := topS 22
theorem sc__law_asked : FnScope n__law_asked ["bag", "row", "used"] (defScope s__law_asked) := ⟨rfl, rfl, rfl, by decide +kernel, rfl, by decide +kernel, by decide +kernel⟩
theorem d__law_asked {P : Program} {w : World} {K : PySem.W.Frag} {mg : Str → Option Value} {base : Heap} {f : Addr} {cdv : Value} {A : Around} {outer : List Env} {s : Shared} {H : Hp} {E : XK} (T : Txt mg) (c__law_draw : Cl P w K mg base 1 "_law_draw" sp_draw) (c__law_is : Cl P w K mg base 5 "_law_is" (sp_is 3)) (c__law_lefts : Cl P w K mg base 2 "_law_lefts" (sp_lefts K)) (c__law_pairs : Cl P w K mg base 1 "_law_pairs" (sp_pairs K)) (c__law_pairs_told : Cl P w K mg base 3 "_law_pairs_told" (sp_pairs_told K)) (c__law_sides : Cl P w K mg base 2 "_law_sides" (sp_sides K)) (c__law_sides_told : Cl P w K mg base 3 "_law_sides_told" (sp_sides_told K))
    (hr : Room 5 (A.deeper (envOfC "_law_asked" (defScope s__law_asked) s.heap.objs.size f cdv))) :
    PSs (cxOf CX0 P w K mg base n__law_asked "_law_asked" (defScope s__law_asked) f cdv A outer s H E).nox (defBody s__law_asked) (t__law_asked K w) :=
  (pss_cons (ps_set (i := 3) sc__law_asked.nd rfl (Or.inl rfl) (pe_cmpR op_eq (pe_cl c__law_draw hr (by decide) (by rfl) (pa_cons (pv 0) (pa_cons pe_int pa_nil))) pe_int (nomark _)))
    (pss_cons (ps_set (i := 4) sc__law_asked.nd rfl (Or.inl rfl) (pe_cl c__law_sides hr (by decide) (by rfl) (pa_cons (pv 1) pa_nil)))
    (pss_cons (ps_if (pt_not (pt_val (pe_cl c__law_is hr (by decide) (by rfl) (pa_cons (pe_cl c__law_sides_told hr (by decide) (by rfl) (pa_cons (pe_tupleOf (by rfl) T.m_tuple (pv 1)) (pa_cons (pv 3) pa_nil))) (pa_cons (pv 4) pa_nil))))) (pss_one (ps_ret pe_bl)) pss_nil)
    (pss_cons (ps_set (i := 5) sc__law_asked.nd rfl (Or.inl rfl) (pe_cl c__law_pairs hr (by decide) (by rfl) (pa_cons (pv 1) (pa_cons (pv 4) (pa_cons (pv 2) pa_nil)))))
    (pss_cons (ps_if (pt_not (pt_val (pe_cl c__law_is hr (by decide) (by rfl) (pa_cons (pe_cl c__law_pairs_told hr (by decide) (by rfl) (pa_cons (pe_tupleOf (by rfl) T.m_tuple (pv 1)) (pa_cons (pv 4) (pa_cons (pv 2) (pa_cons (pe_not (pv 3)) pa_nil))))) (pa_cons (pv 5) pa_nil))))) (pss_one (ps_ret pe_bl)) pss_nil)
    (pss_cons (ps_set (i := 6) sc__law_asked.nd rfl (Or.inl rfl) (pe_cl c__law_lefts hr (by decide) (by rfl) (pa_cons (pv 0) (pa_cons (pv 1) (pa_cons (pv 2) pa_nil)))))
    (pss_one (ps_ret (pe_cl c__law_is hr (by decide) (by rfl) (pa_cons (pe_cl c__law_pairs_told hr (by decide) (by rfl) (pa_cons (pe_tupleOf (by rfl) T.m_tuple (pv 1)) (pa_cons (pv 6) (pa_cons (pv 2) (pa_cons (pv 3) pa_nil))))) (pa_cons (pe_cl c__law_pairs hr (by decide) (by rfl) (pa_cons (pv 1) (pa_cons (pv 6) (pa_cons (pv 2) pa_nil)))) pa_nil)))))))))))
abbrev s__law_made : Stmt := topS 23
theorem sc__law_made : FnScope n__law_made ["bag"] (defScope s__law_made) := ⟨rfl, rfl, rfl, by decide +kernel, rfl, by decide +kernel, by decide +kernel⟩
theorem d__law_made {P : Program} {w : World} {K : PySem.W.Frag} {mg : Str → Option Value} {base : Heap} {f : Addr} {cdv : Value} {A : Around} {outer : List Env} {s : Shared} {H : Hp} {E : XK} (T : Txt mg) (c__law_draw : Cl P w K mg base 1 "_law_draw" sp_draw)
    (hr : Room 1 (A.deeper (envOfC "_law_made" (defScope s__law_made) s.heap.objs.size f cdv))) :
    PSs (cxOf CX0 P w K mg base n__law_made "_law_made" (defScope s__law_made) f cdv A outer s H E).nox (defBody s__law_made) (t__law_made K w) :=
  (pss_cons (ps_set (i := 1) sc__law_made.nd rfl (Or.inl rfl) (pe_cl c__law_draw hr (by decide) (by rfl) (pa_cons (pv 0) (pa_cons pe_int pa_nil))))
    (pss_cons (ps_set (i := 2) sc__law_made.nd rfl (Or.inl rfl) (pe_op op_add (pe_op op_add (pv 1) pe_int) (pe_cl c__law_draw hr (by decide) (by rfl) (pa_cons (pv 0) (pa_cons pe_int pa_nil)))))
    (pss_cons (ps_set (i := 3) sc__law_made.nd rfl (Or.inl rfl) (pe_op op_add (pe_op op_add (pv 2) pe_int) (pe_cl c__law_draw hr (by decide) (by rfl) (pa_cons (pv 0) (pa_cons pe_int pa_nil)))))
    (pss_cons (ps_set (i := 4) sc__law_made.nd rfl (Or.inl rfl) (pe_lst (pa_cons (pe_lst (pa_cons (pv 1) (pa_cons (pv 2) pa_nil))) (pa_cons (pe_lst (pa_cons (pv 2) (pa_cons (pv 1) pa_nil))) (pa_cons (pe_lst (pa_cons (pv 2) (pa_cons (pv 1) (pa_cons (pv 3) (pa_cons (pv 2) pa_nil))))) (pa_cons (pe_lst (pa_cons (pv 3) (pa_cons (pv 2) (pa_cons (pv 1) (pa_cons (pv 2) (pa_cons (pv 3) (pa_cons (pv 1) (pa_cons (pv 2) pa_nil)))))))) pa_nil))))))
    (pss_cons (ps_expr (pe_bm PySem.F.plainAttrs_list PySem.F.slot_list_append PySem.F.type_list_append mt_append (pv 4) (pa_cons (pe_lst (pa_cons (pv 3) (pa_cons (pv 1) (pa_cons (pv 2) (pa_cons (pv 3) (pa_cons (pv 1) (pa_cons (pv 2) (pa_cons (pv 3) (pa_cons (pv 1) (pa_cons (pv 3) pa_nil)))))))))) pa_nil)))
    (pss_cons (ps_expr (pe_bm PySem.F.plainAttrs_list PySem.F.slot_list_append PySem.F.type_list_append mt_append (pv 4) (pa_cons (pe_lst (pa_cons (pv 1) (pa_cons (pv 3) (pa_cons (pv 2) (pa_cons (pv 3) (pa_cons (pv 1) (pa_cons (pv 3) (pa_cons (pv 2) pa_nil)))))))) pa_nil)))
    (pss_one (ps_ret (pv 4)))))))))
abbrev s_law : Stmt := topS 24
theorem sc_law : FnScope n_law ["script"] (defScope s_law) := ⟨rfl, rfl, rfl, by decide +kernel, rfl, by decide +kernel, by decide +kernel⟩
theorem d_law {P : Program} {w : World} {K : PySem.W.Frag} {mg : Str → Option Value} {base : Heap} {f : Addr} {cdv : Value} {A : Around} {outer : List Env} {s : Shared} {H : Hp} {E : XK} (T : Txt mg) (c__law_asked : Cl P w K mg base 6 "_law_asked" (sp_asked K)) (c__law_bag : Cl P w K mg base 1 "_law_bag" (sp_bag K)) (c__law_draw : Cl P w K mg base 1 "_law_draw" sp_draw) (c__law_is : Cl P w K mg base 5 "_law_is" (sp_is 3)) (c__law_made : Cl P w K mg base 2 "_law_made" sp_made) (c__law_pairs : Cl P w K mg base 1 "_law_pairs" (sp_pairs K)) (c__law_pairs_told : Cl P w K mg base 3 "_law_pairs_told" (sp_pairs_told K)) (c__law_row : Cl P w K mg base 3 "_law_row" sp_row) (c__law_sides : Cl P w K mg base 2 "_law_sides" (sp_sides K)) (c__law_sides_told : Cl P w K mg base 3 "_law_sides_told" (sp_sides_told K))
    (hr : Room 6 (A.deeper (envOfC "law" (defScope s_law) s.heap.objs.size f cdv))) :
    PSs (cxOf CX0 P w K mg base n_law "law" (defScope s_law) f cdv A outer s H E).nox (defBody s_law) (t_law K w) :=
  (pss_cons (ps_set (i := 1) sc_law.nd rfl (Or.inl rfl) (pe_cl c__law_bag hr (by decide) (by rfl) (pa_cons (pv 0) pa_nil)))
    (pss_cons (ps_set (i := 2) sc_law.nd rfl (Or.inl rfl) (pe_op op_add pe_int (pe_cl c__law_draw hr (by decide) (by rfl) (pa_cons (pv 1) (pa_cons pe_int pa_nil)))))
    (pss_cons (ps_set (i := 3) sc_law.nd rfl (Or.inl rfl) (pe_cl c__law_row hr (by decide) (by rfl) (pa_cons (pv 1) (pa_cons (pv 2) (pa_cons (pe_op op_add pe_int (pe_cl c__law_draw hr (by decide) (by rfl) (pa_cons (pv 1) (pa_cons pe_int pa_nil)))) pa_nil)))))
    (pss_cons (ps_if (pt_cmpR op_eq (pe_cl c__law_draw hr (by decide) (by rfl) (pa_cons (pv 1) (pa_cons pe_int pa_nil))) pe_int (nomark _)) (pss_one (ps_set (i := 3) sc_law.nd rfl (Or.inl rfl) (pe_cl c__law_row hr (by decide) (by rfl) (pa_cons (pv 1) (pa_cons (pe_ix ix_list (pe_lst (pa_cons pe_int (pa_cons pe_int (pa_cons pe_int (pa_cons pe_int pa_nil))))) (pe_cl c__law_draw hr (by decide) (by rfl) (pa_cons (pv 1) (pa_cons pe_int pa_nil))) (fun _ _ => rfl)) (pa_cons pe_int pa_nil)))))) pss_nil)
    (pss_cons (ps_set (i := 4) sc_law.nd rfl (Or.inl rfl) (pe_ix ix_list (pe_lst (pa_cons (pe_op op_add (pe_callB (cr_max rfl) (by rfl) T.m_max (by decide +kernel) (pa_cons (pv 3) pa_nil)) pe_int) (pa_cons (pe_op op_pow pe_int pe_int) (pa_cons (pe_callB (call_min2 rfl) (by rfl) T.m_min (by decide +kernel) (pa_cons (pe_op op_pow pe_int pe_int) (pa_cons (pe_op op_add (pe_op op_add (pe_callB (cr_max rfl) (by rfl) T.m_max (by decide +kernel) (pa_cons (pv 3) pa_nil)) pe_int) (pe_cl c__law_draw hr (by decide) (by rfl) (pa_cons (pv 1) (pa_cons pe_int pa_nil)))) pa_nil))) pa_nil)))) (pe_cl c__law_draw hr (by decide) (by rfl) (pa_cons (pv 1) (pa_cons pe_int pa_nil))) (fun _ _ => rfl)))
    (pss_cons (ps_if (pt_not (pt_val (pe_cl c__law_asked hr (by decide) (by rfl) (pa_cons (pv 1) (pa_cons (pv 3) (pa_cons (pv 4) pa_nil)))))) (pss_one (ps_ret pe_bl)) pss_nil)
    (pss_cons (ps_set (i := 5) sc_law.nd rfl (Or.inl rfl) (pe_lst (pa_cons (pe_ix ix_list (pv 3) pe_int (fun _ _ => rfl)) pa_nil)))
    (pss_cons (ps_for PassesOwn.never rfl (pi_tup (pe_ix ix_tup (pe_cl c__law_pairs hr (by decide) (by rfl) (pa_cons (pv 3) (pa_cons (pe_cl c__law_sides hr (by decide) (by rfl) (pa_cons (pv 3) pa_nil)) (pa_cons (pv 4) pa_nil)))) pe_int (fun _ _ => rfl))) (pg_name (i := 6) sc_law.nd rfl (Or.inl rfl)) (pss_one (ps_if (PW.pt (pw_and (pt_cmpR op_ne (pv 6) (pe_ix ix_list (pv 5) (pe_un un_neg pe_int) (fun _ _ => rfl)) (nomark _)) (pw_and1 (pt_cmpR op_lt (pv 6) (pe_op op_pow pe_int pe_int) (nomark _))))) (pss_one (ps_expr (pe_bm PySem.F.plainAttrs_list PySem.F.slot_list_append PySem.F.type_list_append mt_append (pv 5) (pa_cons (pv 6) pa_nil)))) pss_nil)))
    (pss_cons (ps_if (PW.pt (pw_and (pt_cmpR op_gt (pe_callB call_len_seq (by rfl) T.m_len PySem.boot_len (pa_cons (pv 5) pa_nil)) pe_int (nomark _)) (pw_and1 (pt_not (pt_val (pe_cl c__law_asked hr (by decide) (by rfl) (pa_cons (pv 1) (pa_cons (pv 5) (pa_cons (pe_op op_add (pe_callB (cr_max rfl) (by rfl) T.m_max (by decide +kernel) (pa_cons (pv 5) pa_nil)) pe_int) pa_nil))))))))) (pss_one (ps_ret pe_bl)) pss_nil)
    (pss_cons (ps_for PassesOwn.never rfl (pi_list (pe_cl c__law_made hr (by decide) (by rfl) (pa_cons (pv 1) pa_nil))) (pg_name (i := 7) sc_law.nd rfl (Or.inl rfl)) (pss_one (ps_if (pt_not (pt_val (pe_cl c__law_asked hr (by decide) (by rfl) (pa_cons (pv 1) (pa_cons (pv 7) (pa_cons (pe_op op_add (pe_op op_add (pe_callB (cr_max rfl) (by rfl) T.m_max (by decide +kernel) (pa_cons (pv 7) pa_nil)) pe_int) (pe_cl c__law_draw hr (by decide) (by rfl) (pa_cons (pv 1) (pa_cons pe_int pa_nil)))) pa_nil)))))) (pss_one (ps_ret pe_bl)) pss_nil)))
    (pss_cons (ps_par3 (by rfl) sc_law.nd rfl rfl rfl (by decide) (by decide) (by decide) rfl rfl rfl (pa_cons (pe_cl c__law_draw hr (by decide) (by rfl) (pa_cons (pv 1) (pa_cons pe_int pa_nil))) (pa_cons (pe_op op_add pe_int (pe_cl c__law_draw hr (by decide) (by rfl) (pa_cons (pv 1) (pa_cons pe_int pa_nil)))) (pa_cons (pe_op op_add pe_int (pe_cl c__law_draw hr (by decide) (by rfl) (pa_cons (pv 1) (pa_cons pe_int pa_nil)))) pa_nil))) (by rfl))
    (pss_cons (ps_set (i := 11) sc_law.nd rfl (Or.inl rfl) (pe_cl c__law_pairs_told hr (by decide) (by rfl) (pa_cons (pe_tup (pa_cons (pv 9) (pa_cons (pv 10) (pa_cons (pv 8) (pa_cons (pv 10) (pa_cons (pv 9) (pa_cons (pv 8) (pa_cons (pv 9) pa_nil)))))))) (pa_cons (pe_tup (pa_cons (pv 8) (pa_cons (pv 9) pa_nil))) (pa_cons pe_int (pa_cons pe_bl pa_nil))))))
    (pss_cons (ps_if (pt_not (pt_val (pe_cl c__law_is hr (by decide) (by rfl) (pa_cons (pv 11) (pa_cons (pe_tup (pa_cons (pe_tup (pa_cons pe_int (pa_cons pe_int (pa_cons (pv 9) (pa_cons (pv 8) (pa_cons (pv 9) pa_nil)))))) (pa_cons (pe_tup (pa_cons (pe_tup (pa_cons (pv 8) (pa_cons (pv 10) pa_nil))) (pa_cons (pe_tup (pa_cons (pv 9) (pa_cons (pv 10) pa_nil))) pa_nil))) pa_nil))) pa_nil))))) (pss_one (ps_ret pe_bl)) pss_nil)
    (pss_cons (ps_if (pt_not (pt_val (pe_cl c__law_is hr (by decide) (by rfl) (pa_cons (pe_cl c__law_pairs_told hr (by decide) (by rfl) (pa_cons (pe_tup (pa_cons (pv 9) (pa_cons (pv 10) (pa_cons (pv 8) pa_nil)))) (pa_cons (pe_tup (pa_cons (pv 8) (pa_cons pe_int pa_nil))) (pa_cons pe_int (pa_cons pe_bl pa_nil))))) (pa_cons (pe_tup (pa_cons (pe_tup (pa_cons (pv 9) (pa_cons (pv 10) (pa_cons (pv 8) pa_nil)))) (pa_cons (pe_tup pa_nil) pa_nil))) pa_nil))))) (pss_one (ps_ret pe_bl)) pss_nil)
    (pss_one (ps_ret (pe_cl c__law_is hr (by decide) (by rfl) (pa_cons (pe_cl c__law_sides_told hr (by decide) (by rfl) (pa_cons (pe_tup (pa_cons (pv 9) (pa_cons (pv 8) (pa_cons (pv 10) (pa_cons (pv 9) pa_nil))))) (pa_cons pe_bl pa_nil))) (pa_cons (pe_tup (pa_cons (pv 8) (pa_cons (pv 10) pa_nil))) pa_nil)))))))))))))))))))
theorem e_left_numbers {P : Program} {w : World} {K : PySem.W.Frag} {mg : Str → Option Value} {base : Heap} (T : Txt mg) (D : Df K mg "left_numbers" s_left_numbers) : Cl P w K mg base 1 "left_numbers" (sp_left_numbers K) :=
  D.cl sc_left_numbers (fun _ _ _ _ _ _ us hl => match us, hl with | [_, _], _ => rfl) len2 (fun f cdv A outer s H vs Q E hr h => ⟨_, d_left_numbers T  hr, r_left_numbers vs H Q E h⟩)
theorem e_row_counts {P : Program} {w : World} {K : PySem.W.Frag} {mg : Str → Option Value} {base : Heap} (T : Txt mg) (D : Df K mg "row_counts" s_row_counts) : Cl P w K mg base 1 "row_counts" (sp_row_counts K) :=
  D.cl sc_row_counts (fun _ _ _ _ _ _ us hl => match us, hl with | [_], _ => rfl) len1 (fun f cdv A outer s H vs Q E hr h => ⟨_, d_row_counts T  hr, r_row_counts vs H Q E h⟩)
theorem e_row_pairs {P : Program} {w : World} {K : PySem.W.Frag} {mg : Str → Option Value} {base : Heap} (T : Txt mg) (D : Df K mg "row_pairs" s_row_pairs) : Cl P w K mg base 1 "row_pairs" (sp_row_pairs K) :=
  D.cl sc_row_pairs (fun _ _ _ _ _ _ us hl => match us, hl with | [_, _, _], _ => rfl) len3 (fun f cdv A outer s H vs Q E hr h => ⟨_, d_row_pairs T  hr, r_row_pairs vs H Q E h⟩)
theorem e__law_draw {P : Program} {w : World} {K : PySem.W.Frag} {mg : Str → Option Value} {base : Heap} (T : Txt mg) (D : Df K mg "_law_draw" s__law_draw) : Cl P w K mg base 1 "_law_draw" sp_draw :=
  D.cl sc__law_draw (fun _ _ _ _ _ _ us hl => match us, hl with | [_, _], _ => rfl) len2 (fun f cdv A outer s H vs Q E hr h => ⟨_, d__law_draw T  hr, r_draw vs H Q E h⟩)
theorem e__law_bag {P : Program} {w : World} {K : PySem.W.Frag} {mg : Str → Option Value} {base : Heap} (T : Txt mg) (D : Df K mg "_law_bag" s__law_bag) : Cl P w K mg base 1 "_law_bag" (sp_bag K) :=
  D.cl sc__law_bag (fun _ _ _ _ _ _ us hl => match us, hl with | [_], _ => rfl) len1 (fun f cdv A outer s H vs Q E hr h => ⟨_, d__law_bag T  hr, r_bag vs H Q E h⟩)
theorem e__law_weights {P : Program} {w : World} {K : PySem.W.Frag} {mg : Str → Option Value} {base : Heap} (T : Txt mg) (D : Df K mg "_law_weights" s__law_weights) : Cl P w K mg base 1 "_law_weights" (sp_weights K) :=
  D.cl sc__law_weights (fun _ _ _ _ _ _ us hl => match us, hl with | [_], _ => rfl) len1 (fun f cdv A outer s H vs Q E hr h => ⟨_, d__law_weights T  hr, r_weights vs H Q E h⟩)
theorem e__law_pairs {P : Program} {w : World} {K : PySem.W.Frag} {mg : Str → Option Value} {base : Heap} (T : Txt mg) (D : Df K mg "_law_pairs" s__law_pairs) : Cl P w K mg base 1 "_law_pairs" (sp_pairs K) :=
  D.cl sc__law_pairs (fun _ _ _ _ _ _ us hl => match us, hl with | [_, _, _], _ => rfl) len3 (fun f cdv A outer s H vs Q E hr h => ⟨_, d__law_pairs T  hr, r_pairs vs H Q E h⟩)
theorem e_sides_of {P : Program} {w : World} {K : PySem.W.Frag} {mg : Str → Option Value} {base : Heap} (T : Txt mg) (D : Df K mg "sides_of" s_sides_of) (c_left_numbers : Cl P w K mg base 1 "left_numbers" (sp_left_numbers K)) (c_row_counts : Cl P w K mg base 1 "row_counts" (sp_row_counts K)) : Cl P w K mg base 2 "sides_of" (sp_sides_of K) :=
  D.cl sc_sides_of (fun _ _ _ _ _ _ us hl => match us, hl with | [_], _ => rfl) len1 (fun f cdv A outer s H vs Q E hr h => ⟨_, d_sides_of T c_left_numbers c_row_counts hr, r_sides_of vs H Q E h⟩)
theorem ek_sides_of {P : Program} {w : World} {K : PySem.W.Frag} {mg : Str → Option Value} {base : Heap} (T : Txt mg) (D : Df K mg "sides_of" s_sides_of) (c_left_numbers : Cl P w K mg base 1 "left_numbers" (sp_left_numbers K)) (c_row_counts : Cl P w K mg base 1 "row_counts" (sp_row_counts K)) : ClK P w K mg base 2 "sides_of" (sp_sides_of K) ["row"] LD.gKw1 :=
  D.clK (g := LD.gKw1) sc_sides_of (fun _ _ _ _ _ _ us ws hl => match us, ws, hl with | [], [_], _ => rfl) LD.gKw1_rel len1 (fun f cdv A outer s H vs Q E hr h => ⟨_, d_sides_of T c_left_numbers c_row_counts hr, r_sides_of vs H Q E h⟩)
theorem e_pair_row {P : Program} {w : World} {K : PySem.W.Frag} {mg : Str → Option Value} {base : Heap} (T : Txt mg) (D : Df K mg "pair_row" s_pair_row) (c_row_pairs : Cl P w K mg base 1 "row_pairs" (sp_row_pairs K)) : Cl P w K mg base 2 "pair_row" (sp_pair_row K) :=
  D.cl sc_pair_row (fun _ _ _ _ _ _ us hl => match us, hl with | [_, _, _], _ => rfl) len3 (fun f cdv A outer s H vs Q E hr h => ⟨_, d_pair_row T c_row_pairs hr, r_pair_row vs H Q E h⟩)
theorem ek_pair_row {P : Program} {w : World} {K : PySem.W.Frag} {mg : Str → Option Value} {base : Heap} (T : Txt mg) (D : Df K mg "pair_row" s_pair_row) (c_row_pairs : Cl P w K mg base 1 "row_pairs" (sp_row_pairs K)) : ClK P w K mg base 2 "pair_row" (sp_pair_row K) ["used", "lefts", "row"] LD.gKw321 :=
  D.clK (g := LD.gKw321) sc_pair_row (fun _ _ _ _ _ _ us ws hl => match us, ws, hl with | [], [_, _, _], _ => rfl) LD.gKw321_rel len3 (fun f cdv A outer s H vs Q E hr h => ⟨_, d_pair_row T c_row_pairs hr, r_pair_row vs H Q E h⟩)
theorem e__law_sides {P : Program} {w : World} {K : PySem.W.Frag} {mg : Str → Option Value} {base : Heap} (T : Txt mg) (D : Df K mg "_law_sides" s__law_sides) (c__law_weights : Cl P w K mg base 1 "_law_weights" (sp_weights K)) : Cl P w K mg base 2 "_law_sides" (sp_sides K) :=
  D.cl sc__law_sides (fun _ _ _ _ _ _ us hl => match us, hl with | [_], _ => rfl) len1 (fun f cdv A outer s H vs Q E hr h => ⟨_, d__law_sides T c__law_weights hr, r_sides vs H Q E h⟩)
theorem e__law_base {P : Program} {w : World} {K : PySem.W.Frag} {mg : Str → Option Value} {base : Heap} (T : Txt mg) (D : Df K mg "_law_base" s__law_base) (c__law_draw : Cl P w K mg base 1 "_law_draw" sp_draw) : Cl P w K mg base 2 "_law_base" sp_base :=
  D.cl sc__law_base (fun _ _ _ _ _ _ us hl => match us, hl with | [_, _], _ => rfl) len2 (fun f cdv A outer s H vs Q E hr h => ⟨_, d__law_base T c__law_draw hr, r_base vs H Q E h⟩)
theorem e__law_lefts {P : Program} {w : World} {K : PySem.W.Frag} {mg : Str → Option Value} {base : Heap} (T : Txt mg) (D : Df K mg "_law_lefts" s__law_lefts) (c__law_draw : Cl P w K mg base 1 "_law_draw" sp_draw) : Cl P w K mg base 2 "_law_lefts" (sp_lefts K) :=
  D.cl sc__law_lefts (fun _ _ _ _ _ _ us hl => match us, hl with | [_, _, _], _ => rfl) len3 (fun f cdv A outer s H vs Q E hr h => ⟨_, d__law_lefts T c__law_draw hr, r_lefts vs H Q E h⟩)
theorem e__law_made {P : Program} {w : World} {K : PySem.W.Frag} {mg : Str → Option Value} {base : Heap} (T : Txt mg) (D : Df K mg "_law_made" s__law_made) (c__law_draw : Cl P w K mg base 1 "_law_draw" sp_draw) : Cl P w K mg base 2 "_law_made" sp_made :=
  D.cl sc__law_made (fun _ _ _ _ _ _ us hl => match us, hl with | [_], _ => rfl) len1 (fun f cdv A outer s H vs Q E hr h => ⟨_, d__law_made T c__law_draw hr, r_made vs H Q E h⟩)
theorem e__law_sides_told {P : Program} {w : World} {K : PySem.W.Frag} {mg : Str → Option Value} {base : Heap} (T : Txt mg) (D : Df K mg "_law_sides_told" s__law_sides_told) (c_k_sides_of : ClK P w K mg base 2 "sides_of" (sp_sides_of K) ["row"] LD.gKw1) (c_sides_of : Cl P w K mg base 2 "sides_of" (sp_sides_of K)) : Cl P w K mg base 3 "_law_sides_told" (sp_sides_told K) :=
  D.cl sc__law_sides_told (fun _ _ _ _ _ _ us hl => match us, hl with | [_, _], _ => rfl) len2 (fun f cdv A outer s H vs Q E hr h => ⟨_, d__law_sides_told T c_k_sides_of c_sides_of hr, r_sides_told vs H Q E h⟩)
theorem e__law_pairs_told {P : Program} {w : World} {K : PySem.W.Frag} {mg : Str → Option Value} {base : Heap} (T : Txt mg) (D : Df K mg "_law_pairs_told" s__law_pairs_told) (c_k_pair_row : ClK P w K mg base 2 "pair_row" (sp_pair_row K) ["used", "lefts", "row"] LD.gKw321) (c_pair_row : Cl P w K mg base 2 "pair_row" (sp_pair_row K)) : Cl P w K mg base 3 "_law_pairs_told" (sp_pairs_told K) :=
  D.cl sc__law_pairs_told (fun _ _ _ _ _ _ us hl => match us, hl with | [_, _, _, _], _ => rfl) len4 (fun f cdv A outer s H vs Q E hr h => ⟨_, d__law_pairs_told T c_k_pair_row c_pair_row hr, r_pairs_told vs H Q E h⟩)
theorem e__law_row {P : Program} {w : World} {K : PySem.W.Frag} {mg : Str → Option Value} {base : Heap} (T : Txt mg) (D : Df K mg "_law_row" s__law_row) (c__law_base : Cl P w K mg base 2 "_law_base" sp_base) (c__law_draw : Cl P w K mg base 1 "_law_draw" sp_draw) : Cl P w K mg base 3 "_law_row" sp_row :=
  D.cl sc__law_row (fun _ _ _ _ _ _ us hl => match us, hl with | [_, _, _], _ => rfl) len3 (fun f cdv A outer s H vs Q E hr h => ⟨_, d__law_row T c__law_base c__law_draw hr, r_row vs H Q E h⟩)
theorem e__law_is_f {P : Program} {w : World} {K : PySem.W.Frag} {mg : Str → Option Value} {base : Heap} (D : Df K mg "_law_is" s__law_is) : Cl P w K mg base 1 "_law_is" (fun _ _ _ _ => False) :=
  D.cl sc__law_is (fun _ _ _ _ _ _ us hl => match us, hl with | [_, _], _ => rfl) (fun _ _ _ _ h => h.elim) (fun _ _ _ _ _ _ _ _ _ _ h => h.elim)
theorem e__law_is_n {P : Program} {w : World} {K : PySem.W.Frag} {mg : Str → Option Value} {base : Heap} (T : Txt mg) (D : Df K mg "_law_is" s__law_is) : ∀ n : Nat, Cl P w K mg base (n + 2) "_law_is" (sp_is n)
  | 0 => D.cl sc__law_is (fun _ _ _ _ _ _ us hl => match us, hl with | [_, _], _ => rfl) len2 (fun f cdv A outer s H vs Q E hr h => ⟨_, d__law_is T (e__law_is_f D) hr, r_is0 vs H Q E h⟩)
  | n + 1 => D.cl sc__law_is (fun _ _ _ _ _ _ us hl => match us, hl with | [_, _], _ => rfl) len2 (fun f cdv A outer s H vs Q E hr h => ⟨_, d__law_is T (e__law_is_n T D n) hr, r_is vs H Q E h⟩)
theorem e__law_is {P : Program} {w : World} {K : PySem.W.Frag} {mg : Str → Option Value} {base : Heap} (T : Txt mg) (D : Df K mg "_law_is" s__law_is) : Cl P w K mg base 5 "_law_is" (sp_is 3) := e__law_is_n T D 3
theorem e__law_asked {P : Program} {w : World} {K : PySem.W.Frag} {mg : Str → Option Value} {base : Heap} (T : Txt mg) (D : Df K mg "_law_asked" s__law_asked) (c__law_draw : Cl P w K mg base 1 "_law_draw" sp_draw) (c__law_is : Cl P w K mg base 5 "_law_is" (sp_is 3)) (c__law_lefts : Cl P w K mg base 2 "_law_lefts" (sp_lefts K)) (c__law_pairs : Cl P w K mg base 1 "_law_pairs" (sp_pairs K)) (c__law_pairs_told : Cl P w K mg base 3 "_law_pairs_told" (sp_pairs_told K)) (c__law_sides : Cl P w K mg base 2 "_law_sides" (sp_sides K)) (c__law_sides_told : Cl P w K mg base 3 "_law_sides_told" (sp_sides_told K)) : Cl P w K mg base 6 "_law_asked" (sp_asked K) :=
  D.cl sc__law_asked (fun _ _ _ _ _ _ us hl => match us, hl with | [_, _, _], _ => rfl) len3 (fun f cdv A outer s H vs Q E hr h => ⟨_, d__law_asked T c__law_draw c__law_is c__law_lefts c__law_pairs c__law_pairs_told c__law_sides c__law_sides_told hr, r_asked vs H Q E h⟩)
theorem e_law {P : Program} {w : World} {K : PySem.W.Frag} {mg : Str → Option Value} {base : Heap} (T : Txt mg) (D : Df K mg "law" s_law) (c__law_asked : Cl P w K mg base 6 "_law_asked" (sp_asked K)) (c__law_bag : Cl P w K mg base 1 "_law_bag" (sp_bag K)) (c__law_draw : Cl P w K mg base 1 "_law_draw" sp_draw) (c__law_is : Cl P w K mg base 5 "_law_is" (sp_is 3)) (c__law_made : Cl P w K mg base 2 "_law_made" sp_made) (c__law_pairs : Cl P w K mg base 1 "_law_pairs" (sp_pairs K)) (c__law_pairs_told : Cl P w K mg base 3 "_law_pairs_told" (sp_pairs_told K)) (c__law_row : Cl P w K mg base 3 "_law_row" sp_row) (c__law_sides : Cl P w K mg base 2 "_law_sides" (sp_sides K)) (c__law_sides_told : Cl P w K mg base 3 "_law_sides_told" (sp_sides_told K)) : Cl P w K mg base 7 "law" (spLaw K) :=
  D.cl sc_law (fun _ _ _ _ _ _ us hl => match us, hl with | [_], _ => rfl) len1 (fun f cdv A outer s H vs Q E hr h => ⟨_, d_law T c__law_asked c__law_bag c__law_draw c__law_is c__law_made c__law_pairs c__law_pairs_told c__law_row c__law_sides c__law_sides_told hr, r_law vs H Q E h⟩)
theorem all_mk {l : PySem.W.OpenLaw} {w : World} {K : PySem.W.Frag} {h : Heap} {mg : Str → Option Value} {fa : Addr} (X : K.In h) (G : h.Ns mainGlobals mg) (hfa : mg "law" = some (.ref fa))
    {f0 : Addr} {od0 an0 : Option Addr} {sl0 : Array (Option Value)} {oc0 kV0 dc0 pm0 cd0 ct0 : Value} (a0 : PySem.W.nsIn K mainGlobals "left_numbers" = some (some (.ref f0))) (l0 : K.lookup f0 = some ⟨oc0, od0, .func (PySem.W.fnOf "left_numbers" "left_numbers" (defArgs s_left_numbers) (defBody s_left_numbers) (defScope s_left_numbers) .none kV0 dc0 pm0 an0 cd0 ct0), sl0⟩) (c0 : PySem.W.codeIn K cd0 "left_numbers" = true) (k0 : PySem.W.keepIn K (.ref f0) = true)
    {f1 : Addr} {od1 an1 : Option Addr} {sl1 : Array (Option Value)} {oc1 kV1 dc1 pm1 cd1 ct1 : Value} (a1 : PySem.W.nsIn K mainGlobals "row_counts" = some (some (.ref f1))) (l1 : K.lookup f1 = some ⟨oc1, od1, .func (PySem.W.fnOf "row_counts" "row_counts" (defArgs s_row_counts) (defBody s_row_counts) (defScope s_row_counts) .none kV1 dc1 pm1 an1 cd1 ct1), sl1⟩) (c1 : PySem.W.codeIn K cd1 "row_counts" = true) (k1 : PySem.W.keepIn K (.ref f1) = true)
    {f2 : Addr} {od2 an2 : Option Addr} {sl2 : Array (Option Value)} {oc2 kV2 dc2 pm2 cd2 ct2 : Value} (a2 : PySem.W.nsIn K mainGlobals "row_pairs" = some (some (.ref f2))) (l2 : K.lookup f2 = some ⟨oc2, od2, .func (PySem.W.fnOf "row_pairs" "row_pairs" (defArgs s_row_pairs) (defBody s_row_pairs) (defScope s_row_pairs) .none kV2 dc2 pm2 an2 cd2 ct2), sl2⟩) (c2 : PySem.W.codeIn K cd2 "row_pairs" = true) (k2 : PySem.W.keepIn K (.ref f2) = true)
    {f3 : Addr} {od3 an3 : Option Addr} {sl3 : Array (Option Value)} {oc3 kV3 dc3 pm3 cd3 ct3 : Value} (a3 : PySem.W.nsIn K mainGlobals "_law_draw" = some (some (.ref f3))) (l3 : K.lookup f3 = some ⟨oc3, od3, .func (PySem.W.fnOf "_law_draw" "_law_draw" (defArgs s__law_draw) (defBody s__law_draw) (defScope s__law_draw) .none kV3 dc3 pm3 an3 cd3 ct3), sl3⟩) (c3 : PySem.W.codeIn K cd3 "_law_draw" = true) (k3 : PySem.W.keepIn K (.ref f3) = true)
    {f4 : Addr} {od4 an4 : Option Addr} {sl4 : Array (Option Value)} {oc4 kV4 dc4 pm4 cd4 ct4 : Value} (a4 : PySem.W.nsIn K mainGlobals "_law_bag" = some (some (.ref f4))) (l4 : K.lookup f4 = some ⟨oc4, od4, .func (PySem.W.fnOf "_law_bag" "_law_bag" (defArgs s__law_bag) (defBody s__law_bag) (defScope s__law_bag) .none kV4 dc4 pm4 an4 cd4 ct4), sl4⟩) (c4 : PySem.W.codeIn K cd4 "_law_bag" = true) (k4 : PySem.W.keepIn K (.ref f4) = true)
    {f5 : Addr} {od5 an5 : Option Addr} {sl5 : Array (Option Value)} {oc5 kV5 dc5 pm5 cd5 ct5 : Value} (a5 : PySem.W.nsIn K mainGlobals "_law_weights" = some (some (.ref f5))) (l5 : K.lookup f5 = some ⟨oc5, od5, .func (PySem.W.fnOf "_law_weights" "_law_weights" (defArgs s__law_weights) (defBody s__law_weights) (defScope s__law_weights) .none kV5 dc5 pm5 an5 cd5 ct5), sl5⟩) (c5 : PySem.W.codeIn K cd5 "_law_weights" = true) (k5 : PySem.W.keepIn K (.ref f5) = true)
    {f6 : Addr} {od6 an6 : Option Addr} {sl6 : Array (Option Value)} {oc6 kV6 dc6 pm6 cd6 ct6 : Value} (a6 : PySem.W.nsIn K mainGlobals "_law_pairs" = some (some (.ref f6))) (l6 : K.lookup f6 = some ⟨oc6, od6, .func (PySem.W.fnOf "_law_pairs" "_law_pairs" (defArgs s__law_pairs) (defBody s__law_pairs) (defScope s__law_pairs) .none kV6 dc6 pm6 an6 cd6 ct6), sl6⟩) (c6 : PySem.W.codeIn K cd6 "_law_pairs" = true) (k6 : PySem.W.keepIn K (.ref f6) = true)
    {f7 : Addr} {od7 an7 : Option Addr} {sl7 : Array (Option Value)} {oc7 kV7 dc7 pm7 cd7 ct7 : Value} (a7 : PySem.W.nsIn K mainGlobals "sides_of" = some (some (.ref f7))) (l7 : K.lookup f7 = some ⟨oc7, od7, .func (PySem.W.fnOf "sides_of" "sides_of" (defArgs s_sides_of) (defBody s_sides_of) (defScope s_sides_of) .none kV7 dc7 pm7 an7 cd7 ct7), sl7⟩) (c7 : PySem.W.codeIn K cd7 "sides_of" = true) (k7 : PySem.W.keepIn K (.ref f7) = true)
    {f8 : Addr} {od8 an8 : Option Addr} {sl8 : Array (Option Value)} {oc8 kV8 dc8 pm8 cd8 ct8 : Value} (a8 : PySem.W.nsIn K mainGlobals "pair_row" = some (some (.ref f8))) (l8 : K.lookup f8 = some ⟨oc8, od8, .func (PySem.W.fnOf "pair_row" "pair_row" (defArgs s_pair_row) (defBody s_pair_row) (defScope s_pair_row) .none kV8 dc8 pm8 an8 cd8 ct8), sl8⟩) (c8 : PySem.W.codeIn K cd8 "pair_row" = true) (k8 : PySem.W.keepIn K (.ref f8) = true)
    {f9 : Addr} {od9 an9 : Option Addr} {sl9 : Array (Option Value)} {oc9 kV9 dc9 pm9 cd9 ct9 : Value} (a9 : PySem.W.nsIn K mainGlobals "_law_sides" = some (some (.ref f9))) (l9 : K.lookup f9 = some ⟨oc9, od9, .func (PySem.W.fnOf "_law_sides" "_law_sides" (defArgs s__law_sides) (defBody s__law_sides) (defScope s__law_sides) .none kV9 dc9 pm9 an9 cd9 ct9), sl9⟩) (c9 : PySem.W.codeIn K cd9 "_law_sides" = true) (k9 : PySem.W.keepIn K (.ref f9) = true)
    {f10 : Addr} {od10 an10 : Option Addr} {sl10 : Array (Option Value)} {oc10 kV10 dc10 pm10 cd10 ct10 : Value} (a10 : PySem.W.nsIn K mainGlobals "_law_base" = some (some (.ref f10))) (l10 : K.lookup f10 = some ⟨oc10, od10, .func (PySem.W.fnOf "_law_base" "_law_base" (defArgs s__law_base) (defBody s__law_base) (defScope s__law_base) .none kV10 dc10 pm10 an10 cd10 ct10), sl10⟩) (c10 : PySem.W.codeIn K cd10 "_law_base" = true) (k10 : PySem.W.keepIn K (.ref f10) = true)
    {f11 : Addr} {od11 an11 : Option Addr} {sl11 : Array (Option Value)} {oc11 kV11 dc11 pm11 cd11 ct11 : Value} (a11 : PySem.W.nsIn K mainGlobals "_law_lefts" = some (some (.ref f11))) (l11 : K.lookup f11 = some ⟨oc11, od11, .func (PySem.W.fnOf "_law_lefts" "_law_lefts" (defArgs s__law_lefts) (defBody s__law_lefts) (defScope s__law_lefts) .none kV11 dc11 pm11 an11 cd11 ct11), sl11⟩) (c11 : PySem.W.codeIn K cd11 "_law_lefts" = true) (k11 : PySem.W.keepIn K (.ref f11) = true)
    {f12 : Addr} {od12 an12 : Option Addr} {sl12 : Array (Option Value)} {oc12 kV12 dc12 pm12 cd12 ct12 : Value} (a12 : PySem.W.nsIn K mainGlobals "_law_made" = some (some (.ref f12))) (l12 : K.lookup f12 = some ⟨oc12, od12, .func (PySem.W.fnOf "_law_made" "_law_made" (defArgs s__law_made) (defBody s__law_made) (defScope s__law_made) .none kV12 dc12 pm12 an12 cd12 ct12), sl12⟩) (c12 : PySem.W.codeIn K cd12 "_law_made" = true) (k12 : PySem.W.keepIn K (.ref f12) = true)
    {f13 : Addr} {od13 an13 : Option Addr} {sl13 : Array (Option Value)} {oc13 kV13 dc13 pm13 cd13 ct13 : Value} (a13 : PySem.W.nsIn K mainGlobals "_law_sides_told" = some (some (.ref f13))) (l13 : K.lookup f13 = some ⟨oc13, od13, .func (PySem.W.fnOf "_law_sides_told" "_law_sides_told" (defArgs s__law_sides_told) (defBody s__law_sides_told) (defScope s__law_sides_told) .none kV13 dc13 pm13 an13 cd13 ct13), sl13⟩) (c13 : PySem.W.codeIn K cd13 "_law_sides_told" = true) (k13 : PySem.W.keepIn K (.ref f13) = true)
    {f14 : Addr} {od14 an14 : Option Addr} {sl14 : Array (Option Value)} {oc14 kV14 dc14 pm14 cd14 ct14 : Value} (a14 : PySem.W.nsIn K mainGlobals "_law_pairs_told" = some (some (.ref f14))) (l14 : K.lookup f14 = some ⟨oc14, od14, .func (PySem.W.fnOf "_law_pairs_told" "_law_pairs_told" (defArgs s__law_pairs_told) (defBody s__law_pairs_told) (defScope s__law_pairs_told) .none kV14 dc14 pm14 an14 cd14 ct14), sl14⟩) (c14 : PySem.W.codeIn K cd14 "_law_pairs_told" = true) (k14 : PySem.W.keepIn K (.ref f14) = true)
    {f15 : Addr} {od15 an15 : Option Addr} {sl15 : Array (Option Value)} {oc15 kV15 dc15 pm15 cd15 ct15 : Value} (a15 : PySem.W.nsIn K mainGlobals "_law_row" = some (some (.ref f15))) (l15 : K.lookup f15 = some ⟨oc15, od15, .func (PySem.W.fnOf "_law_row" "_law_row" (defArgs s__law_row) (defBody s__law_row) (defScope s__law_row) .none kV15 dc15 pm15 an15 cd15 ct15), sl15⟩) (c15 : PySem.W.codeIn K cd15 "_law_row" = true) (k15 : PySem.W.keepIn K (.ref f15) = true)
    {f16 : Addr} {od16 an16 : Option Addr} {sl16 : Array (Option Value)} {oc16 kV16 dc16 pm16 cd16 ct16 : Value} (a16 : PySem.W.nsIn K mainGlobals "_law_is" = some (some (.ref f16))) (l16 : K.lookup f16 = some ⟨oc16, od16, .func (PySem.W.fnOf "_law_is" "_law_is" (defArgs s__law_is) (defBody s__law_is) (defScope s__law_is) .none kV16 dc16 pm16 an16 cd16 ct16), sl16⟩) (c16 : PySem.W.codeIn K cd16 "_law_is" = true) (k16 : PySem.W.keepIn K (.ref f16) = true)
    {f17 : Addr} {od17 an17 : Option Addr} {sl17 : Array (Option Value)} {oc17 kV17 dc17 pm17 cd17 ct17 : Value} (a17 : PySem.W.nsIn K mainGlobals "_law_asked" = some (some (.ref f17))) (l17 : K.lookup f17 = some ⟨oc17, od17, .func (PySem.W.fnOf "_law_asked" "_law_asked" (defArgs s__law_asked) (defBody s__law_asked) (defScope s__law_asked) .none kV17 dc17 pm17 an17 cd17 ct17), sl17⟩) (c17 : PySem.W.codeIn K cd17 "_law_asked" = true) (k17 : PySem.W.keepIn K (.ref f17) = true)
    {f18 : Addr} {od18 an18 : Option Addr} {sl18 : Array (Option Value)} {oc18 kV18 dc18 pm18 cd18 ct18 : Value} (a18 : PySem.W.nsIn K mainGlobals "law" = some (some (.ref f18))) (l18 : K.lookup f18 = some ⟨oc18, od18, .func (PySem.W.fnOf "law" "law" (defArgs s_law) (defBody s_law) (defScope s_law) .none kV18 dc18 pm18 an18 cd18 ct18), sl18⟩) (c18 : PySem.W.codeIn K cd18 "law" = true) (k18 : PySem.W.keepIn K (.ref f18) = true)
    (z0 : PySem.W.nsIn K mainGlobals "bool" = some none) (z1 : PySem.W.nsIn K mainGlobals "enumerate" = some none) (z2 : PySem.W.nsIn K mainGlobals "int" = some none) (z3 : PySem.W.nsIn K mainGlobals "isinstance" = some none) (z4 : PySem.W.nsIn K mainGlobals "len" = some none) (z5 : PySem.W.nsIn K mainGlobals "list" = some none) (z6 : PySem.W.nsIn K mainGlobals "max" = some none) (z7 : PySem.W.nsIn K mainGlobals "min" = some none) (z8 : PySem.W.nsIn K mainGlobals "range" = some none) (z9 : PySem.W.nsIn K mainGlobals "set" = some none) (z10 : PySem.W.nsIn K mainGlobals "sorted" = some none) (z11 : PySem.W.nsIn K mainGlobals "sum" = some none) (z12 : PySem.W.nsIn K mainGlobals "tuple" = some none) (z13 : PySem.W.nsIn K mainGlobals "zip" = some none) :
    ∃ fd : FuncData, (∀ (s : Shared) (v : Value), BindsTo s fd ⟨[v], []⟩ [("script", v)]) ∧ ∀ base : Heap, K.In base → base.Ns mainGlobals mg → FnOk l.prog w K mg base CX0 7 fa fd ["script"] (spLaw K) := by
  have e := hfa.symm.trans (PySem.W.mg_of X G a18)
  cases e
  have T : Txt mg := ⟨PySem.W.mg_none_of X G z0, PySem.W.mg_none_of X G z1, PySem.W.mg_none_of X G z2, PySem.W.mg_none_of X G z3, PySem.W.mg_none_of X G z4, PySem.W.mg_none_of X G z5, PySem.W.mg_none_of X G z6, PySem.W.mg_none_of X G z7, PySem.W.mg_none_of X G z8, PySem.W.mg_none_of X G z9, PySem.W.mg_none_of X G z10, PySem.W.mg_none_of X G z11, PySem.W.mg_none_of X G z12, PySem.W.mg_none_of X G z13⟩
  have D_left_numbers : Df K mg "left_numbers" s_left_numbers := df_mk X G a0 l0 c0 k0
  have D_row_counts : Df K mg "row_counts" s_row_counts := df_mk X G a1 l1 c1 k1
  have D_row_pairs : Df K mg "row_pairs" s_row_pairs := df_mk X G a2 l2 c2 k2
  have D__law_draw : Df K mg "_law_draw" s__law_draw := df_mk X G a3 l3 c3 k3
  have D__law_bag : Df K mg "_law_bag" s__law_bag := df_mk X G a4 l4 c4 k4
  have D__law_weights : Df K mg "_law_weights" s__law_weights := df_mk X G a5 l5 c5 k5
  have D__law_pairs : Df K mg "_law_pairs" s__law_pairs := df_mk X G a6 l6 c6 k6
  have D_sides_of : Df K mg "sides_of" s_sides_of := df_mk X G a7 l7 c7 k7
  have D_pair_row : Df K mg "pair_row" s_pair_row := df_mk X G a8 l8 c8 k8
  have D__law_sides : Df K mg "_law_sides" s__law_sides := df_mk X G a9 l9 c9 k9
  have D__law_base : Df K mg "_law_base" s__law_base := df_mk X G a10 l10 c10 k10
  have D__law_lefts : Df K mg "_law_lefts" s__law_lefts := df_mk X G a11 l11 c11 k11
  have D__law_made : Df K mg "_law_made" s__law_made := df_mk X G a12 l12 c12 k12
  have D__law_sides_told : Df K mg "_law_sides_told" s__law_sides_told := df_mk X G a13 l13 c13 k13
  have D__law_pairs_told : Df K mg "_law_pairs_told" s__law_pairs_told := df_mk X G a14 l14 c14 k14
  have D__law_row : Df K mg "_law_row" s__law_row := df_mk X G a15 l15 c15 k15
  have D__law_is : Df K mg "_law_is" s__law_is := df_mk X G a16 l16 c16 k16
  have D__law_asked : Df K mg "_law_asked" s__law_asked := df_mk X G a17 l17 c17 k17
  have FL := fun_mk (st := s_law) l18 c18 k18
  refine ⟨PySem.W.fnOf "law" "law" (defArgs s_law) (defBody s_law) (defScope s_law) .none kV18 dc18 pm18 an18 cd18 ct18, fun s v => .of_eq rfl, fun base _ _ => ?_⟩
  have c_left_numbers := e_left_numbers (P := l.prog) (w := w) (base := base) T D_left_numbers 
  have c_row_counts := e_row_counts (P := l.prog) (w := w) (base := base) T D_row_counts 
  have c_row_pairs := e_row_pairs (P := l.prog) (w := w) (base := base) T D_row_pairs 
  have c__law_draw := e__law_draw (P := l.prog) (w := w) (base := base) T D__law_draw 
  have c__law_bag := e__law_bag (P := l.prog) (w := w) (base := base) T D__law_bag 
  have c__law_weights := e__law_weights (P := l.prog) (w := w) (base := base) T D__law_weights 
  have c__law_pairs := e__law_pairs (P := l.prog) (w := w) (base := base) T D__law_pairs 
  have c_sides_of := e_sides_of (P := l.prog) (w := w) (base := base) T D_sides_of c_left_numbers c_row_counts
  have c_k_sides_of := ek_sides_of (P := l.prog) (w := w) (base := base) T D_sides_of c_left_numbers c_row_counts
  have c_pair_row := e_pair_row (P := l.prog) (w := w) (base := base) T D_pair_row c_row_pairs
  have c_k_pair_row := ek_pair_row (P := l.prog) (w := w) (base := base) T D_pair_row c_row_pairs
  have c__law_sides := e__law_sides (P := l.prog) (w := w) (base := base) T D__law_sides c__law_weights
  have c__law_base := e__law_base (P := l.prog) (w := w) (base := base) T D__law_base c__law_draw
  have c__law_lefts := e__law_lefts (P := l.prog) (w := w) (base := base) T D__law_lefts c__law_draw
  have c__law_made := e__law_made (P := l.prog) (w := w) (base := base) T D__law_made c__law_draw
  have c__law_sides_told := e__law_sides_told (P := l.prog) (w := w) (base := base) T D__law_sides_told c_k_sides_of c_sides_of
  have c__law_pairs_told := e__law_pairs_told (P := l.prog) (w := w) (base := base) T D__law_pairs_told c_k_pair_row c_pair_row
  have c__law_row := e__law_row (P := l.prog) (w := w) (base := base) T D__law_row c__law_base c__law_draw
  have c__law_is := e__law_is (P := l.prog) (w := w) (base := base) T D__law_is 
  have c__law_asked := e__law_asked (P := l.prog) (w := w) (base := base) T D__law_asked c__law_draw c__law_is c__law_lefts c__law_pairs c__law_pairs_told c__law_sides c__law_sides_told
  exact FL.ok sc_law len1 fun cdv A outer s H vs Q E hr h => ⟨_, d_law T c__law_asked c__law_bag c__law_draw c__law_is c__law_made c__law_pairs c__law_pairs_told c__law_row c__law_sides c__law_sides_told hr, r_law vs H Q E h⟩
end K15
open PySem PySem.W PyProof.Rows
set_option maxHeartbeats 0 in
theorem PySem.Challenge.cw_longforms_k15_sides_of_pair_row_holds : PySem.Challenge.rw_longforms_k15_sides_of_pair_row.Holds := by
  w_on; o_law; k_head; (case hw => w_witness2)
  k_fill
  refine L2.walk_of (l := PySem.Challenge.rw_longforms_k15_sides_of_pair_row) (n := 63) (k := 7) (x := "script") (CX := fun _ => L2.CX0) (sp := fun w => K15.spLaw _) rfl (by decide) rfl ⟨rfl, by decide, by decide⟩ (fun w h Y => PySem.W.kIn_of Y) ?F (fun _ _ a ns hl _ hS => ⟨_, rfl, a, ns, rfl, hS, fun _ => rfl⟩) (fun _ _ _ _ _ h => h)
  case F =>
    intro w mg fa h KX G hmg
    refine' K15.all_mk KX G hmg ?a0 ?l0 ?c0 ?k0 ?a1 ?l1 ?c1 ?k1 ?a2 ?l2 ?c2 ?k2 ?a3 ?l3 ?c3 ?k3 ?a4 ?l4 ?c4 ?k4 ?a5 ?l5 ?c5 ?k5 ?a6 ?l6 ?c6 ?k6 ?a7 ?l7 ?c7 ?k7 ?a8 ?l8 ?c8 ?k8 ?a9 ?l9 ?c9 ?k9 ?a10 ?l10 ?c10 ?k10 ?a11 ?l11 ?c11 ?k11 ?a12 ?l12 ?c12 ?k12 ?a13 ?l13 ?c13 ?k13 ?a14 ?l14 ?c14 ?k14 ?a15 ?l15 ?c15 ?k15 ?a16 ?l16 ?c16 ?k16 ?a17 ?l17 ?c17 ?k17 ?a18 ?l18 ?c18 ?k18 ?z0 ?z1 ?z2 ?z3 ?z4 ?z5 ?z6 ?z7 ?z8 ?z9 ?z10 ?z11 ?z12 ?z13
    (case a0 => k_is); (case l0 => k_is); (case c0 => k_is); (case k0 => k_is); (case a1 => k_is); (case l1 => k_is); (case c1 => k_is); (case k1 => k_is); (case a2 => k_is); (case l2 => k_is); (case c2 => k_is); (case k2 => k_is); (case a3 => k_is); (case l3 => k_is); (case c3 => k_is); (case k3 => k_is); (case a4 => k_is); (case l4 => k_is); (case c4 => k_is); (case k4 => k_is); (case a5 => k_is); (case l5 => k_is); (case c5 => k_is); (case k5 => k_is); (case a6 => k_is); (case l6 => k_is); (case c6 => k_is); (case k6 => k_is); (case a7 => k_is); (case l7 => k_is); (case c7 => k_is); (case k7 => k_is); (case a8 => k_is); (case l8 => k_is); (case c8 => k_is); (case k8 => k_is); (case a9 => k_is); (case l9 => k_is); (case c9 => k_is); (case k9 => k_is); (case a10 => k_is); (case l10 => k_is); (case c10 => k_is); (case k10 => k_is); (case a11 => k_is); (case l11 => k_is); (case c11 => k_is); (case k11 => k_is); (case a12 => k_is); (case l12 => k_is); (case c12 => k_is); (case k12 => k_is); (case a13 => k_is); (case l13 => k_is); (case c13 => k_is); (case k13 => k_is); (case a14 => k_is); (case l14 => k_is); (case c14 => k_is); (case k14 => k_is); (case a15 => k_is); (case l15 => k_is); (case c15 => k_is); (case k15 => k_is); (case a16 => k_is); (case l16 => k_is); (case c16 => k_is); (case k16 => k_is); (case a17 => k_is); (case l17 => k_is); (case c17 => k_is); (case k17 => k_is); (case a18 => k_is); (case l18 => k_is); (case c18 => k_is); (case k18 => k_is); (case z0 => k_is); (case z1 => k_is); (case z2 => k_is); (case z3 => k_is); (case z4 => k_is); (case z5 => k_is); (case z6 => k_is); (case z7 => k_is); (case z8 => k_is); (case z9 => k_is); (case z10 => k_is); (case z11 => k_is); (case z12 => k_is); (case z13 => k_is)

