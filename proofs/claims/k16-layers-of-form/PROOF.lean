import PyProof.Rows.All
import Wide.All
import OpenK.AllK
import Wide.FinOn
import HandS.ForMost
import HandS.Conv
import HandS.DictComp
import HandS.TupAny
import HandS.SortInts
import KE.GoesNew
import HandS.SortRule
import HandS.Strs
import HandS.SetFor
import HandS.Exc
import HandS.IsInst
import HandS.Flow
import HandS.Style
import HandS.TupLen
import HandS.SetTxt0
import HandS.RevTup
import HandS.Deep
import PyProof.Rows.SortShellAny
import PyProof.Rows.StrMeet
import HandS.Rev
import HandS.TupSets
import HandS.TryOnly
import PySem.Challenge.RW_longforms_k16_layers_of_form
section
/-! Plain mathematics: association lists, first-come lists, sorts by insertion, sums. -/
set_option autoImplicit false
set_option linter.all false
namespace LM
section
variable {κ β : Type} [DecidableEq κ]
def look (l : List (κ × β)) (k : κ) : Option β := (l.find? fun p => decide (p.1 = k)).map (·.2)
def put (l : List (κ × β)) (k : κ) (v : β) : List (κ × β) :=
  if (l.any fun p => decide (p.1 = k)) = true then l.map (fun p => if p.1 = k then (p.1, v) else p) else l ++ [(k, v)]
def keys (l : List (κ × β)) : List κ := l.map (·.1)
@[simp] theorem look_nil (k : κ) : look ([] : List (κ × β)) k = none := rfl
theorem look_cons (p : κ × β) (l : List (κ × β)) (k : κ) : look (p :: l) k = if p.1 = k then some p.2 else look l k := by
  unfold look
  rw [List.find?_cons]
  by_cases h : p.1 = k <;> simp [h]
theorem look_none {l : List (κ × β)} {k : κ} : look l k = none ↔ k ∉ keys l := by
  induction l with
  | nil => simp [look, keys]
  | cons p l ih =>
    rw [look_cons]
    by_cases h : p.1 = k
    · simp [h, keys]
    · rw [if_neg h, ih]
      simp only [keys, List.map_cons, List.mem_cons, not_or]
      constructor
      · intro h2
        exact ⟨fun e => h e.symm, h2⟩
      · intro h2
        exact h2.2
theorem look_some_mem {l : List (κ × β)} {k : κ} {v : β} (h : look l k = some v) : (k, v) ∈ l := by
  induction l with
  | nil => simp at h
  | cons p l ih =>
    rw [look_cons] at h
    by_cases e : p.1 = k
    · rw [if_pos e] at h
      cases h
      rw [← e]
      exact List.mem_cons_self
    · rw [if_neg e] at h
      exact List.mem_cons_of_mem _ (ih h)
theorem mem_keys_look {l : List (κ × β)} {k : κ} (h : k ∈ keys l) : ∃ v, look l k = some v := by
  cases e : look l k with
  | none => exact absurd h (look_none.mp e)
  | some v => exact ⟨v, rfl⟩
theorem look_of_mem {l : List (κ × β)} {k : κ} {v : β} (nd : (keys l).Nodup) (h : (k, v) ∈ l) : look l k = some v := by
  induction l with
  | nil => simp at h
  | cons p l ih =>
    rw [look_cons]
    simp only [keys, List.map_cons, List.nodup_cons] at nd
    rcases List.mem_cons.mp h with e | h
    · subst e
      simp
    · have hk : k ∈ keys l := List.mem_map.mpr ⟨_, h, rfl⟩
      rw [if_neg (fun e => nd.1 (by rw [e]; exact hk)), ih nd.2 h]
theorem any_look (l : List (κ × β)) (k : κ) : (l.any fun p => decide (p.1 = k)) = (look l k).isSome := by
  induction l with
  | nil => rfl
  | cons p l ih =>
    rw [look_cons, List.any_cons, ih]
    by_cases h : p.1 = k <;> simp [h]
theorem put_new {l : List (κ × β)} {k : κ} (v : β) (h : look l k = none) : put l k v = l ++ [(k, v)] := by
  unfold put
  rw [any_look, h]
  rfl
theorem put_old {l : List (κ × β)} {k : κ} (v : β) (h : look l k ≠ none) : put l k v = l.map (fun p => if p.1 = k then (p.1, v) else p) := by
  unfold put
  rw [any_look, if_pos (by cases e : look l k with | none => exact absurd e h | some _ => rfl)]
theorem keys_put (l : List (κ × β)) (k : κ) (v : β) : keys (put l k v) = if k ∈ keys l then keys l else keys l ++ [k] := by
  by_cases h : look l k = none
  · rw [put_new v h, if_neg (look_none.mp h)]
    simp [keys]
  · rw [put_old v h, if_pos (Classical.byContradiction fun e => h (look_none.mpr e))]
    unfold keys
    rw [List.map_map]
    apply List.map_congr_left
    intro p _
    show (if p.1 = k then (p.1, v) else p).1 = p.1
    by_cases e : p.1 = k <;> simp [e]
theorem nodup_put {l : List (κ × β)} (k : κ) (v : β) (nd : (keys l).Nodup) : (keys (put l k v)).Nodup := by
  rw [keys_put]
  by_cases h : k ∈ keys l
  · rw [if_pos h]
    exact nd
  · rw [if_neg h, List.nodup_append]
    exact ⟨nd, by simp, fun a ha b hb => by
      rw [List.mem_singleton] at hb
      subst hb
      intro e
      subst e
      exact h ha⟩
theorem look_append (l m : List (κ × β)) (k : κ) : look (l ++ m) k = (look l k).or (look m k) := by
  induction l with
  | nil => rfl
  | cons p l ih =>
    rw [List.cons_append, look_cons, look_cons, ih]
    by_cases h : p.1 = k <;> simp [h]
theorem look_put (l : List (κ × β)) (k j : κ) (v : β) : look (put l k v) j = if j = k then some v else look l j := by
  by_cases h : look l k = none
  · rw [put_new v h, look_append]
    by_cases e : j = k
    · subst e
      rw [h, if_pos rfl]
      simp [look_cons]
    · rw [if_neg e, look_cons, if_neg (fun q => e q.symm)]
      cases look l j <;> rfl
  · rw [put_old v h]
    have q : ∀ m : List (κ × β), look (m.map (fun p => if p.1 = k then (p.1, v) else p)) j = if j = k then (look m k).map (fun _ => v) else look m j := by
      intro m
      induction m with
      | nil => simp
      | cons p m ih =>
        rw [List.map_cons, look_cons, look_cons, look_cons, ih]
        by_cases h1 : p.1 = k
        · by_cases h2 : j = k
          · subst h2
            simp [h1]
          · have h3 : ¬ k = j := fun e => h2 e.symm
            simp [h1, h2, h3]
        · by_cases h2 : j = k
          · subst h2
            simp [h1]
          · simp [h1, h2]
    rw [q]
    by_cases e : j = k
    · rw [if_pos e, if_pos e]
      cases e2 : look l k with
      | none => exact absurd e2 h
      | some w => rfl
    · rw [if_neg e, if_neg e]
theorem length_put (l : List (κ × β)) (k : κ) (v : β) : (put l k v).length ≤ l.length + 1 := by
  unfold put
  split <;> simp
/-- two association lists that tell the same are rearrangements of each other -/
theorem perm_of_look [DecidableEq β] {l m : List (κ × β)} (nl : (keys l).Nodup) (nm : (keys m).Nodup) (h : ∀ k, look l k = look m k) : l.Perm m := by
  have ndl : l.Nodup := (List.pairwise_map.mp nl).imp fun h e => h (by rw [e])
  have ndm : m.Nodup := (List.pairwise_map.mp nm).imp fun h e => h (by rw [e])
  refine (List.perm_ext_iff_of_nodup ndl ndm).mpr fun p => ?_
  have q : p ∈ l ↔ p ∈ m := by
    constructor
    · intro hp
      have e := look_of_mem nl (k := p.1) (v := p.2) hp
      rw [h] at e
      exact look_some_mem e
    · intro hp
      have e := look_of_mem nm (k := p.1) (v := p.2) hp
      rw [← h] at e
      exact look_some_mem e
  exact q
end
/-! ### sums by keys -/
section
variable {κ : Type} [DecidableEq κ]
def S (P : κ → Bool) (l : List (κ × Int)) : Int := ((l.filter fun p => P p.1).map (·.2)).sum
@[simp] theorem S_nil (P : κ → Bool) : S P [] = 0 := rfl
theorem S_cons (P : κ → Bool) (p : κ × Int) (l : List (κ × Int)) : S P (p :: l) = (if P p.1 = true then p.2 else 0) + S P l := by
  unfold S
  rw [List.filter_cons]
  by_cases h : P p.1 = true
  · rw [if_pos h, if_pos h, List.map_cons, List.sum_cons]
  · rw [if_neg h, if_neg h, Int.zero_add]
theorem S_append (P : κ → Bool) (l m : List (κ × Int)) : S P (l ++ m) = S P l + S P m := by
  unfold S
  rw [List.filter_append, List.map_append, List.sum_append]
theorem S_perm (P : κ → Bool) {l m : List (κ × Int)} (h : l.Perm m) : S P l = S P m := by
  induction h with
  | nil => rfl
  | cons x _ ih => rw [S_cons, S_cons, ih]
  | swap x y l =>
    rw [S_cons, S_cons, S_cons, S_cons]
    omega
  | trans _ _ i j => rw [i, j]
theorem S_congr {P Q : κ → Bool} {l : List (κ × Int)} (h : ∀ p ∈ l, P p.1 = Q p.1) : S P l = S Q l := by
  unfold S
  rw [List.filter_congr fun p hp => by rw [h p hp]]
def acc (l : List (κ × Int)) (k : κ) (v : Int) : List (κ × Int) := put l k ((look l k).getD 0 + v)
theorem S_acc (P : κ → Bool) {l : List (κ × Int)} (nd : (keys l).Nodup) (k : κ) (v : Int) : S P (acc l k v) = S P l + if P k = true then v else 0 := by
  unfold acc
  by_cases h : look l k = none
  · rw [put_new _ h, S_append, S_cons, h]
    simp
  · rw [put_old _ h]
    obtain ⟨w, hw⟩ : ∃ w, look l k = some w := by
      cases e : look l k with
      | none => exact absurd e h
      | some w => exact ⟨w, rfl⟩
    rw [hw]
    clear h
    show S P (l.map (fun p => if p.1 = k then (p.1, w + v) else p)) = _
    induction l with
    | nil => simp at hw
    | cons p l ih =>
      simp only [keys, List.map_cons, List.nodup_cons] at nd
      rw [look_cons] at hw
      rw [List.map_cons, S_cons, S_cons]
      by_cases e : p.1 = k
      · rw [if_pos e] at hw
        cases hw
        have same : l.map (fun q => if q.1 = k then (q.1, p.2 + v) else q) = l := by
          have : l.map (fun q => if q.1 = k then (q.1, p.2 + v) else q) = l.map id := by
            apply List.map_congr_left
            intro q hq
            rw [if_neg fun e2 => nd.1 (by rw [e, ← e2]; exact List.mem_map.mpr ⟨q, hq, rfl⟩)]
            rfl
          rw [this, List.map_id]
        rw [same, if_pos e]
        subst e
        by_cases hp : P p.1 = true <;> simp [hp]
        omega
      · rw [if_neg e] at hw
        rw [ih nd.2 hw, if_neg e]
        omega
theorem nodup_acc {l : List (κ × Int)} (k : κ) (v : Int) (nd : (keys l).Nodup) : (keys (acc l k v)).Nodup := nodup_put _ _ nd
theorem look_acc (l : List (κ × Int)) (k j : κ) (v : Int) : look (acc l k v) j = if j = k then some ((look l k).getD 0 + v) else look l j := look_put _ _ _ _
def accs (l : List (κ × Int)) (cs : List (κ × Int)) : List (κ × Int) := cs.foldl (fun l c => acc l c.1 c.2) l
theorem nodup_accs (cs : List (κ × Int)) : ∀ {l : List (κ × Int)}, (keys l).Nodup → (keys (accs l cs)).Nodup := by
  induction cs with
  | nil => exact fun h => h
  | cons c cs ih => exact fun h => ih (nodup_acc _ _ h)
theorem S_accs (P : κ → Bool) (cs : List (κ × Int)) : ∀ {l : List (κ × Int)}, (keys l).Nodup → S P (accs l cs) = S P l + S P cs := by
  induction cs with
  | nil =>
    intro l _
    show S P l = S P l + 0
    omega
  | cons c cs ih =>
    intro l h
    show S P (accs (acc l c.1 c.2) cs) = _
    rw [ih (nodup_acc _ _ h), S_acc P h, S_cons]
    omega
theorem keys_accs (cs : List (κ × Int)) (k : κ) : ∀ {l : List (κ × Int)}, k ∈ keys (accs l cs) ↔ k ∈ keys l ∨ k ∈ keys cs := by
  induction cs with
  | nil =>
    intro l
    show k ∈ keys l ↔ _
    simp [keys]
  | cons c cs ih =>
    intro l
    show k ∈ keys (accs (acc l c.1 c.2) cs) ↔ _
    rw [ih]
    unfold acc
    rw [keys_put]
    by_cases h : c.1 ∈ keys l
    · rw [if_pos h]
      simp only [keys, List.map_cons, List.mem_cons] at *
      constructor
      · rintro (a | a)
        · exact .inl a
        · exact .inr (.inr a)
      · rintro (a | a | a)
        · exact .inl a
        · subst a
          exact .inl h
        · exact .inr a
    · rw [if_neg h]
      simp only [keys, List.map_cons, List.mem_cons, List.mem_append, List.not_mem_nil, or_false, or_assoc]
theorem S_look {l : List (κ × Int)} (nd : (keys l).Nodup) (k : κ) : S (fun j => decide (j = k)) l = (look l k).getD 0 := by
  induction l with
  | nil => rfl
  | cons p l ih =>
    simp only [keys, List.map_cons, List.nodup_cons] at nd
    rw [S_cons, look_cons, ih nd.2]
    by_cases e : p.1 = k
    · have : look l k = none := look_none.mpr (by rw [← e]; exact nd.1)
      simp [e, this]
    · simp [e]
theorem look_accs {cs : List (κ × Int)} {l : List (κ × Int)} (nd : (keys l).Nodup) (k : κ) :
    look (accs l cs) k = if k ∈ keys l ∨ k ∈ keys cs then some ((look l k).getD 0 + S (fun j => decide (j = k)) cs) else none := by
  by_cases h : k ∈ keys l ∨ k ∈ keys cs
  · rw [if_pos h]
    obtain ⟨v, hv⟩ := mem_keys_look ((keys_accs cs k).mpr h)
    have e := S_look (nodup_accs cs nd) k
    rw [S_accs _ _ nd, S_look nd, hv] at e
    rw [hv, e]
    rfl
  · rw [if_neg h, look_none, keys_accs]
    exact h
end
/-! ### lists without doubles, in the sequence in which they come -/
section
variable {α : Type} [DecidableEq α]
def addN (l : List α) (x : α) : List α := if x ∈ l then l else l ++ [x]
def dedup (xs : List α) : List α := xs.foldl addN []
theorem nodup_addN {l : List α} (x : α) (h : l.Nodup) : (addN l x).Nodup := by
  unfold addN
  by_cases hx : x ∈ l
  · rw [if_pos hx]
    exact h
  · rw [if_neg hx, List.nodup_append]
    exact ⟨h, by simp, fun a ha b hb e => hx (by rw [List.mem_singleton] at hb; subst hb; subst e; exact ha)⟩
theorem mem_addN {l : List α} {x y : α} : y ∈ addN l x ↔ y ∈ l ∨ y = x := by
  unfold addN
  by_cases hx : x ∈ l
  · rw [if_pos hx]
    constructor
    · exact .inl
    · rintro (h | h)
      · exact h
      · subst h
        exact hx
  · rw [if_neg hx]
    simp
theorem nodup_foldN (xs : List α) : ∀ {l : List α}, l.Nodup → (xs.foldl addN l).Nodup := by
  induction xs with
  | nil => exact fun h => h
  | cons x xs ih => exact fun h => ih (nodup_addN x h)
theorem mem_foldN (xs : List α) {y : α} : ∀ {l : List α}, y ∈ xs.foldl addN l ↔ y ∈ l ∨ y ∈ xs := by
  induction xs with
  | nil => intro l; simp
  | cons x xs ih =>
    intro l
    show y ∈ xs.foldl addN (addN l x) ↔ _
    rw [ih, mem_addN, List.mem_cons, or_assoc]
theorem nodup_dedup (xs : List α) : (dedup xs).Nodup := nodup_foldN xs List.nodup_nil
theorem mem_dedup {xs : List α} {y : α} : y ∈ dedup xs ↔ y ∈ xs := by
  unfold dedup
  rw [mem_foldN]
  simp
theorem len_foldN (xs : List α) : ∀ {l : List α}, (xs.foldl addN l).length ≤ l.length + xs.length := by
  induction xs with
  | nil => intro l; simp
  | cons x xs ih =>
    intro l
    have h := ih (l := addN l x)
    have h2 : (addN l x).length ≤ l.length + 1 := by
      unfold addN
      split <;> simp
    show (xs.foldl addN (addN l x)).length ≤ _
    rw [List.length_cons]
    omega
theorem len_dedup (xs : List α) : (dedup xs).length ≤ xs.length := by
  have h := len_foldN xs (l := ([] : List α))
  rw [List.length_nil, Nat.zero_add] at h
  exact h
end
/-! ### sorting by insertion -/
section
variable {α : Type} (le : α → α → Bool)
def ins (x : α) : List α → List α
  | [] => [x]
  | y :: r => if le x y = true then x :: y :: r else y :: ins x r
def isort (xs : List α) : List α := xs.foldr (ins le) []
theorem ins_perm (x : α) : ∀ l : List α, (ins le x l).Perm (x :: l)
  | [] => .refl _
  | y :: r => by
    unfold ins
    split
    · exact .refl _
    · exact ((ins_perm x r).cons y).trans (.swap x y r)
theorem isort_perm : ∀ l : List α, (isort le l).Perm l
  | [] => .refl _
  | x :: r => (ins_perm le x _).trans ((isort_perm r).cons x)
theorem ins_sorted (tot : ∀ a b, le a b = true ∨ le b a = true) (tr : ∀ a b c, le a b = true → le b c = true → le a c = true) (x : α) : ∀ {l : List α}, l.Pairwise (fun a b => le a b = true) → (ins le x l).Pairwise fun a b => le a b = true
  | [], _ => by simp [ins]
  | y :: r, h => by
    unfold ins
    have h1 := List.pairwise_cons.mp h
    split
    · rename_i hxy
      exact List.pairwise_cons.mpr ⟨fun z hz => by
        rcases List.mem_cons.mp hz with e | hz
        · rw [e]
          exact hxy
        · exact tr _ _ _ hxy (h1.1 z hz), h⟩
    · rename_i hxy
      refine List.pairwise_cons.mpr ⟨fun z hz => ?_, ins_sorted tot tr x h1.2⟩
      rcases List.mem_cons.mp ((ins_perm le x r).mem_iff.mp hz) with e | hz
      · rw [e]
        exact (tot x y).resolve_left hxy
      · exact h1.1 z hz
theorem isort_sorted (tot : ∀ a b, le a b = true ∨ le b a = true) (tr : ∀ a b c, le a b = true → le b c = true → le a c = true) : ∀ l : List α, (isort le l).Pairwise fun a b => le a b = true
  | [] => .nil
  | x :: r => ins_sorted le tot tr x (isort_sorted tot tr r)
theorem sorted_uniq (anti : ∀ a b, le a b = true → le b a = true → a = b) : ∀ {l m : List α}, l.Pairwise (fun a b => le a b = true) → m.Pairwise (fun a b => le a b = true) → l.Perm m → l = m
  | [], m, _, _, h => (List.Perm.eq_nil h.symm).symm
  | x :: l, [], _, _, h => absurd h.length_eq (by simp)
  | x :: l, y :: m, hl, hm, h => by
    have a := List.pairwise_cons.mp hl
    have b := List.pairwise_cons.mp hm
    have e : x = y := by
      rcases List.mem_cons.mp (h.mem_iff.mp List.mem_cons_self) with e | hx
      · exact e
      · rcases List.mem_cons.mp (h.mem_iff.mpr List.mem_cons_self) with e | hy
        · exact e.symm
        · exact anti _ _ (a.1 y hy) (b.1 x hx)
    subst e
    rw [sorted_uniq anti a.2 b.2 h.cons_inv]
end
def leI (a b : Int) : Bool := decide (a ≤ b)
def sortI (l : List Int) : List Int := isort leI l
theorem sortI_eq {l m : List Int} (p : l.Perm m) (s : l.Pairwise (· ≤ ·)) : l = sortI m :=
  sorted_uniq leI (fun a b h1 h2 => by have := of_decide_eq_true h1; have := of_decide_eq_true h2; omega) (s.imp fun h => decide_eq_true h)
    (isort_sorted leI (fun a b => by by_cases h : a ≤ b; exact .inl (decide_eq_true h); exact .inr (decide_eq_true (by omega))) (fun a b c h1 h2 => by have := of_decide_eq_true h1; have := of_decide_eq_true h2; exact decide_eq_true (by omega)) m) (p.trans (isort_perm leI m).symm)
theorem sortI_perm (l : List Int) : (sortI l).Perm l := isort_perm _ _
theorem sortI_sorted (m : List Int) : (sortI m).Pairwise (· ≤ ·) := (isort_sorted leI (fun a b => by by_cases h : a ≤ b; exact .inl (decide_eq_true h); exact .inr (decide_eq_true (by omega))) (fun a b c h1 h2 => by have := of_decide_eq_true h1; have := of_decide_eq_true h2; exact decide_eq_true (by omega)) m).imp fun h => of_decide_eq_true h
/-- pairs, by the first, then by the second -/
def leP (a b : Int × Int) : Bool := decide (a.1 < b.1 ∨ (a.1 = b.1 ∧ a.2 ≤ b.2))
theorem leP_tot (a b : Int × Int) : leP a b = true ∨ leP b a = true := by
  unfold leP
  rw [decide_eq_true_iff, decide_eq_true_iff]
  omega
theorem leP_tr (a b c : Int × Int) (h1 : leP a b = true) (h2 : leP b c = true) : leP a c = true := by
  unfold leP at *
  rw [decide_eq_true_iff] at *
  omega
theorem leP_anti (a b : Int × Int) (h1 : leP a b = true) (h2 : leP b a = true) : a = b := by
  unfold leP at *
  rw [decide_eq_true_iff] at *
  exact Prod.ext (by omega) (by omega)
def sortP (l : List (Int × Int)) : List (Int × Int) := isort leP l
theorem sortP_eq {l m : List (Int × Int)} (p : l.Perm m) (s : l.Pairwise (fun a b => leP a b = true)) : l = sortP m :=
  sorted_uniq leP leP_anti s (isort_sorted leP leP_tot leP_tr m) (p.trans (isort_perm leP m).symm)
theorem sortP_perm (l : List (Int × Int)) : (sortP l).Perm l := isort_perm _ _
end LM

end
section
set_option autoImplicit false
set_option linter.all false
/-! Rows of numbers: neighbours, sides, pairs: plain mathematics. -/
namespace LM
abbrev P2 := Int × Int
def zipT (row : List Int) : List P2 := row.zip (row.drop 1)
def ones (ps : List P2) : List (P2 × Int) := ps.map fun p => (p, 1)
def counts (row : List Int) : List (P2 × Int) := accs [] (ones (zipT row))
def nums (row : List Int) : List Int := dedup row
/-- what neighbours (a, b), c of them, add to the weights of x -/
def con (x : Int) (p : P2) (c : Int) : List (Int × Int) := (if p.1 = x then [(p.2, c)] else []) ++ (if p.2 = x then [(p.1, c)] else [])
def innerC (cs : List (P2 × Int)) (x : Int) : List (Int × Int) := accs [] (cs.flatMap fun e => con x e.1 e.2)
theorem S_one (k a b x c : Int) : S (fun j => decide (j = k)) (if a = x then [(b, c)] else []) = if (a, b) = (x, k) then c else 0 := by
  by_cases h1 : a = x
  · rw [if_pos h1, S_cons, S_nil, Int.add_zero]
    by_cases h2 : b = k
    · rw [if_pos (decide_eq_true h2), if_pos (by rw [h1, h2])]
    · rw [if_neg (by simpa using h2), if_neg (fun e => h2 (congrArg Prod.snd e))]
  · rw [if_neg h1, S_nil, if_neg (fun e => h1 (congrArg Prod.fst e))]
theorem S_con (x k : Int) (p : P2) (c : Int) : S (fun j => decide (j = k)) (con x p c) = (if p = (x, k) then c else 0) + (if p = (k, x) then c else 0) := by
  obtain ⟨a, b⟩ := p
  unfold con
  rw [S_append, S_one, S_one]
  have e : ((b, a) = ((x, k) : Int × Int)) ↔ ((a, b) = ((k, x) : Int × Int)) := by
    constructor <;> (intro h; cases h; rfl)
  by_cases h : (b, a) = ((x, k) : Int × Int)
  · rw [if_pos h, if_pos (e.mp h)]
  · rw [if_neg h, if_neg (fun z => h (e.mpr z))]
theorem S_flat (x k : Int) : ∀ cs : List (P2 × Int), S (fun j => decide (j = k)) (cs.flatMap fun e => con x e.1 e.2) = S (fun p => decide (p = (x, k))) cs + S (fun p => decide (p = (k, x))) cs
  | [] => rfl
  | e :: cs => by
    rw [List.flatMap_cons, S_append, S_flat x k cs, S_con, S_cons, S_cons]
    simp only [decide_eq_true_eq]
    omega
theorem mem_keys_con (x k : Int) (p : P2) (c : Int) : k ∈ keys (con x p c) ↔ p = (x, k) ∨ p = (k, x) := by
  obtain ⟨a, b⟩ := p
  unfold con keys
  by_cases h1 : a = x <;> by_cases h2 : b = x <;> simp [h1, h2] <;> omega
theorem mem_keys_flat (x k : Int) (cs : List (P2 × Int)) : k ∈ keys (cs.flatMap fun e => con x e.1 e.2) ↔ (x, k) ∈ keys cs ∨ (k, x) ∈ keys cs := by
  induction cs with
  | nil => simp [keys]
  | cons e cs ih =>
    have : k ∈ keys ((e :: cs).flatMap fun e => con x e.1 e.2) ↔ k ∈ keys (con x e.1 e.2) ∨ k ∈ keys (cs.flatMap fun e => con x e.1 e.2) := by
      rw [List.flatMap_cons]
      simp [keys]
    rw [this, ih, mem_keys_con]
    simp only [keys, List.map_cons, List.mem_cons]
    constructor
    · rintro ((h | h) | (h | h))
      · exact .inl (.inl h.symm)
      · exact .inr (.inl h.symm)
      · exact .inl (.inr h)
      · exact .inr (.inr h)
    · rintro ((h | h) | (h | h))
      · exact .inl (.inl h.symm)
      · exact .inr (.inl h)
      · exact .inl (.inr h.symm)
      · exact .inr (.inr h)
theorem nd_nil {κ β : Type} : (keys ([] : List (κ × β))).Nodup := List.nodup_nil
/-- the weights by pairs with counts are those by pairs one by one -/
theorem inner_perm (row : List Int) (x : Int) : (innerC (counts row) x).Perm (innerC (ones (zipT row)) x) := by
  refine perm_of_look (nodup_accs _ nd_nil) (nodup_accs _ nd_nil) fun k => ?_
  unfold innerC
  rw [look_accs nd_nil, look_accs nd_nil]
  have e : ∀ q : P2, q ∈ keys (counts row) ↔ q ∈ keys (ones (zipT row)) := fun q => by
    unfold counts
    rw [keys_accs]
    simp [keys]
  have h1 : (k ∈ keys ([] : List (Int × Int)) ∨ k ∈ keys ((counts row).flatMap fun e => con x e.1 e.2)) ↔ (k ∈ keys ([] : List (Int × Int)) ∨ k ∈ keys ((ones (zipT row)).flatMap fun e => con x e.1 e.2)) := by
    rw [mem_keys_flat, mem_keys_flat, e, e]
  have h2 : S (fun j => decide (j = k)) ((counts row).flatMap fun e => con x e.1 e.2) = S (fun j => decide (j = k)) ((ones (zipT row)).flatMap fun e => con x e.1 e.2) := by
    rw [S_flat, S_flat]
    unfold counts
    rw [S_accs _ _ nd_nil, S_accs _ _ nd_nil, S_nil, S_nil]
    omega
  rw [h2]
  by_cases h : k ∈ keys ([] : List (Int × Int)) ∨ k ∈ keys ((counts row).flatMap fun e => con x e.1 e.2)
  · rw [if_pos h, if_pos (h1.mp h)]
  · rw [if_neg h, if_neg (fun z => h (h1.mpr z))]
/-! ### sides -/
def sumOn (sd : List (Int × Int)) (i : Int) (l : List (Int × Int)) : Int := S (fun b => decide (look sd b = some i)) l
def sideStep (inner : Int → List (Int × Int)) (sd : List (Int × Int)) (x : Int) : List (Int × Int) :=
  put sd x (if sumOn sd 1 (inner x) < sumOn sd 0 (inner x) then 1 else 0)
def sidesAll (inner : Int → List (Int × Int)) (srt : List Int) : List (Int × Int) := srt.foldl (sideStep inner) []
def sv (sd : List (Int × Int)) (x : Int) : Int := (look sd x).getD 0
def ahead (sd : List (Int × Int)) (cs : List (P2 × Int)) : Int := S (fun p => decide (sv sd p.1 < sv sd p.2)) cs
def behind (sd : List (Int × Int)) (cs : List (P2 × Int)) : Int := S (fun p => decide (sv sd p.2 < sv sd p.1)) cs
def leftBy (inner : Int → List (Int × Int)) (cs : List (P2 × Int)) (srt : List Int) : List Int :=
  srt.filter fun x => decide (sv (sidesAll inner srt) x = if ahead (sidesAll inner srt) cs < behind (sidesAll inner srt) cs then 1 else 0)
def leftNums (row : List Int) : List Int := leftBy (innerC (counts row)) (counts row) (sortI (nums row))
theorem sidesAll_perm {i j : Int → List (Int × Int)} (h : ∀ x, (i x).Perm (j x)) (srt : List Int) : sidesAll i srt = sidesAll j srt := by
  unfold sidesAll
  have : sideStep i = sideStep j := by
    funext sd x
    unfold sideStep sumOn
    rw [S_perm _ (h x), S_perm _ (h x)]
  rw [this]
theorem leftBy_ones (row : List Int) (srt : List Int) : leftBy (innerC (ones (zipT row))) (ones (zipT row)) srt = leftBy (innerC (counts row)) (counts row) srt := by
  unfold leftBy
  rw [sidesAll_perm (fun x => (inner_perm row x).symm)]
  have e : ∀ P, S P (counts row) = S P (ones (zipT row)) := fun P => by
    unfold counts
    rw [S_accs _ _ nd_nil, S_nil]
    omega
  unfold ahead behind
  rw [e, e]
/-- the sides are 0 and 1 -/
theorem sidesAll_01 (inner : Int → List (Int × Int)) (srt : List Int) : ∀ {sd : List (Int × Int)}, (∀ k v, look sd k = some v → v = 0 ∨ v = 1) → ∀ k v, look (srt.foldl (sideStep inner) sd) k = some v → v = 0 ∨ v = 1 := by
  induction srt with
  | nil => exact fun h => h
  | cons x srt ih =>
    intro sd h
    refine ih fun k v e => ?_
    unfold sideStep at e
    rw [look_put] at e
    by_cases hk : k = x
    · rw [if_pos hk] at e
      have := Option.some.inj e
      subst this
      split <;> omega
    · rw [if_neg hk] at e
      exact h k v e
theorem keys_sides (inner : Int → List (Int × Int)) (srt : List Int) (k : Int) : ∀ {sd : List (Int × Int)}, k ∈ keys (srt.foldl (sideStep inner) sd) ↔ k ∈ keys sd ∨ k ∈ srt := by
  induction srt with
  | nil => intro sd; simp
  | cons x srt ih =>
    intro sd
    show k ∈ keys (srt.foldl (sideStep inner) (sideStep inner sd x)) ↔ _
    rw [ih]
    unfold sideStep
    rw [keys_put, List.mem_cons]
    by_cases h : x ∈ keys sd
    · rw [if_pos h]
      constructor
      · rintro (a | a)
        · exact .inl a
        · exact .inr (.inr a)
      · rintro (a | a | a)
        · exact .inl a
        · subst a
          exact .inl h
        · exact .inr a
    · rw [if_neg h]
      simp [or_assoc]
theorem keys_sides_eq (inner : Int → List (Int × Int)) : ∀ (srt : List Int) {sd : List (Int × Int)}, srt.Nodup → (∀ x ∈ srt, x ∉ keys sd) → keys (srt.foldl (sideStep inner) sd) = keys sd ++ srt
  | [], sd, _, _ => by simp
  | x :: srt, sd, nd, h => by
    have n2 := List.nodup_cons.mp nd
    have e : keys (sideStep inner sd x) = keys sd ++ [x] := by
      unfold sideStep
      rw [keys_put, if_neg (h x List.mem_cons_self)]
    show keys (srt.foldl (sideStep inner) (sideStep inner sd x)) = _
    rw [keys_sides_eq inner srt n2.2 fun y hy => ?_, e]
    · simp
    · rw [e, List.mem_append, List.mem_singleton, not_or]
      exact ⟨h y (List.mem_cons_of_mem _ hy), fun q => n2.1 (q ▸ hy)⟩
/-! ### pairs -/
def isK (lf : Int → Bool) (p : P2) : Bool := lf p.1 && !lf p.2
def pkeys (row : List Int) (lf : Int → Bool) : List P2 := dedup ((zipT row).filter (isK lf))
def pairsOf (row : List Int) (lf : Int → Bool) : List P2 := sortP (pkeys row lf)
def numOf (ps : List P2) (used : Int) (p : P2) : Int := used + (ps.idxOf p : Nat)
def prow (ps : List P2) (used : Int) : List Int → List Int
  | [] => []
  | [a] => [a]
  | a :: b :: r => if (a, b) ∈ ps then numOf ps used (a, b) :: prow ps used r else a :: prow ps used (b :: r)
/-- the same, one number after the other: is the one ahead the first of a pair with it? -/
def lrow (ps : List P2) (used : Int) : Bool → List Int → List Int
  | _, [] => []
  | true, [_] => []
  | false, [a] => [a]
  | true, a :: b :: r => lrow ps used (decide ((a, b) ∈ ps)) (b :: r)
  | false, a :: b :: r => (if (a, b) ∈ ps then numOf ps used (a, b) else a) :: lrow ps used (decide ((a, b) ∈ ps)) (b :: r)
theorem lrow_prow {ps : List P2} {used : Int} {lf : Int → Bool} (h : ∀ p ∈ ps, isK lf p = true) : ∀ row : List Int, lrow ps used false row = prow ps used row
  | [] => rfl
  | [a] => rfl
  | [a, b] => by
    unfold lrow prow
    by_cases hp : (a, b) ∈ ps
    · rw [if_pos hp, if_pos hp, decide_eq_true hp]
      rfl
    · rw [if_neg hp, if_neg hp, decide_eq_false hp]
      rfl
  | a :: b :: c :: r => by
    unfold lrow prow
    by_cases hp : (a, b) ∈ ps
    · rw [if_pos hp, if_pos hp, decide_eq_true hp]
      have hb : (b, c) ∉ ps := fun q => by
        have h1 := h _ hp
        have h2 := h _ q
        unfold isK at h1 h2
        simp only [Bool.and_eq_true, Bool.not_eq_true'] at h1 h2
        rw [h1.2] at h2
        cases h2.1
      show _ :: lrow ps used (decide ((b, c) ∈ ps)) (c :: r) = _
      rw [decide_eq_false hb, lrow_prow h (c :: r)]
    · rw [if_neg hp, if_neg hp, decide_eq_false hp, lrow_prow h (b :: c :: r)]
def pairRow (row : List Int) (lf : Int → Bool) (used : Int) : List Int × List P2 := (prow (pairsOf row lf) used row, pairsOf row lf)
theorem pairs_isK (row : List Int) (lf : Int → Bool) : ∀ p ∈ pairsOf row lf, isK lf p = true := fun p hp => by
  have h1 := (sortP_perm _).mem_iff.mp hp
  have h2 := mem_dedup.mp h1
  exact (List.mem_filter.mp h2).2
theorem pairs_nodup (row : List Int) (lf : Int → Bool) : (pairsOf row lf).Nodup := (sortP_perm _).nodup_iff.mpr (nodup_dedup _)
theorem mem_pairs {row : List Int} {lf : Int → Bool} {p : P2} : p ∈ pairsOf row lf ↔ p ∈ zipT row ∧ isK lf p = true := by
  unfold pairsOf pkeys
  rw [(sortP_perm _).mem_iff, mem_dedup, List.mem_filter]
/-- the pairs with their numbers, as a table -/
def numTab (ps : List P2) (used : Int) : List (P2 × Int) := (List.range ps.length).map fun i => (ps.getD i (0, 0), used + (i : Nat))
theorem look_numTab {ps : List P2} (nd : ps.Nodup) (used : Int) (p : P2) : look (numTab ps used) p = if p ∈ ps then some (numOf ps used p) else none := by
  by_cases h : p ∈ ps
  · rw [if_pos h]
    have hi := List.idxOf_lt_length_of_mem h
    have hk : keys (numTab ps used) = ps := by
      unfold keys numTab
      rw [List.map_map]
      apply List.ext_getElem
      · simp
      · intro i h1 h2
        simp [List.getElem_map, h2]
    refine look_of_mem (by rw [hk]; exact nd) ?_
    unfold numTab
    refine List.mem_map.mpr ⟨ps.idxOf p, List.mem_range.mpr hi, ?_⟩
    unfold numOf
    rw [List.getD_eq_getElem?_getD, List.getElem?_eq_getElem hi]
    simp
  · rw [if_neg h, look_none]
    intro q
    apply h
    unfold keys numTab at q
    rw [List.map_map] at q
    obtain ⟨i, hi, e⟩ := List.mem_map.mp q
    have hl := List.mem_range.mp hi
    rw [← e]
    show ps.getD i (0, 0) ∈ ps
    rw [List.getD_eq_getElem?_getD, List.getElem?_eq_getElem hl]
    exact List.getElem_mem hl
end LM

end
section
set_option Elab.async false
set_option linter.all false
set_option maxRecDepth 100000
/-! LR: more rules over the layer: zip and enumerate over lists and tuples in any mix. -/
namespace LR
open PySem PySem.Spec PyProof.Rows L2

/-! ### a list (false) or a tuple (true) that is read -/
def SqA (k : Bool) (K : PySem.W.Frag) (H : Hp) (a : Addr) (xs : List V) : Prop := match k with | true => SqT K H a xs | false => SqL K H a xs
def ItrA (k : Bool) (h : Heap) (it a : Addr) (i : Nat) : Prop := match k with | true => h.IsTupleIter it a i | false => h.IsListIter it a i
def IsA (k : Bool) (h : Heap) (a : Addr) (its : Array Value) : Prop := match k with | true => h.IsTuple a its | false => h.IsList a its
def itrO (k : Bool) (a : Addr) : Obj := match k with | true => { cls := .type "tuple_iterator", data := .fields #[.ref a, .int 0 0] } | false => { cls := .type "list_iterator", data := .fields #[.ref a, .int 0 0] }
theorem drawsA (k : Bool) {prog : Program} {w : World} {A : Around} (hh : A.handled = none) (it a : Addr) (hne : a ≠ it) (items : Array Value) :
    Draws prog w A it [it, a] items.size (fun i v => items[i]? = some v) (fun i h => ItrA k h it a i ∧ IsA k h a items) := by
  cases k with
  | true => exact Draws.tuple hh it a hne items
  | false => exact Draws.list hh it a hne items
theorem beginsA (k : Bool) (a : Addr) (items : Array Value) : Begins (.ref a) (itrO k a) fun h => IsA k h a items := by
  cases k with
  | true => exact begins_tuple a items
  | false => exact begins_list a items
theorem itrA_0 {k : Bool} {h : Heap} {it a : Addr} (e : h.get? it = some (itrO k a)) : ItrA k h it a 0 := by
  cases k with
  | true => exact ⟨_, e, rfl, rfl⟩
  | false => exact ⟨_, e, rfl, rfl⟩
theorem ItrA.at {k : Bool} {h h' : Heap} {it a : Addr} {i : Nat} (x : ItrA k h it a i) (e : ∀ o, h.get? it = some o → h'.get? it = some o) : ItrA k h' it a i := by
  cases k with
  | true => exact Heap.IsTupleIter.at x e
  | false => exact Heap.IsListIter.at x e
theorem ItrA.obj {k : Bool} {h : Heap} {it a : Addr} {i : Nat} (x : ItrA k h it a i) : ∃ o, h.get? it = some o ∧ ∀ v, o.data ≠ .cell v := by
  cases k with
  | true =>
    obtain ⟨o, e, _, d⟩ := x
    exact ⟨o, e, fun v q => by rw [d] at q; cases q⟩
  | false =>
    obtain ⟨o, e, _, d⟩ := x
    exact ⟨o, e, fun v q => by rw [d] at q; cases q⟩
section
variable {X : Cx} {pins : List (Addr × Obj)} {σ : L2.St} {H : Hp} {s : Shared} {a : Addr} {xs ys : List V} {k : Bool}
theorem seqA (I : Inv X pins σ H s) (h : SqA k X.K H a xs) : ∃ its : List Value, Vals xs its ∧ IsA k s.heap a its.toArray ∧ xs.length ≤ sizeLine ∧ a < s.heap.objs.size := by
  cases k with
  | true =>
    obtain ⟨its, r, p, z⟩ := I.tuple h
    exact ⟨its, r, p, z, p.lt⟩
  | false =>
    obtain ⟨its, r, p, z⟩ := I.list h
    exact ⟨its, r, p.isList, z, p.lt⟩
theorem seqA_inj (I : Inv X pins σ H s) (h : SqA k X.K H a xs) (h' : SqA k X.K H a ys) : xs = ys := by
  cases k with
  | true => exact I.tuple_inj h h'
  | false => exact I.list_inj h h'
end

/-! ### zip(x, y) -/
def Itz2 (k1 k2 : Bool) (K : PySem.W.Frag) (a b : Addr) : It :=
  ⟨fun i H => ∃ (xs ys : List V) (x y : V), SqA k1 K H a xs ∧ SqA k2 K H b ys ∧ xs[i]? = some x ∧ ys[i]? = some y,
    fun i H v H' => ∃ T x y, v = .ref T ∧ H T = none ∧ H' = upd H T (.tup [x, y]) ∧ (∀ xs, SqA k1 K H a xs → xs[i]? = some x) ∧ ∀ ys, SqA k2 K H b ys → ys[i]? = some y,
    fun i H => ∃ xs ys : List V, SqA k1 K H a xs ∧ SqA k2 K H b ys ∧ i = min xs.length ys.length⟩
theorem turn_zip2 {P : Program} {w : World} {K : PySem.W.Frag} {elts : List Expr} {kk : Nat} {tpos : Pos} {a b z TI TO i1 i2 : Addr} {k1 k2 : Bool} (D : ZipSep2 z TI TO i1 i2 [i1, a] [i2, b]) (na : a ≠ i1) (nb : b ≠ i2) :
    Turn P w K (.Tuple elts kk tpos) (Itz2 k1 k2 K a b) [z, TI, TO, i1, i2] z (fun i h => IsZip h z TI TO .none ∧ IsTupOf2 h TI (.ref i1) (.ref i2) ∧ (∃ x y, IsTupOf2 h TO x y) ∧ ItrA k1 h i1 a i ∧ ItrA k2 h i2 b i) where
  mem := by simp
  obj := fun i h st c hc => by
    obtain ⟨hz, hTI, ⟨x, y, hTO⟩, h1, h2⟩ := st
    have e' : c = z ∨ c = TI ∨ c = TO ∨ c = i1 ∨ c = i2 := by simpa using hc
    rcases e' with q | q | q | q | q
    · rw [q]; exact ⟨_, hz, fun v q => nomatch q⟩
    · rw [q]; exact ⟨_, hTI, fun v q => nomatch q⟩
    · rw [q]; exact ⟨_, hTO, fun v q => nomatch q⟩
    · rw [q]; exact h1.obj
    · rw [q]; exact h2.obj
  keep := fun i h h' st k => by
    obtain ⟨hz, hTI, ⟨x, y, hTO⟩, h1, h2⟩ := st
    exact ⟨k z (by simp) _ hz, k TI (by simp) _ hTI, ⟨x, y, k TO (by simp) _ hTO⟩, h1.at fun o q => k i1 (by simp) o q, h2.at fun o q => k i2 (by simp) o q⟩
  item := by
    intro X hP hw hK hc i pins s σ H E I hf st hg
    subst hP hw hK
    obtain ⟨hz, hTI, hTO, h1, h2⟩ := st
    obtain ⟨xs, ys, x, y, hqx, hqy, hx, hy⟩ := hg
    obtain ⟨its, rv, p, _, _⟩ := seqA I hqx
    obtain ⟨its2, rv2, p2, _, _⟩ := seqA I hqy
    have lx := (List.getElem?_eq_some_iff.mp hx).1
    have ly := (List.getElem?_eq_some_iff.mp hy).1
    have l1 := rv.length
    have l2 := rv2.length
    have hh : X.A.in1.handled = none := I.ok.hd hc
    have G := GoesN.zip2 (prog := X.prog) (w := X.w) (A := X.A) (elts := elts) (x1 := kk) (pos := tpos) D (drawsA k1 hh i1 a na its.toArray) (drawsA k2 hh i2 b nb its2.toArray)
    have hlt : i < min its.toArray.size its2.toArray.size := by
      rw [List.size_toArray, List.size_toArray]
      omega
    refine G.goes i s _ E hlt ⟨hz, hTI, hTO, ⟨h1, p⟩, ⟨h2, p2⟩⟩ fun v h' tk hY st' hk htk => ?_
    obtain ⟨T, u, u2, rfl, hT, hu, hu2, hTT⟩ := hY
    obtain ⟨z', TI', TO', ⟨h1', _⟩, ⟨h2', _⟩⟩ := st'
    obtain ⟨w1, e1, r1⟩ := rv.get hx
    obtain ⟨w2, e2, r2⟩ := rv2.get hy
    have q1 : u = w1 := by
      rw [List.getElem?_toArray, e1] at hu
      exact (Option.some.inj hu).symm
    have q2 : u2 = w2 := by
      rw [List.getElem?_toArray, e2] at hu2
      exact (Option.some.inj hu2).symm
    subst q1 q2
    have new : ObjOk X.prog X.w (upd H T (.tup [x, y])) h' T (.tup [x, y]) :=
      ⟨by show 2 ≤ sizeLine; decide, [u, u2], .cons r1 (.cons r2 .nil), hTT⟩
    have I1 : L2.Inv X pins σ (upd H T (.tup [x, y])) { s with heap := h', toks := tk } :=
      I.turnedNew (t' := tk) (ch := [z, TI, TO, i1, i2]) (fun c o hb q => hk c o (fun m => hb (by
        have e' : c = z ∨ c = TO ∨ c = i1 ∨ c = i2 := by simpa using m
        rcases e' with q | q | q | q <;> simp [q])) q) hf hT new
    refine ⟨.ref T, _, I1, rfl, ⟨_, x, y, rfl, I.hok.fresh hT, rfl, fun l hl => by rw [seqA_inj I hl hqx]; exact hx, fun l hl => by rw [seqA_inj I hl hqy]; exact hy⟩, ⟨z', TI', TO', h1', h2'⟩, fun c hcm => ?_⟩
    have hlt : c < s.heap.objs.size := by
      have e' : c = z ∨ c = TI ∨ c = TO ∨ c = i1 ∨ c = i2 := by simpa using hcm
      rcases e' with q | q | q | q | q
      · rw [q]; exact Heap.lt_size hz
      · rw [q]; exact Heap.lt_size hTI
      · obtain ⟨_, _, hTO⟩ := hTO
        rw [q]; exact Heap.lt_size hTO
      · obtain ⟨_, e1, _⟩ := h1.obj
        rw [q]; exact Heap.lt_size e1
      · obtain ⟨_, e1, _⟩ := h2.obj
        rw [q]; exact Heap.lt_size e1
    rw [upd_ne (Nat.ne_of_lt (Nat.lt_of_lt_of_le hlt hT))]
    exact (hf c hcm).1
  done := by
    intro X hP hw hK hc i pins s σ H E I hf st hg
    subst hP hw hK
    obtain ⟨hz, hTI, hTO, h1, h2⟩ := st
    obtain ⟨xs, ys, hqx, hqy, hi⟩ := hg
    obtain ⟨its, rv, p, _, _⟩ := seqA I hqx
    obtain ⟨its2, rv2, p2, _, _⟩ := seqA I hqy
    have l1 := rv.length
    have l2 := rv2.length
    have hh : X.A.in1.handled = none := I.ok.hd hc
    have G := GoesN.zip2 (prog := X.prog) (w := X.w) (A := X.A) (elts := elts) (x1 := kk) (pos := tpos) D (drawsA k1 hh i1 a na its.toArray) (drawsA k2 hh i2 b nb its2.toArray)
    have hi' : i = min its.toArray.size its2.toArray.size := by
      rw [List.size_toArray, List.size_toArray]
      omega
    subst hi'
    exact G.stops s (fun s1 => L2.Inv X pins σ H s1) E ⟨hz, hTI, hTO, ⟨h1, p⟩, ⟨h2, p2⟩⟩ fun h' tk hk htk => I.turnedL (t' := tk) (ch := [z, TI, TO, i1, i2]) (fun c o hb q => hk c o (fun m => hb (by
        have e' : c = z ∨ c = TO ∨ c = i1 ∨ c = i2 := by simpa using m
        rcases e' with q | q | q | q <;> simp [q])) q) hf
  self := fun A i s Q E st h => wpAny_pyIter_zip st.1 h
def iZip2 (k1 k2 : Bool) (K : PySem.W.Frag) (ta : TA) : TI := fun σ H R => ta σ H fun vs H1 => ∃ a b xs ys, vs = [.ref a, .ref b] ∧ SqA k1 K H1 a xs ∧ SqA k2 K H1 b ys ∧ R (Itz2 k1 k2 K a b) H1
/-- for x, y in zip(a, b): each a list (false) or a tuple (true) -/
theorem pi_zip2 {X : Cx} (k1 k2 : Bool) {e e2 : Expr} {ta : TA} {p pos tpos : Pos} {elts : List Expr} {kk : Nat} (hg : Gl X "zip") (hm : X.mg "zip" = none) (ha : PA X [e, e2] ta)
    (hs : starEach [e, e2] X.env = (false, eval e X.env) :: starEach [e2] X.env := by rfl) (hpl : (backTo pos (starEach [e2] X.env)).any (·.1) = false := by rfl) :
    PI X (.Tuple elts kk tpos) (.Call (.Name "zip" p) [e, e2] [] pos) (iZip2 k1 k2 X.K ta) := by
  refine ⟨fun pins s σ H R I h => ?_⟩
  refine Call_ (ld_blt I hg hm PyProof.Rows.boot_zip (PyProof.Rows.callWith_type1 (thn (ha.run pos pins s σ H _ I h) fun us s1 ⟨vs, H1, I1, r1, q1⟩ => ?_) hs hpl))
  obtain ⟨a, b, xs, ys, ex, hqx, hqy, q⟩ := q1
  subst ex
  cases r1 with
  | cons r rr =>
    cases rr with
    | cons r' rr =>
      cases rr
      cases r
      cases r'
      obtain ⟨its, rv, p1, _, la⟩ := seqA I1 hqx
      obtain ⟨its2, rv2, p2, _, lb⟩ := seqA I1 hqy
      refine zip_begins2 (beginsA k1 a its.toArray) (beginsA k2 b its2.toArray) p1 p2 fun h' hz hTI hTO h1 h2 hsz hk => wpAny_pyIter_zip hz ?_
      have I2 : L2.Inv X pins σ H1 { s1 with heap := h' } := I1.kept (t' := s1.toks) hk
      refine ⟨s1.heap.objs.size + 4, [s1.heap.objs.size + 4, s1.heap.objs.size + 2, s1.heap.objs.size + 3, s1.heap.objs.size, s1.heap.objs.size + 1], _, _, H1, rfl, I2, turn_zip2 (zip_sep2 (by simpa using la) (by simpa using lb)) (Nat.ne_of_lt la) (Nat.ne_of_lt (Nat.lt_succ_of_lt lb)), ⟨hz, hTI, ⟨_, _, hTO⟩, itrA_0 h1, itrA_0 h2⟩, fun c hcm => ?_, q⟩
      have e' : c = s1.heap.objs.size + 4 ∨ c = s1.heap.objs.size + 2 ∨ c = s1.heap.objs.size + 3 ∨ c = s1.heap.objs.size ∨ c = s1.heap.objs.size + 1 := by simpa using hcm
      have hle : s1.heap.objs.size ≤ c := by
        rcases e' with z | z | z | z | z
        · rw [z]; exact Nat.le_add_right _ _
        · rw [z]; exact Nat.le_add_right _ _
        · rw [z]; exact Nat.le_add_right _ _
        · rw [z]; exact Nat.le_refl _
        · rw [z]; exact Nat.le_add_right _ _
      exact I1.fpOk hle (I1.hok.fresh hle)

/-! ### enumerate(x) -/
def Ite2 (k : Bool) (K : PySem.W.Frag) (a : Addr) : It :=
  ⟨fun i H => ∃ (xs : List V) (x : V), SqA k K H a xs ∧ xs[i]? = some x, fun i H v H' => ∃ T x, v = .ref T ∧ H T = none ∧ H' = upd H T (.tup [.int (i : Nat), x]) ∧ ∀ xs, SqA k K H a xs → xs[i]? = some x, fun i H => ∃ xs : List V, SqA k K H a xs ∧ i = xs.length⟩
theorem turn_enum2 {P : Program} {w : World} {K : PySem.W.Frag} {elts : List Expr} {kk : Nat} {tpos : Pos} {a e it : Addr} {k : Bool} (hei : e ≠ it) (nea : e ≠ a) (na : a ≠ it) :
    Turn P w K (.Tuple elts kk tpos) (Ite2 k K a) [e, it] e (fun i h => (∃ old, IsEnum h e it ((i : Nat) : Int) old) ∧ ItrA k h it a i) where
  mem := by simp
  obj := fun i h st b hb => by
    obtain ⟨⟨old, he⟩, h1⟩ := st
    have e' : b = e ∨ b = it := by simpa using hb
    rcases e' with z | z
    · rw [z]; exact ⟨_, he, fun v q => nomatch q⟩
    · rw [z]; exact h1.obj
  keep := fun i h h' st k => let ⟨⟨old, he⟩, hi⟩ := st; ⟨⟨old, k e (by simp) _ he⟩, hi.at fun o q => k it (by simp) o q⟩
  item := by
    intro X hP hw hK hc i pins s σ H E I hf st hg
    subst hP hw hK
    obtain ⟨⟨old, he⟩, h1⟩ := st
    obtain ⟨xs, x, hqx, hx⟩ := hg
    obtain ⟨its, rv, p, _, _⟩ := seqA I hqx
    have lx := (List.getElem?_eq_some_iff.mp hx).1
    have l1 := rv.length
    have hh : X.A.in1.handled = none := I.ok.hd hc
    have G := GoesN.enumFrom (prog := X.prog) (w := X.w) (A := X.A) (elts := elts) (x1 := kk) (pos := tpos) 0 (drawsA k hh it a na its.toArray) e hei (by simp [hei, nea]) (by simp)
    have hlt : i < its.toArray.size := by
      rw [List.size_toArray]
      omega
    have hz : (0 : Int) + (i : Int) = (i : Int) := Int.zero_add _
    refine G.goes i s _ E hlt ⟨⟨old, by rw [hz]; exact he⟩, ⟨h1, p⟩⟩ fun v h' tk hY st' hk htk => ?_
    obtain ⟨T, t, u, rfl, hT, hu, hTT⟩ := hY
    rw [hz] at hTT
    obtain ⟨⟨old', he'⟩, ⟨h1', _⟩⟩ := st'
    have hz' : (0 : Int) + ((i + 1 : Nat) : Int) = ((i + 1 : Nat) : Int) := Int.zero_add _
    rw [hz'] at he'
    obtain ⟨w1, e1, r1⟩ := rv.get hx
    have q1 : u = w1 := by
      rw [List.getElem?_toArray, e1] at hu
      exact (Option.some.inj hu).symm
    subst q1
    have new : ObjOk X.prog X.w (upd H T (.tup [.int (i : Nat), x])) h' T (.tup [.int (i : Nat), x]) :=
      ⟨by show 2 ≤ sizeLine; decide, [.int i t, u], .cons ⟨_, rfl⟩ (.cons r1 .nil), hTT⟩
    have I1 : L2.Inv X pins σ (upd H T (.tup [.int (i : Nat), x])) { s with heap := h', toks := tk } :=
      I.turnedNew (t' := tk) (ch := [e, it]) (fun c o hb q => hk c o hb q) hf hT new
    refine ⟨.ref T, _, I1, rfl, ⟨_, x, rfl, I.hok.fresh hT, rfl, fun l hl => by rw [seqA_inj I hl hqx]; exact hx⟩, ⟨⟨old', he'⟩, h1'⟩, fun c hcm => ?_⟩
    have hlt : c < s.heap.objs.size := by
      have e' : c = e ∨ c = it := by simpa using hcm
      rcases e' with q | q
      · rw [q]; exact Heap.lt_size he
      · obtain ⟨_, e1, _⟩ := h1.obj
        rw [q]; exact Heap.lt_size e1
    rw [upd_ne (Nat.ne_of_lt (Nat.lt_of_lt_of_le hlt hT))]
    exact (hf c hcm).1
  done := by
    intro X hP hw hK hc i pins s σ H E I hf st hg
    subst hP hw hK
    obtain ⟨⟨old, he⟩, h1⟩ := st
    obtain ⟨xs, hqx, hi⟩ := hg
    obtain ⟨its, rv, p, _, _⟩ := seqA I hqx
    have l1 := rv.length
    have hh : X.A.in1.handled = none := I.ok.hd hc
    have G := GoesN.enumFrom (prog := X.prog) (w := X.w) (A := X.A) (elts := elts) (x1 := kk) (pos := tpos) 0 (drawsA k hh it a na its.toArray) e hei (by simp [hei, nea]) (by simp)
    have hi' : i = its.toArray.size := by
      rw [List.size_toArray]
      omega
    subst hi'
    exact G.stops s (fun s1 => L2.Inv X pins σ H s1) E ⟨⟨old, by rw [Int.zero_add]; exact he⟩, ⟨h1, p⟩⟩ fun h' tk hk htk => I.turnedL (t' := tk) (ch := [e, it]) (fun c o hb q => hk c o hb q) hf
  self := fun A i s Q E st h => let ⟨⟨_, he⟩, _⟩ := st; wpAny_pyIter_enum he h

set_option maxHeartbeats 1000000 in
theorem meets_enumerate_newB1 {v : Value} {o : Obj} {H : Heap → Prop} (B : Begins v o H) :
    Meets (Builtin.«enumerate.__new__» ⟨[.type "enumerate", v], []⟩) (fun _ R s => H s.heap ∧
      R (.ok (.ret (.ref (s.heap.push o).objs.size))) { s with heap := (s.heap.push o).push { cls := .type "enumerate", data := .fields #[.none, .bool false, .ref s.heap.objs.size, rawInt 0, .none, .none] } }) :=
  .of_wp fun prog w A R s h => by
    obtain ⟨hp, g, d, tk, os⟩ := s; obtain ⟨h1, h⟩ := h
    have hsub := sub_enumerate
    have q1 : ∀ {A' : Around} {E : Value → Shared → Prop} {Q : Value → Shared → Prop}, Q (.ref hp.objs.size) ⟨hp.push o, g, d, tk, os⟩ → wpAny (model prog w) A' (pyIter v) Q E ⟨hp, g, d, tk, os⟩ :=
      fun q => B.iter prog w _ _ ⟨hp, g, d, tk, os⟩ _ h1 q
    wp_walk using q1
    refine wpAny_stack_any fun st => wpAny_pure ?_
    split
    · rename_i c _ _ _ _ _
      cases (c == Value.type "enumerate")
      · wp_walk using q1
        exact ⟨_, rfl, h⟩
      · wp_walk using q1
        exact ⟨_, rfl, h⟩
    · wp_walk using q1
      exact ⟨_, rfl, h⟩
theorem enum_begins1 {prog : Program} {w : World} {A : Around} {E : Value → Shared → Prop} {s : Shared} {v : Value} {o : Obj} {H : Heap → Prop} {Q : Value → Shared → Prop} (B : Begins v o H) (h1 : H s.heap)
    (h : ∀ h', IsEnum h' (s.heap.objs.size + 1) s.heap.objs.size 0 .none → h'.get? s.heap.objs.size = some o → h'.objs.size = s.heap.objs.size + 2 →
      (∀ b o, s.heap.get? b = some o → h'.get? b = some o) → Q (.ref (s.heap.objs.size + 1)) { s with heap := h' }) :
    wpAny (model prog w) A (call (.type "enumerate") [v]) Q E s := by
  refine callType_new F.called_enumerate (by decide) (F.typeCall_enumerate_1 _) (F.newCall_enumerate_1 _) (fun obj => F.args_object_init_2 obj _) F.entry_enumerate_new
    (meets_enumerate_newB1 B) ⟨h1, ?_⟩
  have hz : (s.heap.push o).objs.size = s.heap.objs.size + 1 := Heap.size_push ..
  show _ ∧ _
  rw [hz]
  have he : IsEnum ((s.heap.push o).push { cls := .type "enumerate", data := .fields #[.none, .bool false, .ref s.heap.objs.size, rawInt 0, .none, .none] }) (s.heap.objs.size + 1) s.heap.objs.size 0 .none := by
    have := Heap.get?_push_size (s.heap.push o) (o := { cls := .type "enumerate", data := .fields #[.none, .bool false, .ref s.heap.objs.size, rawInt 0, .none, .none] }) rfl
    rw [hz] at this; exact this
  refine ⟨⟨_, he, rfl⟩, h _ he (Heap.get?_push_of_some _ (Heap.get?_push_size _ B.free)) (by rw [Heap.size_push, hz]) fun b o x => Heap.get?_push_of_some _ (Heap.get?_push_of_some _ x)⟩
def iEnum2 (k : Bool) (K : PySem.W.Frag) (ta : TA) : TI := fun σ H R => ta σ H fun vs H1 => ∃ a xs, vs = [.ref a] ∧ SqA k K H1 a xs ∧ R (Ite2 k K a) H1
/-- for i, x in enumerate(a) -/
theorem pi_enum2 {X : Cx} (k : Bool) {e : Expr} {ta : TA} {p pos tpos : Pos} {elts : List Expr} {kk : Nat} (hg : Gl X "enumerate") (hm : X.mg "enumerate" = none) (ha : PA X [e] ta) (hs : starEach [e] X.env = [(false, eval e X.env)] := by rfl) :
    PI X (.Tuple elts kk tpos) (.Call (.Name "enumerate" p) [e] [] pos) (iEnum2 k X.K ta) := by
  refine ⟨fun pins s σ H R I h => ?_⟩
  refine Call_ (ld_blt I hg hm boot_enumerate (PyProof.Rows.callWith_type1 (thn (ha.run pos pins s σ H _ I h) fun us s1 ⟨vs, H1, I1, r1, q1⟩ => ?_) hs rfl))
  obtain ⟨a, xs, ex, hq, q⟩ := q1
  subst ex
  cases r1 with
  | cons r rr =>
    cases rr
    cases r
    obtain ⟨its, rv, p', hz, la⟩ := seqA I1 hq
    refine enum_begins1 (beginsA k a its.toArray) p' fun h' he hit hsz hk => wpAny_pyIter_enum he ?_
    have I2 : L2.Inv X pins σ H1 { s1 with heap := h' } := I1.kept (t' := s1.toks) hk
    refine ⟨s1.heap.objs.size + 1, [s1.heap.objs.size + 1, s1.heap.objs.size], _, _, H1, rfl, I2, turn_enum2 (a := a) (it := s1.heap.objs.size) (Nat.succ_ne_self _) (Nat.ne_of_gt (Nat.lt_succ_of_lt la)) (Nat.ne_of_lt la), ⟨⟨.none, he⟩, itrA_0 hit⟩, fun b hb => ?_, q⟩
    have e' : b = s1.heap.objs.size + 1 ∨ b = s1.heap.objs.size := by simpa using hb
    have hle : s1.heap.objs.size ≤ b := by
      rcases e' with z | z
      · rw [z]; exact Nat.le_add_right _ _
      · rw [z]; exact Nat.le_refl _
    exact I1.fpOk hle (I1.hok.fresh hle)
end LR

end
section
set_option Elab.async false
set_option linter.all false
set_option maxRecDepth 100000
set_option maxHeartbeats 4000000
/-! LS: sorted of lists, dicts and sets of any size, told as the one sorted list. -/
namespace LS
open PySem PySem.Spec PyProof.Rows L2 LM

/-! ### pairs of ints that stand in the heap -/
def AtP (H : Hp) (b : Addr) (q : Int × Int) : Prop := H b = some (.tup [.int q.1, .int q.2])
abbrev AtPs (H : Hp) (bs : List Addr) (ps : List (Int × Int)) : Prop := Paired (AtP H) bs ps
def kH (H : Hp) : V → Int × Int
  | .ref t => match H t with
    | some (.tup [.int i, .int j]) => (i, j)
    | _ => (0, 0)
  | _ => (0, 0)
theorem kH_at {H : Hp} {b : Addr} {q : Int × Int} (h : AtP H b q) : kH H (.ref b) = q := by
  have e : H b = some (.tup [.int q.1, .int q.2]) := h
  show (match H b with | some (.tup [.int i, .int j]) => (i, j) | _ => (0, 0)) = q
  rw [e]
theorem kH_map {H : Hp} : ∀ {bs : List Addr} {ps : List (Int × Int)}, AtPs H bs ps → bs.map (fun b => kH H (.ref b)) = ps
  | _, _, .nil => rfl
  | _, _, .cons r t => by
    rw [List.map_cons, kH_at r, kH_map t]
theorem atPs_mem {H : Hp} {bs : List Addr} {ps : List (Int × Int)} (h : AtPs H bs ps) : ∀ b ∈ bs, AtP H b (kH H (.ref b)) := by
  induction h with
  | nil => exact fun _ h => nomatch h
  | cons r t ih =>
    intro b hb
    rcases List.mem_cons.mp hb with e | hb
    · subst e
      rw [kH_at r]
      exact r
    · exact ih b hb
theorem atPs_of {H : Hp} : ∀ {bs : List Addr}, (∀ b ∈ bs, AtP H b (kH H (.ref b))) → AtPs H bs (bs.map fun b => kH H (.ref b))
  | [], _ => .nil
  | b :: bs, h => .cons (h b List.mem_cons_self) (atPs_of fun c hc => h c (List.mem_cons_of_mem _ hc))
theorem lexB_leP (a b : Int × Int) : SrtO.lexB b a = false → leP a b = true := fun h => by
  have := SrtO.lexB_no.mp h
  unfold leP
  rw [decide_eq_true_iff]
  omega
/-- what a sort by pairs leaves is the one sorted list -/
theorem sorted_refs {H : Hp} {bs : List Addr} {ps : List (Int × Int)} {ys : List V} (h : AtPs H bs ps) (s : SrtO.Srtd (ltP (kH H)) ys) (p : ys.Perm (bs.map V.ref)) : ∃ cs, ys = cs.map V.ref ∧ AtPs H cs (sortP ps) := by
  have hr : ∀ y ∈ ys, ∃ b ∈ bs, y = V.ref b := fun y hy => by
    obtain ⟨b, hb, e⟩ := List.mem_map.mp (p.mem_iff.mp hy)
    exact ⟨b, hb, e.symm⟩
  have hcs : ∃ cs : List Addr, ys = cs.map V.ref ∧ ∀ c ∈ cs, c ∈ bs := by
    clear s p
    induction ys with
    | nil => exact ⟨[], rfl, fun _ h => nomatch h⟩
    | cons y ys ih =>
      obtain ⟨b, hb, e⟩ := hr y List.mem_cons_self
      obtain ⟨cs, e2, h2⟩ := ih fun z hz => hr z (List.mem_cons_of_mem _ hz)
      exact ⟨b :: cs, by rw [e, e2]; rfl, fun c hc => by
        rcases List.mem_cons.mp hc with e3 | hc
        · rw [e3]
          exact hb
        · exact h2 c hc⟩
  obtain ⟨cs, e, hm⟩ := hcs
  refine ⟨cs, e, ?_⟩
  have h1 := atPs_of fun c hc => atPs_mem h c (hm c hc)
  have e2 : cs.map (fun b => kH H (.ref b)) = ys.map (kH H) := by
    rw [e, List.map_map]
    rfl
  have e3 : ys.map (kH H) = sortP ps := by
    refine sortP_eq ?_ ?_
    · have q := p.map (kH H)
      rw [List.map_map] at q
      rw [← kH_map h]
      exact q
    · exact List.pairwise_map.mpr (s.imp fun {x y} h => lexB_leP _ _ h)
  rw [e2, e3] at h1
  exact h1
section
variable {K : PySem.W.Frag} {H : Hp} {a : Addr} {Q : VK}
/-- sorted(xs), xs a list of ints -/
theorem rd_sortedI {ns : List Int} (hs : SqL K H a (ns.map V.int)) (q : ∀ p, H p = none → Q (.ref p) (upd H p (.lst ((sortI ns).map V.int)))) : rSortedI K [.ref a] H Q :=
  ⟨a, ns, rfl, hs, fun ns' p pm st hp => by
    rw [sortI_eq pm st]
    exact q p hp⟩
/-- sorted(xs), xs a list of pairs of ints -/
theorem rd_sortedP {bs : List Addr} {ps : List (Int × Int)} (hs : SqL K H a (bs.map V.ref)) (h : AtPs H bs ps) (q : ∀ p cs, H p = none → AtPs H cs (sortP ps) → Q (.ref p) (upd H p (.lst (cs.map V.ref)))) : rSortedPO K [.ref a] H Q :=
  ⟨a, bs.map V.ref, kH H, rfl, hs, fun x hx => by
    obtain ⟨b, hb, e⟩ := List.mem_map.mp hx
    subst e
    exact ⟨b, rfl, atPs_mem h b hb⟩, fun ys p s st hp => by
    obtain ⟨cs, e, hc⟩ := sorted_refs h s st.perm
    rw [e]
    exact q p cs hp hc⟩
end

/-! ### sorted(d), d a dict with ints as keys -/
def rSortDI : List V → Hp → VK → Prop := fun xs H Q => ∃ (a : Addr) (kvs : List (Key × V)) (ks : List Int), xs = [.ref a] ∧ Rd H a (.dK kvs) ∧ kvs.map (·.1) = ks.map Sum.inl ∧ ∀ p, H p = none → Q (.ref p) (upd H p (.lst ((sortI ks).map V.int)))
section
variable {X : Cx}
theorem ints_keys {vs : List (Key × Value)} {ks : List Int} {acc : Array Value} {P : Program} {w : World} (hkeys : vs.map (·.1) = ks.map Sum.inl) (hal : acc.toList.length = ks.length)
    (h : ∀ (j : Nat) (v : Value), acc[j]? = some v → ∃ (k : Key) (x : Value), vs[j]? = some (k, x) ∧ (mixKind P w).is k v = true) : IntsAre acc.toList ks :=
  ints_each hal fun j v e => by
    obtain ⟨k, x, e1, e2⟩ := h j v (by rw [← Array.getElem?_toList]; exact e)
    have e3 : (ks.map (Sum.inl : Int → Key))[j]? = some k := by rw [← hkeys, List.getElem?_map, e1]; rfl
    rw [List.getElem?_map] at e3
    cases e4 : ks[j]? with
    | none => rw [e4] at e3; cases e3
    | some y =>
      rw [e4] at e3
      cases e3
      obtain ⟨t, ev⟩ := Value.isInt_shape (k := y) (v := v) e2
      exact ⟨y, t, rfl, ev⟩
theorem cr_sortDI (hcalm : X.calm = true) : CallR X (.builtin "sorted") rSortDI := by
  intro pins s σ H xs us Q I r q
  obtain ⟨a, kvs, ks, ex, hd, hks, q⟩ := q
  subst ex
  obtain ⟨u, eu, rx⟩ := vals1 r
  subst eu
  cases rx
  obtain ⟨z, lo, vs, rel, dd⟩ := dk_rd I.hok hd
  obtain ⟨ep, hat⟩ := dd.dictAt
  have hkeys : vs.map (·.1) = ks.map Sum.inl := rel.keys.symm.trans hks
  have hl : vs.length = ks.length := by
    have e := congrArg List.length hkeys
    rw [List.length_map, List.length_map] at e
    exact e
  have hlk : kvs.length = ks.length := by
    have e := congrArg List.length hks
    rw [List.length_map, List.length_map] at e
    exact e
  have h16 : vs.length ≤ sizeLine := by rw [hl, ← hlk]; exact z
  refine Calls.call_function_entry PyProof.Rows.kind_sorted PyProof.Rows.plain_sorted PyProof.Rows.entry_sorted (PyProof.Rows.args_sorted1 _) ?_
  unfold Builtin.«sorted»
  refine wpAny_bind (m := checkCount "sorted" 1 1 _) (wpAny_pure ?_)
  refine wpAny_bind (PySem.W.kdu_collect (A := X.A.in1) (PySem.W.kdl_dict (knd := mixKind X.prog X.w) (kvs := vs) (ep := ep) lo) (I.ok.hd hcalm) hat h16 fun h' tk acc hk hacc => ?_)
  have hal : acc.toList.length = ks.length := by rw [Array.length_toList, hacc.1, hl]
  have hS : IntsAre acc.toList ks := ints_keys hkeys hal hacc.2
  have I1 : L2.Inv X pins σ H { s with heap := h', toks := tk } := I.kept hk
  refine wpAny_bind (wpAny_newList ?_ (by rw [hal, ← hl]; exact h16))
  have hoL : (h'.push (seqObj "list" acc.toList.toArray 0)).get? h'.objs.size = some (seqObj "list" acc.toList.toArray 0) := Heap.get?_push_size _ rfl
  show wpAny _ _ _ _ _ { s with heap := h'.push (seqObj "list" acc.toList.toArray 0), toks := tk }
  refine wpAny_bind (wpAny_holding (wpAny_call_entry PyProof.Rows.slot_list_sort ⟨_, hoL, rfl⟩ PyProof.Rows.entry_list_sort
    (SrtO.list_sort_ord SrtO.swo_int hoL (by rw [hal, ← hl]; exact h16) (fun h2 => SrtO.ints_sortable hS h2) fun out g1 g2 => ⟨_, rfl, ?_⟩) (PyProof.Rows.args_list_sort _)))
  obtain ⟨k1, k2, k3⟩ := SrtO.ints_out hS g1 g2
  obtain ⟨e', he'⟩ := PyProof.Rows.sortedHeap_at (vs := acc.toList) (out := out.toArray) hoL
  have hlen : ((sortI ks).map V.int).length ≤ sizeLine := by
    rw [List.length_map, (sortI_perm ks).length_eq, ← hl]
    exact h16
  have eo : out.map SrtO.iv = sortI ks := sortI_eq k2 k3
  rw [eo] at k1
  refine wpAny_pure ⟨_, rfl, .ref h'.objs.size, upd H h'.objs.size (.lst ((sortI ks).map V.int)), I1.laid (t' := tk) (fun b u e => ?_) (Nat.le_refl _)
    (show ObjOk X.prog X.w _ _ _ (.lst ((sortI ks).map V.int)) from ⟨hlen, out, e', vals_of_ints k1, he'⟩), rfl, q _ (I1.hok.fresh (Nat.le_refl _))⟩
  have hb : b < h'.objs.size := Heap.lt_size e
  rw [PyProof.Rows.sortedHeap_old (Nat.ne_of_lt hb) (by rw [size_push']; exact Nat.lt_succ_of_lt hb)]
  exact Heap.get?_push_of_some _ e
end

/-! ### sorted(d), d a dict with pairs of ints as keys -/
def pK (q : Int × Int) : List Key := [.inl q.1, .inl q.2]
def rSortDP : List V → Hp → VK → Prop := fun xs H Q => ∃ (a : Addr) (kvs : List (List Key × V)) (ps : List (Int × Int)), xs = [.ref a] ∧ Rd H a (.dT kvs) ∧ kvs.map (·.1) = ps.map pK ∧
  ∀ p cs, H p = none → AtPs H cs (sortP ps) → Q (.ref p) (upd H p (.lst (cs.map V.ref)))
theorem atPs_keys {H : Hp} : ∀ {kvs : List (List Key × V)} {xs : List (List Key × Addr × Value)} {ps : List (Int × Int)}, KT H kvs xs → kvs.map (·.1) = ps.map pK → AtPs H (xs.map fun x => x.2.1) ps
  | _, _, [], .nil, _ => .nil
  | _, _, p :: ps, .nil, e => nomatch e
  | _, _, [], .cons _ _, e => nomatch e
  | _, _, p :: ps, .cons r t, e => by
    obtain ⟨e1, e2⟩ := List.cons.inj e
    refine .cons ?_ (atPs_keys t e2)
    have h := r.2.1
    dsimp only at e1
    rw [e1] at h
    exact h
section
variable {X : Cx}
theorem cr_sortDP (hcalm : X.calm = true) : CallR X (.builtin "sorted") rSortDP := by
  intro pins s σ H xs us Q I r q
  obtain ⟨a, kvs, ps, ex, hd, hps, q⟩ := q
  subst ex
  obtain ⟨u, eu, rx⟩ := vals1 r
  subst eu
  cases rx
  obtain ⟨z, lo, ks, pr, o, es, ep, ho, hx, hdt, he, hn⟩ := (show ObjOk X.prog X.w H s.heap a (.dT kvs) from hd.ok I.hok)
  have l1 : es.size = ks.length := size_of_entries he
  have l2 : kvs.length = ks.length := Paired.length pr
  have hat := atPs_keys pr hps
  refine Calls.call_function_entry PyProof.Rows.kind_sorted PyProof.Rows.plain_sorted PyProof.Rows.entry_sorted (PyProof.Rows.args_sorted1 _) ?_
  unfold Builtin.«sorted»
  refine wpAny_bind (m := checkCount "sorted" 1 1 _) (wpAny_pure ?_)
  refine wpAny_bind (PySem.W.kdu_collect (A := X.A.in1) (kdl_raw lo hx hdt) (I.ok.hd hcalm) ho (by omega) fun h' tk acc hk hacc => ?_)
  have ea : acc.toList = ks.map fun x => Value.ref x.2.1 := by
    have hl : acc.toList.length = ks.length := by rw [Array.length_toList, hacc.1]; exact l1
    apply List.ext_getElem?
    intro j
    rw [List.getElem?_map]
    cases hj : acc.toList[j]? with
    | none =>
      have h1 := List.getElem?_eq_none_iff.mp hj
      rw [List.getElem?_eq_none (by omega)]
      all_goals rfl
    | some v =>
      obtain ⟨en, hen, hv⟩ := hacc.2 j v (by rw [← Array.getElem?_toList]; exact hj)
      have qe := entry_at he j
      rw [hen] at qe
      cases hb : ks[j]? with
      | none =>
        rw [hb] at qe
        exact nomatch (show some en = none from qe)
      | some b =>
        rw [hb] at qe
        have e2 : en = entryOfKey (tupleKind (mixKind X.prog X.w)) b := Option.some.inj qe
        rw [hv, e2]
        all_goals rfl
  have eb : acc.toList = (ks.map fun x => x.2.1).map Value.ref := by rw [ea, List.map_map]; all_goals rfl
  have hal : acc.toList.length ≤ sizeLine := by
    rw [eb, List.length_map, List.length_map]
    omega
  have I1 : L2.Inv X pins σ H { s with heap := h', toks := tk } := I.kept hk
  refine wpAny_bind (wpAny_newList ?_ hal)
  have hoL : (h'.push (seqObj "list" acc.toList.toArray 0)).get? h'.objs.size = some (seqObj "list" acc.toList.toArray 0) := Heap.get?_push_size _ rfl
  show wpAny _ _ _ _ _ { s with heap := h'.push (seqObj "list" acc.toList.toArray 0), toks := tk }
  have hpair : ∀ v ∈ acc.toList, Srt.IsPair (h'.push (seqObj "list" acc.toList.toArray 0)) v (kH H (backV v)).1 (kH H (backV v)).2 := fun v hv => by
    rw [eb] at hv
    obtain ⟨b, hb, e⟩ := List.mem_map.mp hv
    subst e
    have ht := atPs_mem hat b hb
    obtain ⟨_, its2, r2, o, ho, hc, n, hd⟩ := I1.hok _ _ ht
    obtain ⟨u1, u2, rfl, ri, rj⟩ := vals2 r2
    obtain ⟨t1, rfl⟩ := ri
    obtain ⟨t2, rfl⟩ := rj
    exact ⟨b, o, t1, t2, n, rfl, Heap.get?_push_of_some _ ho, hc, hd⟩
  refine wpAny_bind (wpAny_holding (wpAny_call_entry PyProof.Rows.slot_list_sort ⟨_, hoL, rfl⟩ PyProof.Rows.entry_list_sort
    (SrtO.list_sort_ord (SrtO.swo_lex fun u => kH H (backV u)) hoL hal (fun h2 => SrtO.pairs_sortableO (by omega) hpair fun o e => ?_) fun out g1 g2 => ⟨_, rfl, ?_⟩) (PyProof.Rows.args_list_sort _)))
  · have e' : some o = some (seqObj "list" acc.toList.toArray 0) := e.symm.trans hoL
    cases e'
    intro c
    exact absurd (Value.type.inj c) (by decide)
  have h3 : ∀ u ∈ out, ∃ a, u = Value.ref a := fun u hu => by
    have m := g2.perm.mem_iff.mp hu
    rw [eb] at m
    obtain ⟨b, _, e⟩ := List.mem_map.mp m
    exact ⟨b, e.symm⟩
  obtain ⟨e', he'⟩ := PyProof.Rows.sortedHeap_at (vs := acc.toList) (out := out.toArray) hoL
  have pm : (out.map backV).Perm ((ks.map fun x => x.2.1).map V.ref) := by
    have q1 := g2.perm.map backV
    rw [eb, List.map_map] at q1
    exact q1
  obtain ⟨cs, ecs, hcs⟩ := sorted_refs hat (SrtO.srtd_map g1) pm
  have hlen : (out.map backV).length ≤ sizeLine := by
    rw [pm.length_eq, List.length_map, List.length_map]
    omega
  refine wpAny_pure ⟨_, rfl, .ref h'.objs.size, upd H h'.objs.size (.lst (out.map backV)), I1.laid (t' := tk) (fun b u e => ?_) (Nat.le_refl _)
    (show ObjOk X.prog X.w _ _ _ (.lst (out.map backV)) from ⟨hlen, out, e', vals_back h3, he'⟩), rfl, ?_⟩
  · have hb : b < h'.objs.size := Heap.lt_size e
    rw [PyProof.Rows.sortedHeap_old (Nat.ne_of_lt hb) (by rw [size_push']; exact Nat.lt_succ_of_lt hb)]
    exact Heap.get?_push_of_some _ e
  · rw [ecs]
    exact q _ cs (I1.hok.fresh (Nat.le_refl _)) hcs
end

/-! ### set(xs) of ints, sorted(s) -/
section
variable {P : Program} {w : World} {A : Around} {E : Value → Shared → Prop} {s : Shared}
set_option maxRecDepth 100000 in
set_option maxHeartbeats 3200000 in
theorem call_set_listI {l : Addr} {items : Array Value} (ns : List Int) {Q : Value → Shared → Prop} (hh : A.handled = none) (hl : s.heap.IsList l items) (hit : IntsAre items.toList ns) (hb : ns.length + 1 < scanBound)
    (h : ∀ (h' : Heap) (tk c : Nat), SetR w h' s.heap.objs.size (fun j => decide (j ∈ ns)) c → c ≤ ns.length → (∀ b o, s.heap.get? b = some o → h'.get? b = some o) → Q (.ref s.heap.objs.size) { s with heap := h', toks := tk }) :
    wpAny (model P w) A (call (.type "set") [.ref l]) Q E s := by
  have hisz : items.size = ns.length := by
    have q := IntsAre.length hit
    rw [Array.length_toList] at q
    exact q
  obtain ⟨c, tl, hmro⟩ := F.called_set.mro
  have hmade := F.called_set.made
  have hsub := F.called_set.sub
  refine wpAny_call (codeAny_of_tree ?_)
  show wpAny _ _ (callAny (.type "set") _) _ _ _
  refine wpAny_pure ⟨Code.quiet_builtin _ (by decide +kernel), codeAny_builtin F.entry_type_call ?_⟩
  rw [Around.under_plain (weight_type_call_type "set" [.ref l] []) rfl]
  have h1 := F.called_set.notType
  have h2 := F.called_set.canCreate
  have hct := F.typeCall_set_1 (.ref l)
  repeat (any_goals (first | assumption | wp_step))
  refine codeAny_mono (code_set_led1 (.ref l) (E := E) (Q₁ := fun obj s₁ => obj = .ref s.heap.objs.size ∧ s₁ = { s with heap := s.heap.push { cls := .type "set", dict := none, data := .set #[] 0 (.fresh 0 0 (!w.params.followText "set-order")) } }) ⟨rfl, rfl⟩) fun r s₁ hr => ?_
  cases r with
  | error e => exact hr
  | ok fl =>
    cases fl with
    | ret obj =>
      obtain ⟨rfl, rfl⟩ := hr
      have hS : (s.heap.push { cls := .type "set", dict := none, data := .set #[] 0 (.fresh 0 0 (!w.params.followText "set-order")) }).get? s.heap.objs.size = some { cls := .type "set", dict := none, data := .set #[] 0 (.fresh 0 0 (!w.params.followText "set-order")) } := Heap.get?_push_size _ rfl
      have hT : Shared.TypeIs { s with heap := s.heap.push { cls := .type "set", dict := none, data := .set #[] 0 (.fresh 0 0 (!w.params.followText "set-order")) } } (.ref s.heap.objs.size) "set" := ⟨_, hS, rfl⟩
      have hli := F.called_set.init.lookup
      have hbi := F.called_set.init.bind (.ref s.heap.objs.size)
      repeat (any_goals (first | assumption | wp_step))
      refine codeAny_mono (codeAny_call_builtin (R := wants (fun r s₂ => r = .none ∧ ∃ h' tk c, s₂ = { s with heap := h', toks := tk } ∧ SetR w h' s.heap.objs.size (fun j => decide (j ∈ ns)) c ∧ c ≤ ns.length ∧
          (∀ b o, s.heap.get? b = some o → h'.get? b = some o)) E) F.called_set.init.plain F.entry_set_init (check_set_init_1 hT ?_)) fun r₂ s₂ hr₂ => ?_
      · obtain ⟨ol, hol, hcl, nl, hdl⟩ := hl
        obtain ⟨ocls, odict, odata, oslots⟩ := ol
        simp only at hcl hdl
        subst hcl; subst hdl
        have hol' : (s.heap.push { cls := .type "set", dict := none, data := .set #[] 0 (.fresh 0 0 (!w.params.followText "set-order")) }).get? l = some { cls := .type "list", dict := odict, data := .seq items nl, slots := oslots } := Heap.get?_push_of_some _ hol
        have hsls := F.sub_list_set
        have hslf := F.sub_list_frozenset
        have hne : (Value.type "list" == Value.type "dict") = false := by decide
        have hl1 : (s.heap.push { cls := .type "set", dict := none, data := .set #[] 0 (.fresh 0 0 (!w.params.followText "set-order")) }).IsList l items := ⟨_, hol', rfl, nl, rfl⟩
        unfold Builtin.«set.__init__» noKeywords Builtin.Frozenset.updateFrom
        generalize hPI : pyIter = PI
        wp_walk
        subst hPI
        refine wpAny_pyIter_list hl1 ?_
        refine wpAny_bind (wpAny_runValue ?_)
        have hlS : l < s.heap.objs.size := Heap.lt_size hol
        have hh3 : A.in1.in1.in1.handled = none := by simp [hh]
        have hz1 : (s.heap.push { cls := .type "set", dict := none, data := .set #[] 0 (.fresh 0 0 (!w.params.followText "set-order")) }).objs.size = s.heap.objs.size + 1 := Heap.size_push ..
        have hneI : l ≠ (s.heap.push { cls := .type "set", dict := none, data := .set #[] 0 (.fresh 0 0 (!w.params.followText "set-order")) }).objs.size := by
          rw [Heap.size_push]; exact Nat.ne_of_lt (Nat.lt_succ_of_lt hlS)
        have hSf : s.heap.objs.size ∉ [(s.heap.push { cls := .type "set", dict := none, data := .set #[] 0 (.fresh 0 0 (!w.params.followText "set-order")) }).objs.size, l] := by
          rw [Heap.size_push]; simp only [List.mem_cons, List.mem_singleton, List.not_mem_nil, or_false, not_or]
          exact ⟨Nat.ne_of_lt (Nat.lt_succ_self _), Nat.ne_of_gt hlS⟩
        have hval : ∀ (i : Nat) (v : Value), items[i]? = some v → ∃ k t, ns[i]? = some k ∧ v = .int k t := fun i v hv => by
          have hi : i < ns.length := by rw [← hisz]; exact (Array.getElem?_eq_some_iff.mp hv).1
          obtain ⟨t, e⟩ := PyProof.Rows.IntsAre.int_at hit i v (by rw [Array.getElem?_toList]; exact hv)
          refine ⟨ns[i], t, List.getElem?_eq_getElem hi, ?_⟩
          rw [e, List.getD_eq_getElem?_getD, List.getElem?_eq_getElem hi] <;> rfl
        refine set_update_ints ((Walks.list hh3 _ l hneI items).toS) s.heap.objs.size
          hSf ns hisz hb hval (items.size - 0) 0 _ (by omega) (Nat.zero_le _)
          ⟨⟨_, Heap.get?_push_size _ rfl, rfl, rfl⟩, (hl1.push _)⟩ ?hS0 ?hR
        case hS0 =>
          have hget : ((s.heap.push { cls := .type "set", dict := none, data := .set #[] 0 (.fresh 0 0 (!w.params.followText "set-order")) }).push { cls := .type "list_iterator", data := .fields #[.ref l, .int 0 0] }).get? s.heap.objs.size
              = some { cls := .type "set", dict := none, data := .set #[] 0 (.fresh 0 0 (!w.params.followText "set-order")) } := Heap.get?_push_of_some _ hS
          exact ⟨0, Nat.le_refl 0, setR_new_at hget⟩
        case hR =>
          intro s' c' hm hc' hS'
          obtain ⟨h', g2, d', tk', os'⟩ := s'
          have eg : g2 = s.gens := hm.gens
          have ed : d' = s.drawn := hm.drawn
          have eo : os' = s.os := hm.os
          subst eg; subst ed; subst eo
          show wpAny _ _ _ _ _ _
          refine wpAny_pure ?_
          show wpAny _ _ (ret Value.none) _ _ _
          rw [hisz] at hc'
          refine wpAny_pure ⟨rfl, h', tk', c', rfl, hS', hc', fun b o e => ?_⟩
          have hb0 : b < s.heap.objs.size := Heap.lt_size e
          have hb1 : b ≠ s.heap.objs.size := Nat.ne_of_lt hb0
          have hb2 : b ≠ (s.heap.push { cls := .type "set", dict := none, data := .set #[] 0 (.fresh 0 0 (!w.params.followText "set-order")) }).objs.size := by
            rw [Heap.size_push]; exact Nat.ne_of_lt (Nat.lt_succ_of_lt hb0)
          exact hm.heap b o (by simp only [List.mem_cons, List.mem_singleton, List.not_mem_nil, or_false, not_or]; exact ⟨hb1, hb2⟩) (Heap.get?_push_of_some _ (Heap.get?_push_of_some _ e))
      · cases r₂ with
        | error e => exact hr₂
        | ok fl₂ =>
          cases fl₂ with
          | ret r =>
            obtain ⟨rfl, h', tk, c', rfl, hS', hc', hk'⟩ := hr₂
            repeat (any_goals (first | assumption | wp_step))
            exact h _ _ _ hS' hc' hk'
          | _ => exact hr₂.elim
    | _ => exact hr.elim
theorem sorted_setA {S : Int → Bool} {n : Nat} {Q : Value → Shared → Prop} (R : SetR w s.heap a S n) (hh : A.handled = none) (h64 : n ≤ sizeLine)
    (hQ : ∀ s' p (out : List Value) (c : Nat) (ns : List Int), (∀ b o, s.heap.get? b = some o → s'.heap.get? b = some o) → s'.gens = s.gens → s'.os = s.os → s.heap.objs.size ≤ p →
      s'.heap.get? p = some (seqObj "list" out.toArray c) → IntsAre out ns → ns.Pairwise (· < ·) → (∀ k, k ∈ ns ↔ S k = true) → ns.length = n → Q (.ref p) s') :
    wpAny (model P w) A (call (.builtin "sorted") [.ref a]) Q E s := by
  obtain ⟨o, es, ep, t, ho, hex, hd, g, nd, hm, hb, hf, hn, hr, hl⟩ := R
  refine Calls.call_function_entry PyProof.Rows.kind_sorted PyProof.Rows.plain_sorted PyProof.Rows.entry_sorted (PyProof.Rows.args_sorted1 _) ?_
  unfold Builtin.«sorted»
  refine wpAny_bind (m := checkCount "sorted" 1 1 _) (wpAny_pure ?_)
  refine wpAny_bind (collect_set (A := A.in1) hh ⟨o, ho, hex.1, hd⟩ hf hb hr hl fun s1 vs k1 hz g1 o1 pm => ?_)
  have hvl : vs.length = n := by rw [pm.length_eq, List.length_map, Array.length_toList]; exact hn
  have hI : IntsAre vs (vs.map Builtin.Re.reRawOf) := ints_of vs fun v hv => by
    obtain ⟨e, he, q⟩ := List.mem_map.mp (pm.mem_iff.mp hv)
    obtain ⟨k, tk, h1, _⟩ := g e he
    exact ⟨k, tk, by rw [← q]; exact h1⟩
  have pk : (vs.map Builtin.Re.reRawOf).Perm (es.toList.map keyOf) := by
    have q := pm.map Builtin.Re.reRawOf
    rw [List.map_map] at q
    exact q
  refine wpAny_bind (wpAny_newList ?_ (by rw [hvl]; exact h64))
  have hoL : (s1.heap.push (seqObj "list" vs.toArray 0)).get? s1.heap.objs.size = some (seqObj "list" vs.toArray 0) := Heap.get?_push_size _ rfl
  refine wpAny_bind (wpAny_holding (wpAny_call_entry PyProof.Rows.slot_list_sort ⟨_, hoL, rfl⟩ PyProof.Rows.entry_list_sort
    (SrtO.list_sort_ord SrtO.swo_int hoL (by rw [hvl]; exact h64) (fun h2 => SrtO.ints_sortable hI h2) fun out g1' g2' => ⟨_, rfl, ?_⟩) (PyProof.Rows.args_list_sort _)))
  obtain ⟨a1, a2, a3⟩ := SrtO.ints_out hI g1' g2'
  obtain ⟨c, hc⟩ := PyProof.Rows.sortedHeap_at (vs := vs) (out := out.toArray) hoL
  have pn : (out.map SrtO.iv).Perm (es.toList.map keyOf) := a2.trans pk
  refine wpAny_pure ⟨_, rfl, hQ _ s1.heap.objs.size out c (out.map SrtO.iv) (fun b u e => ?_) g1 o1 hz hc a1 (lt_of_le_nodup _ a3 (pn.nodup_iff.mpr nd)) (fun k => by rw [pn.mem_iff, ← hm k]) ?_⟩
  · have q := k1 b u e
    have hlt := Heap.lt_size q
    show (PyProof.Rows.sortedHeap (s1.heap.push (seqObj "list" vs.toArray 0)) s1.heap.objs.size vs out.toArray).get? b = some u
    rw [PyProof.Rows.sortedHeap_old (Nat.ne_of_lt hlt) (by rw [size_push']; exact Nat.lt_succ_of_lt hlt)]
    exact Heap.get?_push_of_some _ q
  · rw [pn.length_eq, List.length_map, Array.length_toList]; exact hn
end
/-- set(xs), xs a list or a tuple of ints -/
def rSetI (K : PySem.W.Frag) (w : World) : List V → Hp → VK → Prop := fun xs H Q => ∃ (l : Addr) (ns : List Int), xs = [V.ref l] ∧ (SqL K H l (ns.map V.int) ∨ SqT K H l (ns.map V.int)) ∧ ns.length + 1 < 4096 ∧
  ∀ p c, H p = none → c ≤ ns.length → Q (.ref p) (upd H p (SetO w p (fun j => decide (j ∈ ns)) c))
/-- sorted(s), s a set of ints -/
def rSortSet (w : World) : List V → Hp → VK → Prop := fun xs H Q => ∃ (a : Addr) (ns : List Int) (c : Nat), xs = [V.ref a] ∧ H a = some (SetO w a (fun j => decide (j ∈ ns)) c) ∧ c ≤ ns.length ∧ ns.length + 1 < 4096 ∧
  ∀ p, H p = none → Q (.ref p) (upd H p (.lst ((sortI (dedup ns)).map V.int)))
theorem lt_uniq {l m : List Int} (hl : l.Pairwise (· < ·)) (h : ∀ k, k ∈ l ↔ k ∈ m) : l = sortI (dedup m) := by
  refine sortI_eq ?_ (hl.imp fun h => by omega)
  exact (List.perm_ext_iff_of_nodup (hl.imp fun h e => by omega) (nodup_dedup m)).mpr fun k => by rw [h k, mem_dedup]
section
variable {X : Cx}
theorem cr_setI (hc : X.calm = true) : CallR X (.type "set") (rSetI X.K X.w) := by
  intro pins s σ H xs us Q I r h
  obtain ⟨l, ns, rfl, hs, hb, q⟩ := h
  obtain ⟨u, rfl, ru⟩ := vals1 r
  obtain rfl : u = Value.ref l := ru
  rcases hs with hs | hs
  · obtain ⟨its, rv, pl, hz⟩ := I.list hs
    refine call_set_listI ns (I.ok.hd hc) pl.isList (by simpa using rv.ints) hb fun h' tk c hS hcl hk => ?_
    exact ⟨.ref _, _, I.laid (t' := tk) hk (Nat.le_refl _) (setO_new hS), rfl, q _ c (I.hok.fresh (Nat.le_refl _)) hcl⟩
  · obtain ⟨its, rv, pl, hz⟩ := I.tuple hs
    refine call_set_tupI ns (I.ok.hd hc) pl (by simpa using rv.ints) hb fun h' tk c hS hcl hk => ?_
    exact ⟨.ref _, _, I.laid (t' := tk) hk (Nat.le_refl _) (setO_new hS), rfl, q _ c (I.hok.fresh (Nat.le_refl _)) hcl⟩
theorem cr_sortSet (hc : X.calm = true) : CallR X (.builtin "sorted") (rSortSet X.w) := by
  intro pins s σ H vs us Q I r h
  obtain ⟨a, ns, n, rfl, ha, hn, hb, q⟩ := h
  have R := setO_get I ha
  rw [Vals.ref1 r]
  refine sorted_setA R (I.ok.hd hc) (by rw [sizeLine_eq]; omega) fun s' p out c ks k g o hp hg hi hs hm hl => ?_
  have ek : ks = sortI (dedup ns) := lt_uniq hs fun j => by rw [hm j]; simp
  subst ek
  have hlen : ((sortI (dedup ns)).map V.int).length ≤ sizeLine := by rw [List.length_map, hl, sizeLine_eq]; omega
  have hn : H p = none := I.hok.fresh hp
  have J : L2.Inv X pins σ (upd H p (.lst ((sortI (dedup ns)).map V.int))) { s with heap := s'.heap, gens := s'.gens, drawn := s'.drawn, toks := s'.toks } :=
    I.call (ch := []) (Un.laid k hp hn) (I.hok.laid k hp ⟨hlen, out, c, vals_of_ints hi, hg⟩) (by rw [g]; exact I.bare) (fun _ z => nomatch z)
  have e : s' = { s with heap := s'.heap, gens := s'.gens, drawn := s'.drawn, toks := s'.toks } := by
    cases s'
    cases s
    cases o
    rfl
  rw [e]
  exact ⟨.ref p, _, J, rfl, q p hn⟩
end
end LS

end
section
set_option Elab.async false
set_option linter.all false
set_option maxRecDepth 100000
/-! LD: dict comprehensions whose keys are tuples of ints and texts. -/
set_option pp.maxSteps 200
namespace LD
open PySem PySem.Spec PyProof.Rows L2
section
variable {X : Cx}
/-- d[k] = v by a comprehension, k a tuple -/
theorem d_dictSetT {pins : List (Addr × Obj)} {σ : L2.St} {H : Hp} {s : Shared} {E : Value → Shared → Prop} {D b : Addr} {kvs : List (List Key × V)} {k : List Key} {v : V} {r : Value} {Q : Unit → Shared → Prop} (hu : X.A.units + 1 < cLine) (I : L2.Inv X pins σ H s)
    (hD : H D = some (.dT kvs)) (hb : H b = some (.tup (k.map kV))) (hz : kvs.length < sizeLine) (rv : RelV v r) (h : ∀ s', L2.Inv X pins σ (upd H D (.dT (putK kvs k v))) s' → Q () s') : wpAny (model X.prog X.w) X.A (dictSet D (.ref b) r) Q E s := by
  obtain ⟨z, hd, xs, rel, dd⟩ := dt_of I.hok hD
  have hzx : xs.length ≤ sizeLine := by rw [← Paired.length rel]; exact z
  have hl : (putK kvs k v).length ≤ sizeLine := by have := length_putK kvs k v; omega
  refine wpAny_dictSet_heap (hsz := hzx) (show X.A.units < cLine from Nat.lt_of_succ_lt hu) (key_of I.hok hb) dd fun h' dd' hs => h _ ?_
  obtain ⟨q, es, ep, hq, h2, h3, h4, _, h5⟩ := dd'
  refine d_write I (by rw [hD]; exact True.intro) hs ⟨q, hq⟩ ⟨hl, hd, _, (rel.put k hb rv).keeps fun c ys ec => ?_, q, es, ep, hq, h2, h3, h4, h5⟩
  rw [upd_ne (ne_of ec hD (fun z => nomatch z))]
  exact ec
/-- {k: v for target in iter if ..}, keys ints or texts: D the new dict -/
def tDcT (wi : TI) (g : TG) (tt : TT) (tk tv : TE) (vs : List Nat) : TE := fun σ H Q => wi σ H fun J H1 => ∀ D, H1 D = none → ∃ W : Nat → Nat → Hp → Prop, (∃ m, W 0 m (upd H1 D (.dT []))) ∧ ∀ i m H, W i m H →
  (J.stop i H ∧ Q (.ref D) H) ∨ (J.go i H ∧ ∃ Nx : Hp → Prop, (∀ H', Nx H' → ∃ m', m' < m ∧ W (i + 1) m' H') ∧ ∀ x H', J.yld i H x H' → g x (wipe σ vs) H' fun σ2 H2 => wipe σ2 vs = wipe σ vs ∧ tt σ2 H2 fun b H3 =>
    if b = true then tk σ2 H3 fun y H4 => tv σ2 H4 fun z H5 => ∃ kvs k b, y = .ref b ∧ H5 b = some (.tup (k.map kV)) ∧ H5 D = some (.dT kvs) ∧ kvs.length < sizeLine ∧ Nx (upd H5 D (.dT (putK kvs k z))) else Nx H3)
theorem dc_coreT {pins : List (Addr × Obj)} {s : Shared} {σ : L2.St} {H : Hp} {Q : VK} {kx vx tg iter : Expr} {ifs : List Expr} {scope : Scope} {own : List (Str × Nat)} {pos pos' : Pos} {wi : TI} {g : TG} {tt : TT} {tk tv : TE} {use : Option (Value → Sem Unit)} {Qf : Value → Shared → Prop}
    (hu : X.A.units + 1 < cLine) (hc : X.calm = true) (hN : X.N.Nodup) (I : L2.Inv X pins σ H s) (hi : PI X tg iter wi) (ok : BlkOk X.N X.env.scope scope own)
    (hg : ∀ (s : Shared) (H : Hp) (C : Addr) (cl : List (Str × Addr)) (fp : List Addr), PG (X.blk s H scope (compEnvC scope cl C X.env) fp) tg g) (ht : ∀ (s : Shared) (H : Hp) (C : Addr) (cl : List (Str × Addr)) (fp : List Addr), PTs (X.blk s H scope (compEnvC scope cl C X.env) fp) ifs tt)
    (hk : ∀ (s : Shared) (H : Hp) (C : Addr) (cl : List (Str × Addr)) (fp : List Addr), PE (X.blk s H scope (compEnvC scope cl C X.env) fp) kx tk)
    (he : ∀ (s : Shared) (H : Hp) (C : Addr) (cl : List (Str × Addr)) (fp : List Addr), PE (X.blk s H scope (compEnvC scope cl C X.env) fp) vx tv) (hs : ∀ x, foldedSetIterable iter X.env x = pure x)
    (h : tDcT wi g tt tk tv (own.map (·.2)) σ H Q)
    (hRR : ∀ D C s' m H', L2.Inv X pins σ H' s' → Q (.ref D) H' → s'.heap.Ns C m → FpOk X pins H' C → compPost (model X.prog X.w) X.A X.xe use Qf (.ref D) C (.ok .next) s') :
    wpAny (model X.prog X.w) X.A (comprehension (.DictComp kx vx [⟨tg, iter, ifs, 0⟩] scope pos) scope X.env pos' newDict false (eval iter X.env) use) Qf X.xe s := by
  have hfree : ∀ y ∈ scope.names, y.2 = .free → ∃ c, X.env.cells.lookup y.1 = some c := fun y hy e => by
    rcases ok.free y hy e with k | k
    · exact I.ok.has _ (.inl k)
    · exact I.ok.has _ (.inr k)
  refine wpAny_comprehension_free (use := use) rfl hs (closure_ok hfree) ok.kind (fun y hy e => by rw [ok.uniq y hy, e])
    (thn (hi.run pins s σ H _ I h) fun xv s1 hx => thn hx fun itv s2 h2 => ?_)
  obtain ⟨it, fp, tn, J, H2, e, I2, T, st2, f2, q⟩ := h2
  subst e
  refine wpAny_newObj_type (newEnv_comp ?_)
  generalize hD : s2.heap.objs.size = D
  have hDn : H2 D = none := I2.hok.fresh (Nat.le_of_eq hD)
  obtain ⟨W, ⟨m0, w0⟩, turn⟩ := q D hDn
  -- the new list
  generalize hs3 : ({ s2 with heap := s2.heap.push { cls := .type "dict", data := .dict #[] } } : Shared) = s3
  have I3 : L2.Inv X pins σ (upd H2 D (.dT [])) s3 := by
    rw [← hs3]
    refine I2.laid (t' := s2.toks) (fun b o e => Heap.get?_push_of_some _ e) (Nat.le_of_eq hD) ?_
    rw [← hD]
    exact dt_empty s2.heap I2.big
  have h3 : s3.heap = s2.heap.push { cls := .type "dict", data := .dict #[] } := by rw [← hs3]
  have sz : ∀ b ∈ fp, b < s2.heap.objs.size := fun b hb => by
    obtain ⟨o, e, _⟩ := T.obj _ _ st2 b hb
    exact Heap.lt_size e
  have f3 : ∀ b ∈ fp, FpOk X pins (upd H2 D (.dT [])) b ∧ b < s3.heap.objs.size := fun b hb => by
    have hlt := sz b hb
    refine ⟨⟨?_, (f2 b hb).2⟩, by rw [h3, Heap.size_push]; exact Nat.lt_succ_of_lt hlt⟩
    rw [upd_ne (by rw [← hD]; exact Nat.ne_of_lt hlt)]
    exact (f2 b hb).1
  have st3 : tn 0 s3.heap := T.keep _ _ _ st2 fun b _ o e => by rw [h3]; exact Heap.get?_push_of_some _ e
  have I4 := block_start I3 ok hN f3
  have pg := hg s3 (upd H2 D (.dT [])) s3.heap.objs.size (cellsFrom (s3.heap.objs.size + 1) scope.names (cloFrom X.env.cells scope.names [])) fp
  have pt := ht s3 (upd H2 D (.dT [])) s3.heap.objs.size (cellsFrom (s3.heap.objs.size + 1) scope.names (cloFrom X.env.cells scope.names [])) fp
  have pk := hk s3 (upd H2 D (.dT [])) s3.heap.objs.size (cellsFrom (s3.heap.objs.size + 1) scope.names (cloFrom X.env.cells scope.names [])) fp
  have pe := he s3 (upd H2 D (.dT [])) s3.heap.objs.size (cellsFrom (s3.heap.objs.size + 1) scope.names (cloFrom X.env.cells scope.names [])) fp
  show codeAny _ _ (.compStart (.DictComp kx vx [⟨tg, iter, ifs, 0⟩] scope pos) 0 (.ref it) (.ref D) (compEnvC scope (cellsFrom (s3.heap.objs.size + 1) scope.names (cloFrom X.env.cells scope.names [])) s3.heap.objs.size X.env)) (compPost (model X.prog X.w) X.A X.xe use Qf (.ref D) s3.heap.objs.size) { s3 with heap := pushCells (s3.heap.push { cls := .type "dict", data := .dict #[] }) scope.names }
  have nfp : ∀ b ∈ fp, (upd H2 D (.dT [])) b = none := fun b hb => (f3 b hb).1.1
  generalize hce : compEnvC scope (cellsFrom (s3.heap.objs.size + 1) scope.names (cloFrom X.env.cells scope.names [])) s3.heap.objs.size X.env = ce at I4 pg pt pk pe ⊢
  have cL : ce.locals = s3.heap.objs.size := by subst hce; rfl
  generalize hH3 : upd H2 D (.dT []) = H3 at I3 I4 pg pt pk pe w0 nfp f3
  generalize hs4 : ({ s3 with heap := pushCells (s3.heap.push { cls := .type "dict", data := .dict #[] }) scope.names } : Shared) = s4 at I4 ⊢
  have st4 : tn 0 s4.heap := T.keep _ _ _ st3 fun b _ o e => by rw [← hs4]; exact pushCells_keeps _ _ _ _ (Heap.get?_push_of_some _ e)
  have stat : ∀ {σ' : L2.St} {H' : Hp} {s' : Shared}, L2.Inv (X.blk s3 H3 scope ce fp) [] σ' H' s' → (∀ b ∈ fp, H' b = none) → ∀ b ∈ fp, FpOk (X.blk s3 H3 scope ce fp) [] H' b := fun {σ' H' s'} I' hn b hb =>
    ⟨hn b hb, (I'.ok.exf b hb).1, I'.ok.exfs b hb, .inl hb, fun x c e => (I'.ok.exf b hb).2 x c e, fun p hp => absurd (show p ∈ ([] : List (Addr × Obj)) ++ [] from hp) (by simp)⟩
  have loop : codeAny (model X.prog X.w) X.A (.compLoop (.DictComp kx vx [⟨tg, iter, ifs, 0⟩] scope pos) 0 (.ref it) (.ref D) ce) (compPost (model X.prog X.w) X.A X.xe use Qf (.ref D) s3.heap.objs.size) s4 := by
    refine compLoop_anyD (fun n s' => ∃ i H', L2.Inv (X.blk s3 H3 scope ce fp) [] (wipe σ (own.map (·.2))) H' s' ∧ tn i s'.heap ∧ (∀ b ∈ fp, H' b = none) ∧ W i n H') ?_ m0 ⟨0, H3, I4, st4, nfp, w0⟩
    rintro n s5 ⟨i, H5, I5, st5, n5, w5⟩
    rcases turn i n H5 w5 with ⟨stop, qq⟩ | ⟨go, Nx, hNx, step⟩
    · have td := T.done (X.blk s3 H3 scope ce fp) rfl rfl rfl hc i [] s5 _ H5 (fun _ _ => False) I5 (stat I5 n5) st5 stop
      refine thnF td fun r s6 ⟨hr, I6⟩ => ?_
      subst hr
      -- back in the def's context
      have I7 : L2.Inv X pins σ H5 s6 := I3.call' (ch := fp) I6.os I6.base I6.hok I6.bare fun b hb => ⟨(f3 b hb).1.2.2.2.1, (f3 b hb).1.2.1, (f3 b hb).1.2.2.2.2.1, (f3 b hb).1.2.2.2.2.2⟩
      have nC : H5 s3.heap.objs.size = none := by
        have z : H5 ce.locals = none := I6.free
        rw [cL] at z
        exact z
      obtain ⟨m, hn, _⟩ := I6.loc
      have hn : s6.heap.Ns ce.locals m := hn
      rw [cL] at hn
      exact hRR D s3.heap.objs.size s6 m H5 I7 qq hn (I3.fpOk (Nat.le_refl _) nC)
    · have ti := T.item (X.blk s3 H3 scope ce fp) rfl rfl rfl hc i [] s5 _ H5 (fun _ _ => False) I5 (stat I5 n5) st5 go
      refine thnF ti fun r s6 ⟨u, hr, h6⟩ => ?_
      subst hr
      refine thnF h6 fun _ s7 ⟨x, H7, I7, r7, y7, st7, n7⟩ => ?_
      have I7' := I7.pinned (stat I7 n7) (T.obj _ _ st7)
      refine thnF (pg.run _ s7 _ H7 x u _ I7' r7 (step x H7 y7)) fun _ s8 ⟨σ8, H8, I8, hw8, q8⟩ => ?_
      refine thnF (pt.run _ s8 σ8 H8 _ I8 q8) fun b s9 ⟨H9, I9, q9⟩ => ?_
      -- the turn's end
      have fin : ∀ {s' : Shared} {H' : Hp}, L2.Inv (X.blk s3 H3 scope ce fp) ([] ++ pinsAt fp s7.heap) σ8 H' s' → Nx H' → ∃ m, m < n ∧ ∃ i H', L2.Inv (X.blk s3 H3 scope ce fp) [] (wipe σ (own.map (·.2))) H' s' ∧ tn i s'.heap ∧ (∀ b ∈ fp, H' b = none) ∧ W i m H' := fun {s' H'} I' nx => by
        obtain ⟨m', hm, w'⟩ := hNx H' nx
        have pin' : ∀ b ∈ fp, ∀ o, s7.heap.get? b = some o → s'.heap.get? b = some o ∧ H' b = none := fun b hb o e =>
          let z := I'.pin (b, o) (List.mem_append_right _ (List.mem_append_right _ (mem_pinsAt hb e)))
          ⟨z.1, z.2.1⟩
        have hl : (wipe σ (own.map (·.2))).length = σ8.length := by rw [← hw8, wipe_length]
        refine ⟨m', hm, i + 1, H', (I'.unpinned (pins := [])).weak hl (fun j v e => ?_), T.keep _ _ _ st7 fun b hb o e => (pin' b hb o e).1, fun b hb => ?_, w'⟩
        · rw [← hw8] at e
          exact (wipe_some e).1
        · obtain ⟨o, e, _⟩ := T.obj _ _ st7 b hb
          exact (pin' b hb o e).2
      cases b with
      | false =>
        simp only [Bool.false_eq_true, if_false] at q9 ⊢
        exact fin I9 q9
      | true =>
        simp only [if_true] at q9 ⊢
        refine thnF (pk.run _ s9 σ8 H9 _ I9 q9) fun z s10 ⟨yk, H10, I10, r10, q10⟩ => ?_
        refine thnF (pe.run _ s10 σ8 H10 _ I10 q10) fun z2 s11 ⟨yv, H11, I11, r11, kvs, k, bk, ek, hbk, hD11, hz11, nx⟩ => ?_
        subst ek
        cases r10
        exact d_dictSetT (X := X.blk s3 H3 scope ce fp) hu I11 hD11 hbk hz11 r11 fun s12 I12 => fin I12 nx
  exact codeAny_compStart_dict loop (T.self X.A 0 _ _ _ st4 loop)
/-- as a value -/
theorem pe_dcT {kx vx tg iter : Expr} {ifs : List Expr} {scope : Scope} {own : List (Str × Nat)} {pos : Pos} {wi : TI} {g : TG} {tt : TT} {tk tv : TE} (hu : X.A.units + 1 < cLine) (hc : X.calm = true) (hN : X.N.Nodup) (hi : PI X tg iter wi) (ok : BlkOk X.N X.env.scope scope own)
    (hg : ∀ (s : Shared) (H : Hp) (C : Addr) (cl : List (Str × Addr)) (fp : List Addr), PG (X.blk s H scope (compEnvC scope cl C X.env) fp) tg g) (ht : ∀ (s : Shared) (H : Hp) (C : Addr) (cl : List (Str × Addr)) (fp : List Addr), PTs (X.blk s H scope (compEnvC scope cl C X.env) fp) ifs tt)
    (hk : ∀ (s : Shared) (H : Hp) (C : Addr) (cl : List (Str × Addr)) (fp : List Addr), PE (X.blk s H scope (compEnvC scope cl C X.env) fp) kx tk)
    (he : ∀ (s : Shared) (H : Hp) (C : Addr) (cl : List (Str × Addr)) (fp : List Addr), PE (X.blk s H scope (compEnvC scope cl C X.env) fp) vx tv) (hs : ∀ x, foldedSetIterable iter X.env x = pure x := by intro _; rfl) :
    PE X (.DictComp kx vx [⟨tg, iter, ifs, 0⟩] scope pos) (tDcT wi g tt tk tv (own.map (·.2))) := by
  refine ⟨fun pins s σ H Q I h => ?_⟩
  rw [arm_eval_DictComp]
  refine dc_coreT hu hc hN I hi ok hg ht hk he hs h fun D C s' m H' I' q hn f => ⟨m, hn, fun h'' sb => ?_⟩
  obtain ⟨f0, f1, f2, f3, f4, f5⟩ := f
  exact ⟨.ref D, H', I'.turned (t' := s'.toks) (fun b o hb e => (sb.2 b hb).trans e) f0 f1 f3 f4 f5, rfl, q⟩
end
end LD

namespace LD
open PySem PySem.Spec PyProof.Rows L2
section
variable {X : Cx} {CX : CXT} {k : Nat} {f : Addr} {fd : FuncData} {ps ks : List Str} {sp : Sp} {E : XK} {x : Str} {p pos : Pos} {kws : List Keyword} {tk : TA} {g : List Value → List Value → List Value} {gV : List V → List V → List V}
/-- f(k = v, ..) -/
theorem pe_callK0 (F : FnOk X.prog X.w X.K X.mg X.base CX k f fd ps sp) (hr : Room k X.A) (hg : Gl X x) (hm : X.mg x = some (.ref f)) (hk : PySem.W.keepIn X.K (.ref f) = true) (hb : KBinds X.K fd ps ks g gV) (hx : Passes CX X E)
    (hkw : PK X kws tk) (hall : (backToKw pos (keywordEach kws X.env)).all (·.1.isSome) = true := by rfl) (hks : (backToKw pos (keywordEach kws X.env)).filterMap (·.1) = ks := by rfl)
    (hdb : (x == ("__debug__" : Str)) = false := by decide)
    (hpl : ((backTo pos (starEach [] X.env)).any (·.1) || (backToKw pos (keywordEach kws X.env)).any (·.1.isNone)) = false := by rfl) :
    PE X (.Call (.Name x p) [] kws pos) (tCallK sp gV E tNil tk) := by
  refine ⟨fun pins s σ H Q I h => ?_⟩
  refine wpAny_Call_Name_kw (ld_glob I hg hm ?_ hdb)
  refine PySem.W.callWith_KW0 (h₀ := X.base) I.ok.mod.kin hk hall ?_ hpl
  refine thn (hkw.run pos pins s σ H _ I h) fun ws s2 ⟨zs, H2, I2, rz, q2⟩ => ⟨I2.kIn, ?_⟩
  rw [hks]
  exact run_fnk (us := []) (vs := []) F hr hb hx I2 .nil rz q2
end
/-- one keyword alone; the value is handed on -/
def gKw1 {α : Type} : List α → List α → List α
  | [], [a] => [a]
  | _, _ => []
/-- three keywords alone, in the contrary sequence -/
def gKw321 {α : Type} : List α → List α → List α
  | [], [a, b, c] => [c, b, a]
  | _, _ => []
theorem gKw1_rel {vs : List V} {us : List Value} {zs : List V} {ws : List Value} (q : Vals vs us) (r : Vals zs ws) : Vals (gKw1 vs zs) (gKw1 us ws) := by
  match vs, us, q with
  | [], _, .nil =>
    match zs, ws, r with
    | [], _, .nil => exact .nil
    | [_], _, .cons r .nil => exact .cons r .nil
    | _ :: _ :: _, _, .cons _ (.cons _ _) => exact .nil
  | _ :: _, _, .cons _ _ =>
    show Vals [] []
    exact .nil
theorem gKw321_rel {vs : List V} {us : List Value} {zs : List V} {ws : List Value} (q : Vals vs us) (r : Vals zs ws) : Vals (gKw321 vs zs) (gKw321 us ws) := by
  match vs, us, q with
  | [], _, .nil =>
    match zs, ws, r with
    | [], _, .nil => exact .nil
    | [_], _, .cons _ .nil => exact .nil
    | [_, _], _, .cons _ (.cons _ .nil) => exact .nil
    | [_, _, _], _, .cons r1 (.cons r2 (.cons r3 .nil)) => exact .cons r3 (.cons r2 (.cons r1 .nil))
    | _ :: _ :: _ :: _ :: _, _, .cons _ (.cons _ (.cons _ (.cons _ _))) => exact .nil
  | _ :: _, _, .cons _ _ =>
    show Vals [] []
    exact .nil
end LD

namespace LDx
open PySem PySem.Spec PyProof.Rows L2 LD
section
variable {X : Cx}
theorem ps_setDc {i : Nat} {y : Str} {py : Pos} {kx vx tg iter : Expr} {ifs : List Expr} {scope : Scope} {own : List (Str × Nat)} {pos spos : Pos} {wi : TI} {g : TG} {tt : TT} {tk tv : TE} (hc : X.calm = true) (hN : X.N.Nodup) (hy : X.N[i]? = some y) (hyl : X.env.scope.names.lookup y = some .local)
    (hsw : swapsWith (.DictComp kx vx [⟨tg, iter, ifs, 0⟩] scope pos) (some (.Name y py)) spos.line X.env = pure true) (hi : PI X tg iter wi) (ok : BlkOk X.N X.env.scope scope own)
    (hg : ∀ (s : Shared) (H : Hp) (C : Addr) (cl : List (Str × Addr)) (fp : List Addr), PG (X.blk s H scope (compEnvC scope cl C X.env) fp) tg g) (ht : ∀ (s : Shared) (H : Hp) (C : Addr) (cl : List (Str × Addr)) (fp : List Addr), PTs (X.blk s H scope (compEnvC scope cl C X.env) fp) ifs tt)
    (hk : ∀ (s : Shared) (H : Hp) (C : Addr) (cl : List (Str × Addr)) (fp : List Addr), PE (X.blk s H scope (compEnvC scope cl C X.env) fp) kx tk)
    (he : ∀ (s : Shared) (H : Hp) (C : Addr) (cl : List (Str × Addr)) (fp : List Addr), PE (X.blk s H scope (compEnvC scope cl C X.env) fp) vx tv) (hs : ∀ x, foldedSetIterable iter X.env x = pure x := by intro _; rfl) :
    PS X (.Assign [.Name y py] (.DictComp kx vx [⟨tg, iter, ifs, 0⟩] scope pos) spos) (tAsg (tDc wi g tt tk tv (own.map (·.2))) (gName i)) := by
  refine ⟨fun pins s σ H D I h => ?_⟩
  rw [exec_Assign_Name_used _ _ _ _ hsw]
  refine wpAny_bind (wpAny_standAt (wpAny_bind ?_))
  show wpAny _ X.A (do let _ ← comprehension (.DictComp kx vx [⟨tg, iter, ifs, 0⟩] scope pos) scope X.env (firstIterPos [⟨tg, iter, ifs, 0⟩] pos) newDict false (eval iter X.env) (some (assign (.Name y py) X.env))) _ _ s
  have h : tDc wi g tt tk tv (own.map (·.2)) σ H (fun x H1 => gName i x σ H1 D.nx) := h
  refine wpAny_bind (thn (dc_core (Qf := fun _ s' => SP X pins D .next s') hc hN I hi ok hg ht hk he hs h fun L C s' m H' I' q hn f => ?_) fun _ s' hq => wpAny_pure (wpAny_pure hq))
  show wpAny _ _ (assign (.Name y py) X.env (.ref L)) _ _ _
  refine wpAny_assign_Name (store_ok2 (v := V.ref L) I' hN hy (.inl hyl) rfl (fun s2 I2 ⟨a, sb, ha⟩ => ?_) (.inr hyl))
  obtain ⟨f0, f1, f2, f3, f4, f5⟩ := f
  have haC : C ≠ a := by
    rcases ha with z | z
    · rw [z]; exact f1
    · exact fun e => f4 y a z e.symm
  refine ⟨m, hn.sameBut sb haC, fun h3 sb3 => ?_⟩
  exact ⟨_, H', I2.turned (t' := s2.toks) (fun b o hb e => (sb3.2 b hb).trans e) f0 f1 f3 f4 f5, q⟩
theorem ps_setDcT {i : Nat} {y : Str} {py : Pos} {kx vx tg iter : Expr} {ifs : List Expr} {scope : Scope} {own : List (Str × Nat)} {pos spos : Pos} {wi : TI} {g : TG} {tt : TT} {tk tv : TE} (hu : X.A.units + 1 < cLine) (hc : X.calm = true) (hN : X.N.Nodup) (hy : X.N[i]? = some y) (hyl : X.env.scope.names.lookup y = some .local)
    (hsw : swapsWith (.DictComp kx vx [⟨tg, iter, ifs, 0⟩] scope pos) (some (.Name y py)) spos.line X.env = pure true) (hi : PI X tg iter wi) (ok : BlkOk X.N X.env.scope scope own)
    (hg : ∀ (s : Shared) (H : Hp) (C : Addr) (cl : List (Str × Addr)) (fp : List Addr), PG (X.blk s H scope (compEnvC scope cl C X.env) fp) tg g) (ht : ∀ (s : Shared) (H : Hp) (C : Addr) (cl : List (Str × Addr)) (fp : List Addr), PTs (X.blk s H scope (compEnvC scope cl C X.env) fp) ifs tt)
    (hk : ∀ (s : Shared) (H : Hp) (C : Addr) (cl : List (Str × Addr)) (fp : List Addr), PE (X.blk s H scope (compEnvC scope cl C X.env) fp) kx tk)
    (he : ∀ (s : Shared) (H : Hp) (C : Addr) (cl : List (Str × Addr)) (fp : List Addr), PE (X.blk s H scope (compEnvC scope cl C X.env) fp) vx tv) (hs : ∀ x, foldedSetIterable iter X.env x = pure x := by intro _; rfl) :
    PS X (.Assign [.Name y py] (.DictComp kx vx [⟨tg, iter, ifs, 0⟩] scope pos) spos) (tAsg (tDcT wi g tt tk tv (own.map (·.2))) (gName i)) := by
  refine ⟨fun pins s σ H D I h => ?_⟩
  rw [exec_Assign_Name_used _ _ _ _ hsw]
  refine wpAny_bind (wpAny_standAt (wpAny_bind ?_))
  show wpAny _ X.A (do let _ ← comprehension (.DictComp kx vx [⟨tg, iter, ifs, 0⟩] scope pos) scope X.env (firstIterPos [⟨tg, iter, ifs, 0⟩] pos) newDict false (eval iter X.env) (some (assign (.Name y py) X.env))) _ _ s
  have h : tDcT wi g tt tk tv (own.map (·.2)) σ H (fun x H1 => gName i x σ H1 D.nx) := h
  refine wpAny_bind (thn (dc_coreT (Qf := fun _ s' => SP X pins D .next s') hu hc hN I hi ok hg ht hk he hs h fun L C s' m H' I' q hn f => ?_) fun _ s' hq => wpAny_pure (wpAny_pure hq))
  show wpAny _ _ (assign (.Name y py) X.env (.ref L)) _ _ _
  refine wpAny_assign_Name (store_ok2 (v := V.ref L) I' hN hy (.inl hyl) rfl (fun s2 I2 ⟨a, sb, ha⟩ => ?_) (.inr hyl))
  obtain ⟨f0, f1, f2, f3, f4, f5⟩ := f
  have haC : C ≠ a := by
    rcases ha with z | z
    · rw [z]; exact f1
    · exact fun e => f4 y a z e.symm
  refine ⟨m, hn.sameBut sb haC, fun h3 sb3 => ?_⟩
  exact ⟨_, H', I2.turned (t' := s2.toks) (fun b o hb e => (sb3.2 b hb).trans e) f0 f1 f3 f4 f5, q⟩
theorem sw_trueD {kx vx : Expr} {gs : List Comprehension} {scope : Scope} {pos py : Pos} {y : Str} {l : Nat} {env : Env} (hk : env.scope.kind = .function) (hy : env.scope.names.lookup y = some .local) (hl : (py.line == pos.line) = true)
    (ha : (scope.names.any fun (n, k) => n == y && (k == .local || k == .cell)) = false) : swapsWith (.DictComp kx vx gs scope pos) (some (.Name y py)) l env = pure true := by
  have ky : env.kindOf y = some .local := hy
  have hb : env.blockKind = .function := by unfold Env.blockKind; rw [hk]; rfl
  unfold swapsWith
  simp only [hb, ky, ha, Expr.pos, hl]
  rfl
end
end LDx

end
section
set_option Elab.async false
set_option linter.all false
set_option maxRecDepth 100000
/-! LW: the steps of a reading, and what a def of the text promises to its callers. -/
namespace LW
open PySem PySem.Spec PyProof.Rows L2

/-! ### short names of what operators and built-ins ask -/
abbrev oAdd : R2 := rI0 fun i j => .int (i + j)
abbrev oSub : R2 := rI0 fun i j => .int (i - j)
abbrev oMul : R2 := rI CMul fun i j => .int (i * j)
abbrev oFdiv : R2 := rI CDivN fun i j => .int (i.fdiv j)
abbrev oMod : R2 := rI (fun _ j => j ≠ 0) fun i j => .int (i.fmod j)
abbrev oPow : R2 := rI CPow fun i j => .int (i ^ j.toNat)
abbrev oNeg : V → Hp → VK → Prop := rU fun i => .int (-i)
abbrev oLt : R2 := rI0 fun i j => .bl (decide (i < j))
abbrev oLe : R2 := rI0 fun i j => .bl (decide (i ≤ j))
abbrev oGt : R2 := rI0 fun i j => .bl (decide (j < i))
abbrev oGe : R2 := rI0 fun i j => .bl (decide (j ≤ i))
abbrev oIsN : R2 := fun x y H Q => y = .non ∧ Q (.bl (decide (x = .non))) H
abbrev oNotN : R2 := fun x y H Q => y = .non ∧ Q (.bl (!decide (x = .non))) H
abbrev oAddS : R2 := fun x y H Q => ∃ i j, x = .str i ∧ y = .str j ∧ i.length + j.length ≤ sizeLine ∧ Q (.str (i ++ j)) H
abbrev oInS : R2 := fun x y H Q => ∃ (c : Nat) (z : Str), x = .str ⟨#[c]⟩ ∧ y = .str z ∧ Q (.bl (decide (c ∈ z.cps.toList))) H
abbrev oNotInS : R2 := fun x y H Q => ∃ (c : Nat) (z : Str), x = .str ⟨#[c]⟩ ∧ y = .str z ∧ Q (.bl (!decide (c ∈ z.cps.toList))) H
abbrev oLtS : R2 := fun x y H Q => ∃ i j, x = .str i ∧ y = .str j ∧ Q (.bl (decide (i.cps.toList < j.cps.toList))) H
abbrev oLeS : R2 := fun x y H Q => ∃ i j, x = .str i ∧ y = .str j ∧ Q (.bl (!decide (j.cps.toList < i.cps.toList))) H
abbrev oGtS : R2 := fun x y H Q => ∃ i j, x = .str i ∧ y = .str j ∧ Q (.bl (decide (j.cps.toList < i.cps.toList))) H
abbrev oGeS : R2 := fun x y H Q => ∃ i j, x = .str i ∧ y = .str j ∧ Q (.bl (!decide (i.cps.toList < j.cps.toList))) H
abbrev RL := List V → Hp → VK → Prop
abbrev oLen (K : PySem.W.Frag) : RL := fun xs H Q => ∃ p ys, xs = [.ref p] ∧ (SqL K H p ys ∨ SqT K H p ys) ∧ Q (.int ys.length) H
abbrev oLenS : RL := fun xs H Q => ∃ z, xs = [.str z] ∧ z.length ≤ sizeLine ∧ Q (.int z.length) H
abbrev oLenD : RL := fun xs H Q => ∃ (a : Addr) (kvs : List (Key × V)), xs = [V.ref a] ∧ H a = some (.dK kvs) ∧ Q (.int kvs.length) H
abbrev oInt : RL := fun xs H Q => (∃ i, xs = [.int i] ∧ Q (.int i) H) ∨ ∃ k, xs = [.bl k] ∧ Q (.int (if k then 1 else 0)) H
abbrev oMax2 : RL := fun xs H Q => ∃ i j, xs = [.int i, .int j] ∧ Q (.int (if j > i then j else i)) H
abbrev oMin2 : RL := fun xs H Q => ∃ i j, xs = [.int i, .int j] ∧ Q (.int (if j < i then j else i)) H
abbrev oListOf (K : PySem.W.Frag) : RL := fun xs H Q => ∃ p ys, xs = [.ref p] ∧ (SqL K H p ys ∨ SqT K H p ys) ∧ ∀ l, H l = none → Q (.ref l) (upd H l (.lst ys))
abbrev oListT : RL := fun xs H Q => ∃ d kvs, xs = [V.ref d] ∧ Rd H d (.dT kvs) ∧ ∀ p bs, H p = none → IsKeys H kvs bs → Q (.ref p) (upd H p (.lst (bs.map V.ref)))
abbrev oTru (K : PySem.W.Frag) (ta : TE) : TT := fun σ H Q => ta σ H fun x H' => ∃ k, TruV K x H' k ∧ Q k H'
section
variable {K : PySem.W.Frag} {σ : L2.St} {H H' : Hp} {D : Ends} {Q : VK} {QT : Bool → Hp → Prop} {QA : List V → Hp → Prop} {v x y z : V} {i j l : Nat} {t u : TS} {ta tb te tc : TE} {ct : TT} {tA tB' : TT} {g : TG} {aa ab : TA} {a p q : Addr} {xs ys : List V} {o w : HO} {E : XK}
/-! ### statements -/
theorem s_seq (h : t { D with nx := u D } σ H) : tSeq t u D σ H := h
theorem s_next (h : D.nx σ H) : tNext D σ H := h
theorem s_brk (h : D.bk σ H) : tBreak D σ H := h
theorem s_cont (h : D.ct σ H) : tCont D σ H := h
theorem s_asg (h : te σ H fun x H1 => g x σ H1 D.nx) : tAsg te g D σ H := h
theorem s_ret (h : te σ H D.rt) : tRet te D σ H := h
theorem s_retN (h : D.rt .non H) : tRetN D σ H := h
theorem s_drop (h : te σ H fun _ H1 => D.nx σ H1) : tDrop te D σ H := h
theorem s_ifs (h : ct σ H fun b H1 => if b = true then t D σ H1 else u D σ H1) : tIfS ct t u D σ H := h
theorem s_aug {ti : TIp} (hx : σ[i]? = some (some x)) (h : te σ H fun y H1 => ti x y H1 fun z H2 => D.nx (σ.set i (some z)) H2) : tAug i te ti D σ H := ⟨x, hx, h⟩
theorem s_par (h : aa σ H fun vs H1 => ∃ v w, vs = [v, w] ∧ D.nx ((σ.set i (some v)).set j (some w)) H1) : tPar i j aa D σ H := h
theorem s_par3 (h : aa σ H fun vs H1 => ∃ u v w, vs = [u, v, w] ∧ D.nx (((σ.set i (some u)).set j (some v)).set l (some w)) H1) : tPar3 i j l aa D σ H := h
theorem s_par_end {P : V → V → Prop} (h : P x y) : ∃ v w, [x, y] = [v, w] ∧ P v w := ⟨x, y, rfl, h⟩
theorem s_par3_end {P : V → V → V → Prop} (h : P x y z) : ∃ u v w, [x, y, z] = [u, v, w] ∧ P u v w := ⟨x, y, z, rfl, h⟩
theorem s_dput (h : te σ H fun v H1 => ta σ H1 fun x H2 => tb σ H2 fun y H3 => ∃ a H4, x = .ref a ∧ DPut H3 a y v H4 ∧ D.nx σ H4) : sDPut ta tb te D σ H := h
/-! ### targets -/
theorem g_name {R : L2.St → Hp → Prop} (h : R (σ.set i (some v)) H) : gName i v σ H R := h
theorem g_sub {ts : TSet} {R : L2.St → Hp → Prop} (h : ta σ H fun o H1 => tb σ H1 fun i H2 => ts o i v H2 fun H3 => R σ H3) : gSub ta tb ts v σ H R := h
theorem g_nil {R : L2.St → Hp → Prop} (h : R σ H) : gNil [] σ H R := ⟨rfl, h⟩
theorem g_cons {u : TGs} {R : L2.St → Hp → Prop} (h : g v σ H fun σ' H' => u xs σ' H' R) : gCons g u (v :: xs) σ H R := ⟨v, xs, rfl, h⟩
theorem g_tup {n : Nat} {u : TGs} {R : L2.St → Hp → Prop} (hs : SqT K H a xs) (hl : xs.length = n) (h : u xs σ H R) : gTup K n u (.ref a) σ H R := ⟨a, xs, rfl, hs, hl, h⟩
theorem g_setL {k : Int} {R : Hp → Prop} (hp : H p = some (.lst xs)) (hj : ixN xs.length k = some j) (h : R (upd H p (.lst (xs.set j v)))) : rSetL (.ref p) (.int k) v H R := ⟨p, xs, k, j, rfl, rfl, hp, hj, h⟩
/-! ### expressions -/
theorem e_var (hx : σ[i]? = some (some v)) (h : Q v H) : tVar i σ H Q := ⟨v, hx, h⟩
theorem e_c (h : Q v H) : tC v σ H Q := h
theorem e_op {r : R2} (h : ta σ H fun x H1 => tb σ H1 fun y H2 => r x y H2 Q) : tOp r ta tb σ H Q := h
theorem e_un {r : V → Hp → VK → Prop} (h : ta σ H fun x H1 => r x H1 Q) : tUn r ta σ H Q := h
theorem e_if (h : ct σ H fun c H1 => if c = true then ta σ H1 Q else tb σ H1 Q) : tIf ct ta tb σ H Q := h
theorem e_andV (h : ta σ H fun x H1 => ∃ c, x = .bl c ∧ if c = true then tb σ H1 Q else Q (.bl false) H1) : tAndV ta tb σ H Q := h
theorem e_orV (h : ta σ H fun x H1 => ∃ c, x = .bl c ∧ if c = true then Q (.bl true) H1 else tb σ H1 Q) : tOrV ta tb σ H Q := h
theorem e_notV (h : ta σ H fun x H1 => ∃ c, x = .bl c ∧ Q (.bl (!c)) H1) : tNotV ta σ H Q := h
theorem e_cb {r : List V → Hp → VK → Prop} (h : aa σ H fun vs H1 => r vs H1 Q) : tCB r aa σ H Q := h
theorem e_call {sp : Sp} {dvs : List V} (h : aa σ H fun vs H1 => sp (vs ++ dvs) H1 Q E) : tCall sp dvs E aa σ H Q := h
theorem e_callK {sp : Sp} {gV : List V → List V → List V} (h : aa σ H fun vs H1 => ab σ H1 fun zs H2 => sp (gV vs zs) H2 Q E) : tCallK sp gV E aa ab σ H Q := h
theorem e_tup (h : aa σ H fun xs H1 => xs.length ≤ sizeLine ∧ ∀ p, H1 p = none → Q (.ref p) (upd H1 p (.tup xs))) : tTup aa σ H Q := h
theorem e_lst (h : aa σ H fun xs H1 => xs.length ≤ sizeLine ∧ ∀ p, H1 p = none → Q (.ref p) (upd H1 p (.lst xs))) : tLst aa σ H Q := h
theorem e_dnewK (h : ∀ p, H p = none → Q (.ref p) (upd H p (.dK []))) : tDNewK σ H Q := h
theorem e_dnewT (h : ∀ p, H p = none → Q (.ref p) (upd H p (.dT []))) : tDNewT σ H Q := h
theorem e_dget (h : ta σ H fun x H1 => tb σ H1 fun y H2 => ∃ a v, x = .ref a ∧ DGet H2 a y (some v) ∧ Q v H2) : tDGet ta tb σ H Q := h
theorem e_dget2 (h : ta σ H fun x H1 => ∃ a, x = .ref a ∧ IsD H1 a ∧ tb σ H1 fun y H2 => tc σ H2 fun z H3 => ∃ o, DGet H3 a y o ∧ Q (o.getD z) H3) : tDGet2 ta tb tc σ H Q := h
theorem e_din (h : ta σ H fun y H1 => tb σ H1 fun x H2 => ∃ a o, x = .ref a ∧ DGet H2 a y o ∧ Q (.bl o.isSome) H2) : tDIn ta tb σ H Q := h
theorem e_dnotin (h : ta σ H fun y H1 => tb σ H1 fun x H2 => ∃ a o, x = .ref a ∧ DGet H2 a y o ∧ Q (.bl (!o.isSome)) H2) : tDNotIn ta tb σ H Q := h
theorem e_then {k : V → Hp → VK → Prop} (h : ta σ H fun x H1 => k x H1 Q) : tThen ta k σ H Q := h
theorem e_bm {T : String} {r : V → List V → Hp → VK → Prop} (h : ta σ H fun x H1 => tyV K T x H1 ∧ aa σ H1 fun xs H2 => r x xs H2 Q) : tBM K T r ta aa σ H Q := h
theorem e_bm0 {T : String} {r : V → List V → Hp → VK → Prop} (h : ta σ H fun x H1 => tyV K T x H1 ∧ r x [] H1 Q) : tBM0 K T r ta σ H Q := h
theorem e_sl {r : V → Option Int → Option Int → Hp → VK → Prop} {tl th : TO} (h : ta σ H fun x H1 => tl σ H1 fun l H2 => th σ H2 fun u H3 => r x l u H3 Q) : tSl r ta tl th σ H Q := h
theorem o_none {R : Option Int → Hp → Prop} (h : R none H) : tNoPart σ H R := h
theorem o_part {R : Option Int → Hp → Prop} (h : te σ H fun x H1 => ∃ i, x = .int i ∧ R (some i) H1) : tPart te σ H R := h
theorem o_part_end {R : Int → Prop} {n : Int} (h : R n) : ∃ i, V.int n = .int i ∧ R i := ⟨n, rfl, h⟩
theorem a_nil (h : QA [] H) : tNil σ H QA := h
theorem a_cons (h : ta σ H fun x H1 => aa σ H1 fun xs H2 => QA (x :: xs) H2) : tCons ta aa σ H QA := h
/-! ### tests -/
theorem t_test (h : te σ H fun x H' => ∃ k, x = .bl k ∧ QT k H') : tTest te σ H QT := h
theorem t_B (h : te σ H fun x H' => ∃ k, x = .bl k ∧ QT k H') : tB te σ H QT := h
theorem t_end {b : Bool} {R : Bool → Prop} (h : R b) : ∃ k, V.bl b = .bl k ∧ R k := ⟨b, rfl, h⟩
theorem t_and (h : tA σ H fun c H1 => if c = true then tB' σ H1 QT else QT false H1) : tAnd tA tB' σ H QT := h
theorem t_or (h : tA σ H fun c H1 => if c = true then QT true H1 else tB' σ H1 QT) : tOr tA tB' σ H QT := h
theorem t_not (h : tA σ H fun c H1 => QT (!c) H1) : tNot tA σ H QT := h
theorem t_ite {b : Bool} {A B : Prop} (h1 : b = true → A) (h2 : b = false → B) : if b = true then A else B := by
  cases b with
  | true => exact h1 rfl
  | false => exact h2 rfl
theorem t_iteD {c : Prop} [Decidable c] {A B : Prop} (h1 : c → A) (h2 : ¬ c → B) : if decide c = true then A else B := by
  by_cases h : c
  · rw [if_pos (decide_eq_true h)]
    exact h1 h
  · rw [if_neg (by rw [decide_eq_false h]; exact Bool.false_ne_true)]
    exact h2 h
theorem t_iteN {c : Prop} [Decidable c] {A B : Prop} (h1 : ¬ c → A) (h2 : c → B) : if (!decide c) = true then A else B := by
  by_cases h : c
  · rw [if_neg (by rw [decide_eq_true h]; decide)]
    exact h2 h
  · rw [if_pos (by rw [decide_eq_false h]; rfl)]
    exact h1 h
/-! ### operators by values -/
theorem r_I0 {f : Int → Int → V} {m n : Int} (h : Q (f m n) H) : rI0 f (.int m) (.int n) H Q := ⟨m, n, rfl, rfl, h⟩
theorem r_I {C : Int → Int → Prop} {f : Int → Int → V} {m n : Int} (hc : C m n) (h : Q (f m n) H) : rI C f (.int m) (.int n) H Q := ⟨m, n, rfl, rfl, hc, h⟩
theorem r_mulR {f : Int → Int → V} {m n : Int} (hc : -(2 ^ 64) < n ∧ n < 2 ^ 64) (h : Q (f m n) H) : rI CMul f (.int m) (.int n) H Q := ⟨m, n, rfl, rfl, .inr hc, h⟩
theorem r_fdiv {f : Int → Int → V} {m n : Int} (hc : n ≠ 0) (hn : n.natAbs < 1073741824) (h : Q (f m n) H) : rI CDivN f (.int m) (.int n) H Q := ⟨m, n, rfl, rfl, ⟨hc, hn⟩, h⟩
theorem r_eqI {m n : Int} (h : Q (.bl (decide (m = n))) H) : rEq (.int m) (.int n) H Q := ⟨rfl, by
  have e : decide (V.int m = V.int n) = decide (m = n) := by
    by_cases z : m = n
    · subst z
      rw [decide_eq_true rfl, decide_eq_true rfl]
    · rw [decide_eq_false z, decide_eq_false fun q => z (V.int.inj q)]
  rw [e]
  exact h⟩
theorem r_neI {m n : Int} (h : Q (.bl (!decide (m = n))) H) : rNe (.int m) (.int n) H Q := ⟨rfl, by
  have e : decide (V.int m = V.int n) = decide (m = n) := by
    by_cases z : m = n
    · subst z
      rw [decide_eq_true rfl, decide_eq_true rfl]
    · rw [decide_eq_false z, decide_eq_false fun q => z (V.int.inj q)]
  rw [e]
  exact h⟩
theorem r_neg {f : Int → V} {m : Int} (h : Q (f m) H) : rU f (.int m) H Q := ⟨m, rfl, h⟩
theorem r_ixL {n : Int} (hs : SqL K H p xs) (hi : atI xs n = some v) (h : Q v H) : rIxL K (.ref p) (.int n) H Q := ⟨p, xs, n, v, rfl, rfl, hs, hi, h⟩
theorem r_ixT {n : Int} (hs : SqT K H p xs) (hi : atI xs n = some v) (h : Q v H) : rIxT K (.ref p) (.int n) H Q := ⟨p, xs, n, v, rfl, rfl, hs, hi, h⟩
theorem r_len {fl : Bool} (hs : SqL K H p xs ∨ SqT K H p xs) (h : Q (.int xs.length) H) : (fun (xs : List V) (H : Hp) (Q : VK) => ∃ p ys, xs = [.ref p] ∧ (SqL K H p ys ∨ SqT K H p ys) ∧ Q (.int ys.length) H) [.ref p] H Q := ⟨p, xs, rfl, hs, h⟩
theorem r_intI {n : Int} (h : Q (.int n) H) : (fun (xs : List V) (H : Hp) (Q : VK) => (∃ i, xs = [.int i] ∧ Q (.int i) H) ∨ ∃ k, xs = [.bl k] ∧ Q (.int (if k then 1 else 0)) H) [.int n] H Q := .inl ⟨n, rfl, h⟩
theorem r_intB {k : Bool} (h : Q (.int (if k then 1 else 0)) H) : (fun (xs : List V) (H : Hp) (Q : VK) => (∃ i, xs = [.int i] ∧ Q (.int i) H) ∨ ∃ k, xs = [.bl k] ∧ Q (.int (if k then 1 else 0)) H) [.bl k] H Q := .inr ⟨k, rfl, h⟩
theorem r_app {l : Addr} (hl : H l = some (.lst xs)) (hz : xs.length < sizeLine) (h : Q .non (upd H l (.lst (xs ++ [v])))) : rAppend (.ref l) [v] H Q := ⟨l, xs, v, rfl, rfl, hl, hz, h⟩
theorem r_tyL {l : Addr} {R : Prop} (hl : SqL K H l xs) (h : R) : tyV K "list" (.ref l) H ∧ R := ⟨.inl ⟨rfl, _, hl⟩, h⟩
theorem r_new {n : Nat} {R : Prop} (hn : n ≤ 1000) (h : R) : n ≤ sizeLine ∧ R := ⟨Nat.le_trans hn (by decide), h⟩
theorem r_add {m n : Int} (h : Q (.int (m + n)) H) : oAdd (.int m) (.int n) H Q := ⟨m, n, rfl, rfl, h⟩
theorem r_sub {m n : Int} (h : Q (.int (m - n)) H) : oSub (.int m) (.int n) H Q := ⟨m, n, rfl, rfl, h⟩
theorem r_mul {m n : Int} (hc : CMul m n) (h : Q (.int (m * n)) H) : oMul (.int m) (.int n) H Q := ⟨m, n, rfl, rfl, hc, h⟩
theorem r_fdivN {m n : Int} (hc : n ≠ 0 ∧ n.natAbs < 1073741824) (h : Q (.int (m.fdiv n)) H) : oFdiv (.int m) (.int n) H Q := ⟨m, n, rfl, rfl, hc, h⟩
theorem r_mod {m n : Int} (hc : n ≠ 0) (h : Q (.int (m.fmod n)) H) : oMod (.int m) (.int n) H Q := ⟨m, n, rfl, rfl, hc, h⟩
theorem r_pow {m n : Int} (hc : CPow m n) (h : Q (.int (m ^ n.toNat)) H) : oPow (.int m) (.int n) H Q := ⟨m, n, rfl, rfl, hc, h⟩
theorem r_lt {m n : Int} (h : Q (.bl (decide (m < n))) H) : oLt (.int m) (.int n) H Q := ⟨m, n, rfl, rfl, h⟩
theorem r_le {m n : Int} (h : Q (.bl (decide (m ≤ n))) H) : oLe (.int m) (.int n) H Q := ⟨m, n, rfl, rfl, h⟩
theorem r_gt {m n : Int} (h : Q (.bl (decide (n < m))) H) : oGt (.int m) (.int n) H Q := ⟨m, n, rfl, rfl, h⟩
theorem r_ge {m n : Int} (h : Q (.bl (decide (n ≤ m))) H) : oGe (.int m) (.int n) H Q := ⟨m, n, rfl, rfl, h⟩
theorem r_max2 {m n : Int} (h : Q (.int (if n > m then n else m)) H) : oMax2 [.int m, .int n] H Q := ⟨m, n, rfl, h⟩
theorem r_min2 {m n : Int} (h : Q (.int (if n < m then n else m)) H) : oMin2 [.int m, .int n] H Q := ⟨m, n, rfl, h⟩
theorem r_int {n : Int} (h : Q (.int n) H) : oInt [.int n] H Q := .inl ⟨n, rfl, h⟩
theorem r_intb {k : Bool} (h : Q (.int (if k then 1 else 0)) H) : oInt [.bl k] H Q := .inr ⟨k, rfl, h⟩
theorem r_lenL (hs : SqL K H p xs) (h : Q (.int xs.length) H) : oLen K [.ref p] H Q := ⟨p, xs, rfl, .inl hs, h⟩
theorem r_lenT (hs : SqT K H p xs) (h : Q (.int xs.length) H) : oLen K [.ref p] H Q := ⟨p, xs, rfl, .inr hs, h⟩
theorem r_listL (hs : SqL K H p xs) (h : ∀ l, H l = none → Q (.ref l) (upd H l (.lst xs))) : oListOf K [.ref p] H Q := ⟨p, xs, rfl, .inl hs, h⟩
theorem r_listT (hs : SqT K H p xs) (h : ∀ l, H l = none → Q (.ref l) (upd H l (.lst xs))) : oListOf K [.ref p] H Q := ⟨p, xs, rfl, .inr hs, h⟩
theorem r_tupL (hs : SqL K H p xs) (h : ∀ q, H q = none → Q (.ref q) (upd H q (.tup xs))) : kTup K (.ref p) H Q := .inl ⟨p, xs, rfl, hs, h⟩
theorem r_tupT (hs : SqT K H p xs) (h : Q (.ref p) H) : kTup K (.ref p) H Q := .inr ⟨p, xs, rfl, hs, h⟩
theorem r_sum {ns : List Int} (hs : SqL K H p (ns.map V.int)) (h : Q (.int ns.sum) H) : rSum K [.ref p] H Q := ⟨p, ns, rfl, hs, h⟩
theorem r_max {ns : List Int} (hs : SqL K H p (ns.map V.int)) (h0 : 0 < ns.length) (h : ∀ m, m ∈ ns → (∀ y, y ∈ ns → y ≤ m) → Q (.int m) H) : rMax K [.ref p] H Q := ⟨p, ns, rfl, hs, h0, h⟩
theorem t_yes {c : Prop} [Decidable c] {A B : Prop} (hc : c) (h : A) : if decide c = true then A else B := by
  rw [if_pos (decide_eq_true hc)]
  exact h
theorem t_noo {c : Prop} [Decidable c] {A B : Prop} (hc : ¬ c) (h : B) : if decide c = true then A else B := by
  rw [if_neg (by rw [decide_eq_false hc]; exact Bool.false_ne_true)]
  exact h
/-! ### the heap -/
theorem u_old (h : H q = some o) (hp : H p = none) : upd H p w q = some o := by
  rw [upd_ne (ne_of_none h hp)]
  exact h
theorem u_oth (hn : q ≠ p) (h : H q = some o) : upd H p w q = some o := by
  rw [upd_ne hn]
  exact h
theorem u_kind {o' : HO} (h : H q = some o) (hp : H p = some o') (d : o ≠ o') : upd H p w q = some o := by
  rw [upd_ne (ne_of h hp d)]
  exact h
theorem u_none (h : H q = none) (hp : q ≠ p) : upd H p w q = none := by
  rw [upd_ne hp]
  exact h
theorem _root_.L2.Same.new (h : H p = none) : Same H (upd H p o) := fun b u e => u_old e h
theorem _root_.L2.Same.mut {H0 : Hp} (s : Same H0 H) (h : H0 p = none) : Same H0 (upd H p o) := fun b u e => by
  rw [upd_ne (ne_of_none e h)]
  exact s b u e
theorem _root_.L2.Same.upd (s : Same H H') (h : H' p = none) : Same H (upd H' p o) := fun b u e => u_old (s b u e) h
theorem ne_none (hp : H p = none) (h : H q = some o) : q ≠ p := ne_of_none h hp
theorem same_app (s : Same H H') (h : H q = some o) : H' q = some o := s q o h
theorem _root_.L2.Same.sqT {K : PySem.W.Frag} (e : Same H H') (h : SqT K H a xs) : SqT K H' a xs := by
  rcases h with (h | ⟨o, h⟩) | h
  · exact .inl (.inl (e _ _ h))
  · exact .inl (.inr ⟨o, e _ _ h⟩)
  · exact .inr h
theorem same_sqT {K : PySem.W.Frag} (e : Same H H') (h : SqT K H a xs) : SqT K H' a xs := e.sqT h
theorem same_sqL {K : PySem.W.Frag} (e : Same H H') (h : SqL K H a xs) : SqL K H' a xs := e.seq h
theorem new_sqT {K : PySem.W.Frag} (e : H p = none) (h : SqT K H a xs) : SqT K (upd H p o) a xs := (L2.Same.new e).sqT h
theorem new_sqL {K : PySem.W.Frag} (e : H p = none) (h : SqL K H a xs) : SqL K (upd H p o) a xs := (L2.Same.new e).seq h
theorem mut_sqT {K : PySem.W.Frag} {u : HO} (hd : H p = some u) (hm : Mut (some u)) (h : SqT K H a xs) : SqT K (upd H p o) a xs := by
  rcases h with (h | ⟨ob, h⟩) | h
  · refine .inl (.inl (u_oth (fun e => ?_) h))
    subst e
    rw [hd] at h
    cases h
    exact hm
  · refine .inl (.inr ⟨ob, u_oth (fun e => ?_) h⟩)
    subst e
    rw [hd] at h
    cases h
    exact hm
  · exact .inr h
/-- all that was tracked but the thing at b is as it was -/
def Kb (b : Addr) (H H' : Hp) : Prop := ∀ c o, H c = some o → c ≠ b → H' c = some o
theorem kb_app {b : Addr} (s : Kb b H H') (hn : q ≠ b) (h : H q = some o) : H' q = some o := s q o h hn
theorem Kb.refl (b : Addr) (H : Hp) : Kb b H H := fun _ _ h _ => h
theorem Kb.trans {b : Addr} {H H1 H2 : Hp} (s : Kb b H H1) (u : Kb b H1 H2) : Kb b H H2 := fun c o h n => u c o (s c o h n) n
theorem Kb.same {b : Addr} {H H1 H2 : Hp} (s : Kb b H H1) (u : Same H1 H2) : Kb b H H2 := fun c o h n => u c o (s c o h n)
theorem Kb.of {b : Addr} {H H1 : Hp} (u : Same H H1) : Kb b H H1 := fun c o h n => u c o h
theorem Kb.new {b : Addr} (s : Kb b H H') (h : H' p = none) : Kb b H (upd H' p o) := fun c u e n => u_old (s c u e n) h
theorem Kb.mut {b : Addr} {H0 : Hp} (s : Kb b H0 H) (h : H0 p = none) : Kb b H0 (upd H p o) := fun c u e n => by
  rw [upd_ne (ne_of_none e h)]
  exact s c u e n
theorem Kb.self {b : Addr} {H0 : Hp} (s : Kb b H0 H) : Kb b H0 (upd H b o) := fun c u e n => by
  rw [upd_ne n]
  exact s c u e n
theorem Kb.free {b : Addr} (s : Kb b H H') (h : H' q = none) (hb : q ≠ b) : H q = none := by
  cases e : H q with
  | none => rfl
  | some o =>
    rw [s q o e hb] at h
    cases h
end
/-! ### items, rests -/
theorem at_int {ns : List Int} {n : Int} (h0 : 0 ≤ n) (h1 : n < ns.length) : atI (ns.map V.int) n = some (.int (ns.getD n.toNat 0)) := by
  have hn : ((n.toNat : Nat) : Int) = n := by omega
  have hl : n.toNat < ns.length := by omega
  have e := atI_nat (xs := ns.map V.int) (j := n.toNat) (v := .int (ns.getD n.toNat 0)) (by
    rw [List.getElem?_map, List.getElem?_eq_getElem hl, List.getD_eq_getElem?_getD, List.getElem?_eq_getElem hl]
    rfl)
  rw [hn] at e
  exact e
theorem at_nat {xs : List V} {n : Int} {v : V} (h0 : 0 ≤ n) (h : xs[n.toNat]? = some v) : atI xs n = some v := by
  have e := atI_nat h
  have hn : ((n.toNat : Nat) : Int) = n := by omega
  rw [hn] at e
  exact e
theorem fm_nn {m n : Int} (h : 0 < n) : 0 ≤ m.fmod n := by
  rw [Int.fmod_eq_emod_of_nonneg _ (by omega)]
  exact Int.emod_nonneg _ (by omega)
theorem fm_lt {m n : Int} (h : 0 < n) : m.fmod n < n := by
  rw [Int.fmod_eq_emod_of_nonneg _ (by omega)]
  exact Int.emod_lt_of_pos _ h
/-! ### promises by the number of arguments -/
def sp0 (P : Hp → VK → Prop) : Sp := fun vs H Q _ => vs = [] ∧ P H Q
def sp1 (P : V → Hp → VK → Prop) : Sp := fun vs H Q _ => ∃ a, vs = [a] ∧ P a H Q
def sp2 (P : V → V → Hp → VK → Prop) : Sp := fun vs H Q _ => ∃ a b, vs = [a, b] ∧ P a b H Q
def sp3 (P : V → V → V → Hp → VK → Prop) : Sp := fun vs H Q _ => ∃ a b c, vs = [a, b, c] ∧ P a b c H Q
def sp4 (P : V → V → V → V → Hp → VK → Prop) : Sp := fun vs H Q _ => ∃ a b c d, vs = [a, b, c, d] ∧ P a b c d H Q
def sp5 (P : V → V → V → V → V → Hp → VK → Prop) : Sp := fun vs H Q _ => ∃ a b c d e, vs = [a, b, c, d, e] ∧ P a b c d e H Q
section
variable {H : Hp} {Q : VK} {E : XK} {a b c d e : V} {vs : List V}
theorem c_sp1 {P : V → Hp → VK → Prop} (h : P a H Q) : sp1 P ([a] ++ []) H Q E := ⟨a, rfl, h⟩
theorem c_sp2 {P : V → V → Hp → VK → Prop} (h : P a b H Q) : sp2 P ([a, b] ++ []) H Q E := ⟨a, b, rfl, h⟩
theorem c_sp3 {P : V → V → V → Hp → VK → Prop} (h : P a b c H Q) : sp3 P ([a, b, c] ++ []) H Q E := ⟨a, b, c, rfl, h⟩
theorem c_sp4 {P : V → V → V → V → Hp → VK → Prop} (h : P a b c d H Q) : sp4 P ([a, b, c, d] ++ []) H Q E := ⟨a, b, c, d, rfl, h⟩
theorem c_sp5 {P : V → V → V → V → V → Hp → VK → Prop} (h : P a b c d e H Q) : sp5 P ([a, b, c, d, e] ++ []) H Q E := ⟨a, b, c, d, e, rfl, h⟩
end
/-! ### a def of the text as its callers see it -/
structure Df (K : PySem.W.Frag) (mg : Str → Option Value) (x : Str) (st : Stmt) : Prop where
  ex : ∃ (f : Addr) (fd : FuncData), Fun K x x st f fd ∧ mg x = some (.ref f)
theorem df_mk {K : PySem.W.Frag} {h : Heap} {mg : Str → Option Value} {x : Str} {st : Stmt} {f : Addr} {oc kV dc pm cd ct : Value} {od an : Option Addr} {sl : Array (Option Value)} (X : K.In h) (G : h.Ns mainGlobals mg)
    (a : PySem.W.nsIn K mainGlobals x = some (some (.ref f))) (l : K.lookup f = some ⟨oc, od, .func (PySem.W.fnOf x x (defArgs st) (defBody st) (defScope st) .none kV dc pm an cd ct), sl⟩)
    (c : PySem.W.codeIn K cd x = true) (k : PySem.W.keepIn K (.ref f) = true) : Df K mg x st := ⟨f, _, fun_mk l c k, PySem.W.mg_of X G a⟩
/-- the def x keeps the promise sp, called with values alone (ks = []) or by the names ks of its parameters -/
structure Cl (P : Program) (w : World) (K : PySem.W.Frag) (mg : Str → Option Value) (base : Heap) (k : Nat) (x : Str) (sp : Sp) : Prop where
  ex : ∃ (f : Addr) (fd : FuncData) (ps : List Str), FnOk P w K mg base CX0 k f fd ps sp ∧ mg x = some (.ref f) ∧ PySem.W.keepIn K (.ref f) = true ∧ Binds K fd ps []
structure ClK (P : Program) (w : World) (K : PySem.W.Frag) (mg : Str → Option Value) (base : Heap) (k : Nat) (x : Str) (sp : Sp) (ks : List Str) (gV : List V → List V → List V) : Prop where
  ex : ∃ (f : Addr) (fd : FuncData) (ps : List Str) (g : List Value → List Value → List Value), FnOk P w K mg base CX0 k f fd ps sp ∧ mg x = some (.ref f) ∧ PySem.W.keepIn K (.ref f) = true ∧ KBinds K fd ps ks g gV
section
variable {P : Program} {w : World} {K : PySem.W.Frag} {mg : Str → Option Value} {base : Heap} {x : Str} {st : Stmt} {N ps : List Str} {k : Nat} {sp : Sp}
abbrev Body (P : Program) (w : World) (K : PySem.W.Frag) (mg : Str → Option Value) (base : Heap) (x : Str) (st : Stmt) (N : List Str) (k : Nat) (sp : Sp) : Prop :=
  ∀ (f : Addr) (cdv : Value) (A : Around) (outer : List Env) (s : Shared) (H : Hp) (vs : List V) (Q : VK) (E : XK), Room k (A.deeper (envOfC x (defScope st) s.heap.objs.size f cdv)) → sp vs H Q E →
      ∃ t, PSs (cxOf CX0 P w K mg base N x (defScope st) f cdv A outer s H E).nox (defBody st) t ∧ t { nx := fun _ H' => Q .non H', rt := Q } (start N vs) H
theorem Df.fn (D : Df K mg x st) (S : FnScope N ps (defScope st)) (len : ∀ vs H Q E, sp vs H Q E → vs.length = ps.length) (hbody : Body P w K mg base x st N k sp) :
    ∃ f fd, Fun K x x st f fd ∧ mg x = some (.ref f) ∧ FnOk P w K mg base CX0 (k + 1) f fd ps sp := by
  obtain ⟨f, fd, F, m⟩ := D.ex
  exact ⟨f, fd, F, m, F.ok S len fun cdv A outer s H vs Q E => hbody f cdv A outer s H vs Q E⟩
theorem Df.cl (D : Df K mg x st) (S : FnScope N ps (defScope st))
    (hb : ∀ (kV doc pm : Value) (an : Option Addr) (cdv ct : Value) (us : List Value), us.length = ps.length → bindArgs (PySem.W.fnOf x x (defArgs st) (defBody st) (defScope st) .none kV doc pm an cdv ct) ⟨us, []⟩ = pure (ps.zip us))
    (len : ∀ vs H Q E, sp vs H Q E → vs.length = ps.length) (hbody : Body P w K mg base x st N k sp) : Cl P w K mg base (k + 1) x sp := by
  obtain ⟨f, fd, F, m, G⟩ := D.fn (P := P) (w := w) (base := base) S len hbody
  exact ⟨f, fd, ps, G, m, F.kp, F.binds hb⟩
/-- .. and by keywords -/
theorem Df.clK {ks : List Str} {g : List Value → List Value → List Value} {gV : List V → List V → List V} (D : Df K mg x st) (S : FnScope N ps (defScope st))
    (hb : ∀ (kV doc pm : Value) (an : Option Addr) (cdv ct : Value) (us ws : List Value), (g us ws).length = ps.length → bindArgs (PySem.W.fnOf x x (defArgs st) (defBody st) (defScope st) .none kV doc pm an cdv ct) ⟨us, ks.zip ws⟩ = pure (ps.zip (g us ws)))
    (hr : ∀ {vs : List V} {us : List Value} {zs : List V} {ws : List Value}, Vals vs us → Vals zs ws → Vals (gV vs zs) (g us ws))
    (len : ∀ vs H Q E, sp vs H Q E → vs.length = ps.length) (hbody : Body P w K mg base x st N k sp) : ClK P w K mg base (k + 1) x sp ks gV := by
  obtain ⟨f, fd, F, m, G⟩ := D.fn (P := P) (w := w) (base := base) S len hbody
  refine ⟨f, fd, ps, g, G, m, F.kp, ?_⟩
  obtain ⟨oc, od, kV, doc, pm, an, cdv, ct, osl, rfl, lk, hcd⟩ := F.ex
  exact ⟨fun s us ws _ hl => .of_eq (hb kV doc pm an cdv ct us ws hl), hr⟩
theorem len1 {P : V → Hp → VK → Prop} : ∀ vs H Q E, sp1 P vs H Q E → vs.length = 1 := fun _ _ _ _ h => by
  obtain ⟨a, rfl, _⟩ := h
  rfl
theorem len2 {P : V → V → Hp → VK → Prop} : ∀ vs H Q E, sp2 P vs H Q E → vs.length = 2 := fun _ _ _ _ h => by
  obtain ⟨a, b, rfl, _⟩ := h
  rfl
theorem len3 {P : V → V → V → Hp → VK → Prop} : ∀ vs H Q E, sp3 P vs H Q E → vs.length = 3 := fun _ _ _ _ h => by
  obtain ⟨a, b, c, rfl, _⟩ := h
  rfl
theorem len4 {P : V → V → V → V → Hp → VK → Prop} : ∀ vs H Q E, sp4 P vs H Q E → vs.length = 4 := fun _ _ _ _ h => by
  obtain ⟨a, b, c, d, rfl, _⟩ := h
  rfl
theorem len5 {P : V → V → V → V → V → Hp → VK → Prop} : ∀ vs H Q E, sp5 P vs H Q E → vs.length = 5 := fun _ _ _ _ h => by
  obtain ⟨a, b, c, d, e, rfl, _⟩ := h
  rfl
end
section
variable {X : Cx} {k j : Nat} {x : Str} {sp : Sp} {p pos : Pos} {e : Expr} {es : List Expr} {t tk : TA} {kws : List Keyword} {ks : List Str} {gV : List V → List V → List V}
/-- f(e, ..) -/
theorem pe_cl (c : Cl X.prog X.w X.K X.mg X.base k x sp) (hr : Room j X.A) (hk : k ≤ j) (hg : Gl X x) (ha : PA X (e :: es) t)
    (hdb : (x == ("__debug__" : Str)) = false := by decide) (he : starEach (e :: es) X.env = (false, eval e X.env) :: starEach es X.env := by rfl) (hpl : (backTo pos (starEach es X.env)).any (·.1) = false := by rfl) :
    PE X (.Call (.Name x p) (e :: es) [] pos) (tCall sp [] E0 t) := by
  obtain ⟨f, fd, ps, F, hm, kp, b⟩ := c.ex
  exact pe_call F (hr.mono hk) hg hm kp b .nil pass0 ha hdb he hpl
theorem pe_clK (c : ClK X.prog X.w X.K X.mg X.base k x sp ks gV) (hr : Room j X.A) (hk : k ≤ j) (hg : Gl X x) (hkw : PK X kws tk) (hall : (backToKw pos (keywordEach kws X.env)).all (·.1.isSome) = true := by rfl)
    (hks : (backToKw pos (keywordEach kws X.env)).filterMap (·.1) = ks := by rfl) (hdb : (x == ("__debug__" : Str)) = false := by decide)
    (hpl : ((backTo pos (starEach [] X.env)).any (·.1) || (backToKw pos (keywordEach kws X.env)).any (·.1.isNone)) = false := by rfl) : PE X (.Call (.Name x p) [] kws pos) (tCallK sp gV E0 tNil tk) := by
  obtain ⟨f, fd, ps, g, F, hm, kp, b⟩ := c.ex
  exact LD.pe_callK0 F (hr.mono hk) hg hm kp b pass0 hkw hall hks hdb hpl
end
end LW

end
section
set_option Elab.async false
set_option linter.all false
set_option maxRecDepth 100000
/-! LE: dicts as association lists; loops and comprehensions over any iterator; locks. -/
namespace LW
open PySem PySem.Spec PyProof.Rows L2 LM

/-! ### a dict told by an association list -/
section
variable {κ κ' β : Type} [DecidableEq κ] [DecidableEq κ']
def encD (e : κ → κ') (f : β → V) (l : List (κ × β)) : List (κ' × V) := l.map fun p => (e p.1, f p.2)
theorem valV_enc {e : κ → κ'} {f : β → V} (inj : ∀ a b, e a = e b → a = b) (l : List (κ × β)) (k : κ) : valV (encD e f l) (e k) = (look l k).map f := by
  induction l with
  | nil => rfl
  | cons p l ih =>
    rw [look_cons]
    by_cases h : p.1 = k
    · rw [if_pos h]
      exact valV_pos (p := (e p.1, f p.2)) (by rw [h])
    · rw [if_neg h]
      exact (valV_neg (p := (e p.1, f p.2)) (r := encD e f l) (fun z => h (inj _ _ z))).trans ih
theorem putK_enc {e : κ → κ'} {f : β → V} (inj : ∀ a b, e a = e b → a = b) (l : List (κ × β)) (k : κ) (v : β) : putK (encD e f l) (e k) (f v) = encD e f (put l k v) := by
  have h1 : ((encD e f l).any fun kv => decide (kv.1 = e k)) = l.any fun p => decide (p.1 = k) := by
    unfold encD
    rw [List.any_map]
    congr 1
    funext p
    show decide (e p.1 = e k) = decide (p.1 = k)
    by_cases h : p.1 = k
    · rw [decide_eq_true h, decide_eq_true (by rw [h])]
    · rw [decide_eq_false h, decide_eq_false fun z => h (inj _ _ z)]
  show (if ((encD e f l).any fun kv => decide (kv.1 = e k)) = true then (encD e f l).map (fun kv => if kv.1 = e k then (kv.1, f v) else kv) else encD e f l ++ [(e k, f v)]) = encD e f (put l k v)
  rw [h1]
  unfold put
  by_cases h : (l.any fun p => decide (p.1 = k)) = true
  · rw [if_pos h, if_pos h]
    unfold encD
    rw [List.map_map, List.map_map]
    apply List.map_congr_left
    intro p _
    show (if e p.1 = e k then (e p.1, f v) else (e p.1, f p.2)) = _
    by_cases h2 : p.1 = k
    · simp [h2]
    · have : ¬ e p.1 = e k := fun z => h2 (inj _ _ z)
      simp [h2, this]
  · rw [if_neg h, if_neg h]
    unfold encD
    rw [List.map_append]
    rfl
theorem keys_enc (e : κ → κ') (f : β → V) (l : List (κ × β)) : (encD e f l).map (·.1) = (keys l).map e := by
  unfold encD keys
  rw [List.map_map, List.map_map]
  rfl
theorem len_enc (e : κ → κ') (f : β → V) (l : List (κ × β)) : (encD e f l).length = l.length := List.length_map _
end
def kI : Int → Key := Sum.inl
theorem kI_inj (a b : Int) (h : kI a = kI b) : a = b := Sum.inl.inj h
theorem pK_inj (a b : Int × Int) (h : LS.pK a = LS.pK b) : a = b := by
  obtain ⟨a1, a2⟩ := a
  obtain ⟨b1, b2⟩ := b
  unfold LS.pK at h
  have h1 : a1 = b1 := Sum.inl.inj (List.cons.inj h).1
  have h2 : a2 = b2 := Sum.inl.inj (List.cons.inj (List.cons.inj h).2).1
  rw [h1, h2]
/-- ints to ints; pairs to ints; ints to True -/
abbrev encI (l : List (Int × Int)) : List (Key × V) := encD kI V.int l
abbrev encP (l : List ((Int × Int) × Int)) : List (List Key × V) := encD LS.pK V.int l
abbrev encB (l : List (Int × Bool)) : List (Key × V) := encD kI V.bl l
abbrev encPB (l : List ((Int × Int) × Bool)) : List (List Key × V) := encD LS.pK V.bl l

section
variable {K : PySem.W.Frag} {σ : L2.St} {H H' H1 : Hp} {D : Ends} {Q : VK} {QT : Bool → Hp → Prop} {v x y z : V} {t u : TS} {ta tb te tc : TE} {g : TG} {aa : TA} {a b p q : Addr} {xs ys : List V} {o w : HO}
/-! ### dicts asked, stored -/
theorem rd_of_eq {u : HO} (h : H a = some u) : Rd H a u := .inl h
theorem rd_frz {u : HO} {od : Obj} (h : H a = some (.frz od u)) : Rd H a u := .inr ⟨od, h⟩
theorem isD_K {kvs : List (Key × V)} (h : Rd H a (.dK kvs)) : IsD H a := .inl ⟨kvs, h⟩
theorem isD_T {kvs : List (List Key × V)} (h : Rd H a (.dT kvs)) : IsD H a := .inr ⟨kvs, h⟩
theorem q_isD {R : Addr → Prop} (h : IsD H a) (r : R a) : ∃ a', V.ref a = .ref a' ∧ IsD H a' ∧ R a' := ⟨a, rfl, h, r⟩
/-- d[n] -/
theorem q_getI {kvs : List (Key × V)} {n : Int} {R : V → Prop} (hr : Rd H a (.dK kvs)) (he : valV kvs (kI n) = some v) (h : R v) : ∃ a' v', V.ref a = .ref a' ∧ DGet H a' (.int n) (some v') ∧ R v' :=
  ⟨a, v, rfl, .inl ⟨kvs, kI n, hr, rfl, he.symm⟩, h⟩
theorem q_getP {kvs : List (List Key × V)} {k : List Key} {R : V → Prop} (hr : Rd H a (.dT kvs)) (hb : H b = some (.tup (k.map kV))) (he : valV kvs k = some v) (h : R v) : ∃ a' v', V.ref a = .ref a' ∧ DGet H a' (.ref b) (some v') ∧ R v' :=
  ⟨a, v, rfl, .inr ⟨kvs, k, b, hr, rfl, hb, he.symm⟩, h⟩
/-- d.get(n, z) behind its parts -/
theorem q_get2I {kvs : List (Key × V)} {n : Int} {R : Option V → Prop} (hr : Rd H a (.dK kvs)) (h : R (valV kvs (kI n))) : ∃ o, DGet H a (.int n) o ∧ R o := ⟨_, .inl ⟨kvs, kI n, hr, rfl, rfl⟩, h⟩
theorem q_get2P {kvs : List (List Key × V)} {k : List Key} {R : Option V → Prop} (hr : Rd H a (.dT kvs)) (hb : H b = some (.tup (k.map kV))) (h : R (valV kvs k)) : ∃ o, DGet H a (.ref b) o ∧ R o := ⟨_, .inr ⟨kvs, k, b, hr, rfl, hb, rfl⟩, h⟩
/-- n in d -/
theorem q_inI {kvs : List (Key × V)} {n : Int} {R : Option V → Prop} (hr : Rd H a (.dK kvs)) (h : R (valV kvs (kI n))) : ∃ a' o, V.ref a = .ref a' ∧ DGet H a' (.int n) o ∧ R o := ⟨a, _, rfl, .inl ⟨kvs, kI n, hr, rfl, rfl⟩, h⟩
theorem q_inP {kvs : List (List Key × V)} {k : List Key} {R : Option V → Prop} (hr : Rd H a (.dT kvs)) (hb : H b = some (.tup (k.map kV))) (h : R (valV kvs k)) : ∃ a' o, V.ref a = .ref a' ∧ DGet H a' (.ref b) o ∧ R o := ⟨a, _, rfl, .inr ⟨kvs, k, b, hr, rfl, hb, rfl⟩, h⟩
/-- d[n] = v behind its parts -/
theorem q_putI {kvs : List (Key × V)} {n : Int} {R : Hp → Prop} (hd : H a = some (.dK kvs)) (hz : kvs.length < sizeLine) (h : R (upd H a (.dK (putK kvs (kI n) v)))) : ∃ a' H4, V.ref a = .ref a' ∧ DPut H a' (.int n) v H4 ∧ R H4 :=
  ⟨a, _, rfl, .inl ⟨kvs, kI n, hd, rfl, hz, rfl⟩, h⟩
theorem q_putP {kvs : List (List Key × V)} {k : List Key} {R : Hp → Prop} (hd : H a = some (.dT kvs)) (hb : H b = some (.tup (k.map kV))) (hz : kvs.length < sizeLine) (h : R (upd H a (.dT (putK kvs k v)))) : ∃ a' H4, V.ref a = .ref a' ∧ DPut H a' (.ref b) v H4 ∧ R H4 :=
  ⟨a, _, rfl, .inr ⟨kvs, k, b, hd, rfl, hb, hz, rfl⟩, h⟩
theorem upd_id (h : H a = some o) : upd H a o = H := by
  funext c
  unfold upd
  by_cases e : c = a
  · rw [if_pos e, e, h]
  · rw [if_neg e]
theorem r_fresh {R : Addr → Prop} (h : ∀ p, H p = none → R p) : ∀ p, H p = none → R p := h
/-! ### the same over association lists -/
section
variable {β : Type} {f : β → V} {li : List (Int × β)} {lp : List ((Int × Int) × β)} {n : Int} {m : β} {k : Int × Int}
theorem k_get {R : V → Prop} (hr : Rd H a (.dK (encD kI f li))) (he : look li n = some m) (h : R (f m)) : ∃ a' v', V.ref a = .ref a' ∧ DGet H a' (.int n) (some v') ∧ R v' :=
  q_getI hr (by rw [valV_enc kI_inj, he]; rfl) h
theorem k_get2 {R : Option V → Prop} (hr : Rd H a (.dK (encD kI f li))) (h : R ((look li n).map f)) : ∃ o, DGet H a (.int n) o ∧ R o :=
  q_get2I hr (by rw [valV_enc kI_inj]; exact h)
theorem k_in {R : Option V → Prop} (hr : Rd H a (.dK (encD kI f li))) (h : R ((look li n).map f)) : ∃ a' o, V.ref a = .ref a' ∧ DGet H a' (.int n) o ∧ R o :=
  q_inI hr (by rw [valV_enc kI_inj]; exact h)
theorem getD_map {α : Type} (f : α → V) (o : Option α) (d : α) : (o.map f).getD (f d) = f (o.getD d) := by
  cases o with
  | none => rfl
  | some m => rfl
theorem k_put {R : Hp → Prop} (hd : H a = some (.dK (encD kI f li))) (hz : li.length < sizeLine) (h : R (upd H a (.dK (encD kI f (put li n m))))) : ∃ a' H4, V.ref a = .ref a' ∧ DPut H a' (.int n) (f m) H4 ∧ R H4 :=
  q_putI hd (by rw [len_enc]; exact hz) (by rw [putK_enc kI_inj]; exact h)
theorem p_get {R : V → Prop} (hr : Rd H a (.dT (encD LS.pK f lp))) (hb : LS.AtP H b k) (he : look lp k = some m) (h : R (f m)) : ∃ a' v', V.ref a = .ref a' ∧ DGet H a' (.ref b) (some v') ∧ R v' :=
  q_getP hr (k := LS.pK k) hb (by rw [valV_enc pK_inj, he]; rfl) h
theorem p_get2 {R : Option V → Prop} (hr : Rd H a (.dT (encD LS.pK f lp))) (hb : LS.AtP H b k) (h : R ((look lp k).map f)) : ∃ o, DGet H a (.ref b) o ∧ R o :=
  q_get2P hr (k := LS.pK k) hb (by rw [valV_enc pK_inj]; exact h)
theorem p_in {R : Option V → Prop} (hr : Rd H a (.dT (encD LS.pK f lp))) (hb : LS.AtP H b k) (h : R ((look lp k).map f)) : ∃ a' o, V.ref a = .ref a' ∧ DGet H a' (.ref b) o ∧ R o :=
  q_inP hr (k := LS.pK k) hb (by rw [valV_enc pK_inj]; exact h)
theorem p_put {R : Hp → Prop} (hd : H a = some (.dT (encD LS.pK f lp))) (hb : LS.AtP H b k) (hz : lp.length < sizeLine) (h : R (upd H a (.dT (encD LS.pK f (put lp k m))))) : ∃ a' H4, V.ref a = .ref a' ∧ DPut H a' (.ref b) (f m) H4 ∧ R H4 :=
  q_putP hd (k := LS.pK k) hb (by rw [len_enc]; exact hz) (by rw [putK_enc pK_inj]; exact h)
end
/-- t[1:] of a tuple -/
theorem r_tail (hs : SqT K H a xs) (h : ∀ b H', Same H H' → SqT K H' b (xs.drop 1) → Q (.ref b) H') : rSlA K (.ref a) (some 1) none H Q := by
  have e : HT.sIx xs.length 0 (some 1) = min 1 xs.length := HT.sIx_nat xs.length 0 1
  have e2 : HT.sIx xs.length xs.length none = xs.length := HT.sIx_none xs.length xs.length
  refine ⟨a, xs, rfl, hs, fun hh => h a H (Same.refl H) ?_, fun hh p hp => h p _ (L2.Same.new hp) (SqT.of ?_)⟩
  · rw [e] at hh
    have : xs = [] := List.length_eq_zero_iff.mp (by omega)
    subst this
    exact hs
  · rw [upd_same]
    congr 2
    unfold cutV
    rw [e, e2]
    cases xs with
    | nil => rfl
    | cons x r =>
      rw [show min 1 (x :: r).length = 1 by rw [List.length_cons]; omega]
      show List.take ((x :: r).length - 1) r = r
      rw [List.length_cons, Nat.add_sub_cancel]
      exact List.take_length
/-! ### what is walked -/
theorem s_for {wi : TI} (h : wi σ H fun J H1 => ∃ W : Nat → Nat → L2.St → Hp → Prop, (∃ m, W 0 m σ H1) ∧ ∀ i m σ H, W i m σ H →
    (J.stop i H ∧ D.nx σ H) ∨ (J.go i H ∧ ∃ N : L2.St → Hp → Prop, (∀ σ' H', N σ' H' → ∃ m', m' < m ∧ W (i + 1) m' σ' H') ∧ ∀ x H', J.yld i H x H' → g x σ H' fun σ2 H2 => t { D with nx := N, ct := N, bk := D.nx } σ2 H2)) : tFor wi g t D σ H := h
theorem i_list {R : It → Hp → Prop} (h : ta σ H fun x H1 => ∃ a, x = .ref a ∧ (∃ xs, SqL K H1 a xs) ∧ R (Itl K a) H1) : iList K ta σ H R := h
theorem i_tup {R : It → Hp → Prop} (h : ta σ H fun x H1 => ∃ a, x = .ref a ∧ (∃ xs, SqT K H1 a xs) ∧ R (Itt K a) H1) : iTup K ta σ H R := h
theorem i_listE {R : Prop} (hs : SqL K H a xs) (h : R) : (∃ xs, SqL K H a xs) ∧ R := ⟨⟨xs, hs⟩, h⟩
theorem i_tupE {R : Prop} (hs : SqT K H a xs) (h : R) : (∃ xs, SqT K H a xs) ∧ R := ⟨⟨xs, hs⟩, h⟩
theorem q_ref {R : Addr → Prop} (h : R a) : ∃ a', V.ref a = .ref a' ∧ R a' := ⟨a, rfl, h⟩
theorem i_rng1 {R : It → Hp → Prop} (h : aa σ H fun vs H1 => ∃ j : Int, vs = [.int j] ∧ -(2 ^ 62) ≤ j ∧ j < 2 ^ 62 ∧ R (Itr 0 j.toNat) H1) : iRng1 aa σ H R := h
theorem i_rng1E {n : Int} {R : Int → Prop} (h1 : -(2 ^ 62) ≤ n) (h2 : n < 2 ^ 62) (h : R n) : ∃ j : Int, [V.int n] = [.int j] ∧ -(2 ^ 62) ≤ j ∧ j < 2 ^ 62 ∧ R j := ⟨n, rfl, h1, h2, h⟩
theorem i_rng2 {R : It → Hp → Prop} (h : aa σ H fun vs H1 => ∃ i j : Int, vs = [.int i, .int j] ∧ (-(2 ^ 62) ≤ i ∧ i < 2 ^ 62 ∧ -(2 ^ 62) ≤ j ∧ j < 2 ^ 62) ∧ R (Itr i (j - i).toNat) H1) : iRng2 aa σ H R := h
theorem i_rng2E {m n : Int} {R : Int → Int → Prop} (h1 : -(2 ^ 62) ≤ m ∧ m < 2 ^ 62 ∧ -(2 ^ 62) ≤ n ∧ n < 2 ^ 62) (h : R m n) :
    ∃ i j : Int, [V.int m, V.int n] = [.int i, .int j] ∧ (-(2 ^ 62) ≤ i ∧ i < 2 ^ 62 ∧ -(2 ^ 62) ≤ j ∧ j < 2 ^ 62) ∧ R i j := ⟨m, n, rfl, h1, h⟩
theorem i_keys {R : It → Hp → Prop} (h : ta σ H fun x H1 => ∃ d o, x = .ref d ∧ ((∃ kvs, H1 d = some (.frz o (.dK kvs)) ∧ R (Itk d o kvs) H1) ∨ ∃ kvs, H1 d = some (.frz o (.dT kvs)) ∧ R (Itkt d o kvs) H1)) : iKeys ta σ H R := h
theorem i_keysK {od : Obj} {kvs : List (Key × V)} {R : Addr → Obj → List (Key × V) → Prop} {R' : Addr → Obj → List (List Key × V) → Prop} (hd : H a = some (.frz od (.dK kvs))) (h : R a od kvs) :
    ∃ d o, V.ref a = .ref d ∧ ((∃ kvs, H d = some (.frz o (.dK kvs)) ∧ R d o kvs) ∨ ∃ kvs, H d = some (.frz o (.dT kvs)) ∧ R' d o kvs) := ⟨a, od, rfl, .inl ⟨kvs, hd, h⟩⟩
theorem i_keysT {od : Obj} {kvs : List (List Key × V)} {R : Addr → Obj → List (Key × V) → Prop} {R' : Addr → Obj → List (List Key × V) → Prop} (hd : H a = some (.frz od (.dT kvs))) (h : R' a od kvs) :
    ∃ d o, V.ref a = .ref d ∧ ((∃ kvs, H d = some (.frz o (.dK kvs)) ∧ R d o kvs) ∨ ∃ kvs, H d = some (.frz o (.dT kvs)) ∧ R' d o kvs) := ⟨a, od, rfl, .inr ⟨kvs, hd, h⟩⟩
theorem i_items {R : It → Hp → Prop} (h : ta σ H fun x H1 => ∃ d o kvs, x = .ref d ∧ H1 d = some (.frz o (.dK kvs)) ∧ R (Iti d o kvs) H1) : iItems ta σ H R := h
theorem i_itemsE {od : Obj} {kvs : List (Key × V)} {R : Addr → Obj → List (Key × V) → Prop} (hd : H a = some (.frz od (.dK kvs))) (h : R a od kvs) : ∃ d o kvs, V.ref a = .ref d ∧ H d = some (.frz o (.dK kvs)) ∧ R d o kvs := ⟨a, od, kvs, rfl, hd, h⟩
theorem i_zip2 {k1 k2 : Bool} {R : It → Hp → Prop} (h : aa σ H fun vs H1 => ∃ a b xs ys, vs = [.ref a, .ref b] ∧ LR.SqA k1 K H1 a xs ∧ LR.SqA k2 K H1 b ys ∧ R (LR.Itz2 k1 k2 K a b) H1) : LR.iZip2 k1 k2 K aa σ H R := h
theorem i_zip2E {k1 k2 : Bool} {R : Addr → Addr → Prop} (h1 : LR.SqA k1 K H a xs) (h2 : LR.SqA k2 K H b ys) (h : R a b) : ∃ a' b' xs ys, [V.ref a, V.ref b] = [.ref a', .ref b'] ∧ LR.SqA k1 K H a' xs ∧ LR.SqA k2 K H b' ys ∧ R a' b' :=
  ⟨a, b, xs, ys, rfl, h1, h2, h⟩
theorem i_enum2 {k : Bool} {R : It → Hp → Prop} (h : aa σ H fun vs H1 => ∃ a xs, vs = [.ref a] ∧ LR.SqA k K H1 a xs ∧ R (LR.Ite2 k K a) H1) : LR.iEnum2 k K aa σ H R := h
theorem i_enum2E {k : Bool} {R : Addr → Prop} (h1 : LR.SqA k K H a xs) (h : R a) : ∃ a' xs, [V.ref a] = [.ref a'] ∧ LR.SqA k K H a' xs ∧ R a' := ⟨a, xs, rfl, h1, h⟩
/-! ### locks -/
theorem s_lock {u' : HO} (hd : H a = some u') (mu : Mut (some u')) (h : ∀ od, t ⟨fun σ' H' => H' a = some (.frz od u') ∧ D.nx σ' (upd H' a u'), fun v H' => H' a = some (.frz od u') ∧ D.rt v (upd H' a u'), fun σ' H' => H' a = some (.frz od u') ∧ D.bk σ' (upd H' a u'), fun σ' H' => H' a = some (.frz od u') ∧ D.ct σ' (upd H' a u')⟩ σ (upd H a (.frz od u'))) : tLock t D σ H :=
  ⟨a, u', hd, mu, h⟩
theorem e_lock {u' : HO} (hd : H a = some u') (mu : Mut (some u')) (h : ∀ od, te σ (upd H a (.frz od u')) fun v H' => H' a = some (.frz od u') ∧ Q v (upd H' a u')) : tLockE te σ H Q := ⟨a, u', hd, mu, h⟩
end

/-! ### loops by the number of their turns -/
theorem for_gen {J : It} {g : TG} {tb : TS} {D : Ends} {σ : L2.St} {H : Hp} (n : Nat) (Pv : Nat → L2.St → Hp → Prop) (h0 : Pv 0 σ H) (hgo : ∀ i σ H, i < n → Pv i σ H → J.go i H) (hst : ∀ σ H, Pv n σ H → J.stop n H)
    (hs : ∀ i σ H x H', i < n → Pv i σ H → J.yld i H x H' → g x σ H' fun σ2 H2 => tb { D with nx := Pv (i + 1), ct := Pv (i + 1), bk := D.nx } σ2 H2) (hd : ∀ σ H, Pv n σ H → D.nx σ H) :
    ∃ W : Nat → Nat → L2.St → Hp → Prop, (∃ m, W 0 m σ H) ∧ ∀ i m σ H, W i m σ H →
      (J.stop i H ∧ D.nx σ H) ∨ (J.go i H ∧ ∃ N : L2.St → Hp → Prop, (∀ σ' H', N σ' H' → ∃ m', m' < m ∧ W (i + 1) m' σ' H') ∧ ∀ x H', J.yld i H x H' → g x σ H' fun σ2 H2 => tb { D with nx := N, ct := N, bk := D.nx } σ2 H2) := by
  refine ⟨fun i m σ H => m = n - i ∧ i ≤ n ∧ Pv i σ H, ⟨n, rfl, Nat.zero_le _, h0⟩, fun i m σ H hW => ?_⟩
  obtain ⟨rfl, hi, p⟩ := hW
  by_cases hlt : i < n
  · exact .inr ⟨hgo i σ H hlt p, Pv (i + 1), fun σ' H' p' => ⟨n - (i + 1), by omega, rfl, hlt, p'⟩, fun x H' y => hs i σ H x H' hlt p y⟩
  · have e : i = n := by omega
    subst e
    exact .inl ⟨hst σ H p, hd σ H p⟩
theorem lc_gen {J : It} {g : TG} {tt : TT} {te : TE} {vs : List Nat} {σ : L2.St} {H1 : Hp} {D : Addr} {Qd : Hp → Prop} (n : Nat) (Pv : Nat → Hp → Prop) (h0 : Pv 0 (upd H1 D (.lst []))) (hgo : ∀ i H, i < n → Pv i H → J.go i H) (hst : ∀ H, Pv n H → J.stop n H)
    (hs : ∀ i H x H', i < n → Pv i H → J.yld i H x H' → g x (wipe σ vs) H' fun σ2 H2 => wipe σ2 vs = wipe σ vs ∧ tt σ2 H2 fun b H3 =>
      if b = true then te σ2 H3 fun y H4 => ∃ acc, H4 D = some (.lst acc) ∧ acc.length < sizeLine ∧ Pv (i + 1) (upd H4 D (.lst (acc ++ [y]))) else Pv (i + 1) H3) (hd : ∀ H, Pv n H → Qd H) :
    ∃ W : Nat → Nat → Hp → Prop, (∃ m, W 0 m (upd H1 D (.lst []))) ∧ ∀ i m H, W i m H →
      (J.stop i H ∧ Qd H) ∨ (J.go i H ∧ ∃ Nx : Hp → Prop, (∀ H', Nx H' → ∃ m', m' < m ∧ W (i + 1) m' H') ∧ ∀ x H', J.yld i H x H' → g x (wipe σ vs) H' fun σ2 H2 => wipe σ2 vs = wipe σ vs ∧ tt σ2 H2 fun b H3 =>
        if b = true then te σ2 H3 fun y H4 => ∃ acc, H4 D = some (.lst acc) ∧ acc.length < sizeLine ∧ Nx (upd H4 D (.lst (acc ++ [y]))) else Nx H3) := by
  refine ⟨fun i m H => m = n - i ∧ i ≤ n ∧ Pv i H, ⟨n, rfl, Nat.zero_le _, h0⟩, fun i m H hW => ?_⟩
  obtain ⟨rfl, hi, p⟩ := hW
  by_cases hlt : i < n
  · exact .inr ⟨hgo i H hlt p, Pv (i + 1), fun H' p' => ⟨n - (i + 1), by omega, rfl, hlt, p'⟩, fun x H' y => hs i H x H' hlt p y⟩
  · have e : i = n := by omega
    subst e
    exact .inl ⟨hst H p, hd H p⟩
theorem dc_gen {J : It} {g : TG} {tt : TT} {tk tv : TE} {vs : List Nat} {σ : L2.St} {H1 : Hp} {D : Addr} {Qd : Hp → Prop} (n : Nat) (Pv : Nat → Hp → Prop) (h0 : Pv 0 (upd H1 D (.dK []))) (hgo : ∀ i H, i < n → Pv i H → J.go i H) (hst : ∀ H, Pv n H → J.stop n H)
    (hs : ∀ i H x H', i < n → Pv i H → J.yld i H x H' → g x (wipe σ vs) H' fun σ2 H2 => wipe σ2 vs = wipe σ vs ∧ tt σ2 H2 fun b H3 =>
      if b = true then tk σ2 H3 fun y H4 => tv σ2 H4 fun z H5 => ∃ kvs k, y = kV k ∧ H5 D = some (.dK kvs) ∧ kvs.length < sizeLine ∧ Pv (i + 1) (upd H5 D (.dK (putK kvs k z))) else Pv (i + 1) H3) (hd : ∀ H, Pv n H → Qd H) :
    ∃ W : Nat → Nat → Hp → Prop, (∃ m, W 0 m (upd H1 D (.dK []))) ∧ ∀ i m H, W i m H →
      (J.stop i H ∧ Qd H) ∨ (J.go i H ∧ ∃ Nx : Hp → Prop, (∀ H', Nx H' → ∃ m', m' < m ∧ W (i + 1) m' H') ∧ ∀ x H', J.yld i H x H' → g x (wipe σ vs) H' fun σ2 H2 => wipe σ2 vs = wipe σ vs ∧ tt σ2 H2 fun b H3 =>
        if b = true then tk σ2 H3 fun y H4 => tv σ2 H4 fun z H5 => ∃ kvs k, y = kV k ∧ H5 D = some (.dK kvs) ∧ kvs.length < sizeLine ∧ Nx (upd H5 D (.dK (putK kvs k z))) else Nx H3) := by
  refine ⟨fun i m H => m = n - i ∧ i ≤ n ∧ Pv i H, ⟨n, rfl, Nat.zero_le _, h0⟩, fun i m H hW => ?_⟩
  obtain ⟨rfl, hi, p⟩ := hW
  by_cases hlt : i < n
  · exact .inr ⟨hgo i H hlt p, Pv (i + 1), fun H' p' => ⟨n - (i + 1), by omega, rfl, hlt, p'⟩, fun x H' y => hs i H x H' hlt p y⟩
  · have e : i = n := by omega
    subst e
    exact .inl ⟨hst H p, hd H p⟩
theorem dcT_gen {J : It} {g : TG} {tt : TT} {tk tv : TE} {vs : List Nat} {σ : L2.St} {H1 : Hp} {D : Addr} {Qd : Hp → Prop} (n : Nat) (Pv : Nat → Hp → Prop) (h0 : Pv 0 (upd H1 D (.dT []))) (hgo : ∀ i H, i < n → Pv i H → J.go i H) (hst : ∀ H, Pv n H → J.stop n H)
    (hs : ∀ i H x H', i < n → Pv i H → J.yld i H x H' → g x (wipe σ vs) H' fun σ2 H2 => wipe σ2 vs = wipe σ vs ∧ tt σ2 H2 fun b H3 =>
      if b = true then tk σ2 H3 fun y H4 => tv σ2 H4 fun z H5 => ∃ kvs k b, y = .ref b ∧ H5 b = some (.tup (k.map kV)) ∧ H5 D = some (.dT kvs) ∧ kvs.length < sizeLine ∧ Pv (i + 1) (upd H5 D (.dT (putK kvs k z))) else Pv (i + 1) H3) (hd : ∀ H, Pv n H → Qd H) :
    ∃ W : Nat → Nat → Hp → Prop, (∃ m, W 0 m (upd H1 D (.dT []))) ∧ ∀ i m H, W i m H →
      (J.stop i H ∧ Qd H) ∨ (J.go i H ∧ ∃ Nx : Hp → Prop, (∀ H', Nx H' → ∃ m', m' < m ∧ W (i + 1) m' H') ∧ ∀ x H', J.yld i H x H' → g x (wipe σ vs) H' fun σ2 H2 => wipe σ2 vs = wipe σ vs ∧ tt σ2 H2 fun b H3 =>
        if b = true then tk σ2 H3 fun y H4 => tv σ2 H4 fun z H5 => ∃ kvs k b, y = .ref b ∧ H5 b = some (.tup (k.map kV)) ∧ H5 D = some (.dT kvs) ∧ kvs.length < sizeLine ∧ Nx (upd H5 D (.dT (putK kvs k z))) else Nx H3) := by
  refine ⟨fun i m H => m = n - i ∧ i ≤ n ∧ Pv i H, ⟨n, rfl, Nat.zero_le _, h0⟩, fun i m H hW => ?_⟩
  obtain ⟨rfl, hi, p⟩ := hW
  by_cases hlt : i < n
  · exact .inr ⟨hgo i H hlt p, Pv (i + 1), fun H' p' => ⟨n - (i + 1), by omega, rfl, hlt, p'⟩, fun x H' y => hs i H x H' hlt p y⟩
  · have e : i = n := by omega
    subst e
    exact .inl ⟨hst H p, hd H p⟩
/-! ### list comprehensions that make nothing but their list (and tuples on the way) -/
def given (f : Nat → Bool) (v : Nat → V) : Nat → List V
  | 0 => []
  | n + 1 => if f n = true then given f v n ++ [v n] else given f v n
theorem given_len (f : Nat → Bool) (v : Nat → V) : ∀ n, (given f v n).length ≤ n
  | 0 => Nat.le_refl _
  | n + 1 => by
    have h := given_len f v n
    unfold given
    split
    · rw [List.length_append, List.length_singleton]
      omega
    · omega
theorem given_filter {α : Type} (xs : List α) (P : α → Bool) (h : α → V) (f : Nat → Bool) (v : Nat → V) (hf : ∀ i x, xs[i]? = some x → f i = P x ∧ (P x = true → v i = h x)) : given f v xs.length = (xs.filter P).map h := by
  have : ∀ n, n ≤ xs.length → given f v n = ((xs.take n).filter P).map h := by
    intro n
    induction n with
    | zero => intro _; rfl
    | succ n ih =>
      intro hn
      have hx : xs[n]? = some xs[n] := List.getElem?_eq_getElem (by omega)
      obtain ⟨h1, h2⟩ := hf n _ hx
      rw [List.take_add_one, hx, List.filter_append, List.map_append, ← ih (by omega)]
      show (if f n = true then given f v n ++ [v n] else given f v n) = given f v n ++ List.map h (List.filter P [xs[n]])
      rw [h1]
      by_cases hp : P xs[n] = true
      · rw [if_pos hp, h2 hp, List.filter_cons_of_pos hp]
        rfl
      · rw [if_neg hp, List.filter_cons_of_neg hp]
        simp
  rw [this _ (Nat.le_refl _), List.take_length]
theorem lc_pure {J : It} {g : TG} {tt : TT} {te : TE} {vs : List Nat} {σ : L2.St} {H1 : Hp} {D : Addr} {Qd : Hp → Prop} (n : Nat) (f : Nat → Bool) (v : Nat → V) (hz : n ≤ 10000000) (hD : H1 D = none) (hgo : ∀ i H, i < n → Same H1 H → J.go i H) (hst : ∀ H, Same H1 H → J.stop n H)
    (hy : ∀ i H x H', J.yld i H x H' → Same H H')
    (hs : ∀ i H x H' (Rt : VK) (Rf : Hp → Prop), i < n → Same H1 H → J.yld i H x H' → (∀ H4, Same H' H4 → f i = true → Rt (v i) H4) → (∀ H4, Same H' H4 → f i = false → Rf H4) →
      g x (wipe σ vs) H' fun σ2 H2 => wipe σ2 vs = wipe σ vs ∧ tt σ2 H2 fun b H3 => if b = true then te σ2 H3 Rt else Rf H3)
    (hd : ∀ H, Same H1 H → H D = some (.lst (given f v n)) → Qd H) :
    ∃ W : Nat → Nat → Hp → Prop, (∃ m, W 0 m (upd H1 D (.lst []))) ∧ ∀ i m H, W i m H →
      (J.stop i H ∧ Qd H) ∨ (J.go i H ∧ ∃ Nx : Hp → Prop, (∀ H', Nx H' → ∃ m', m' < m ∧ W (i + 1) m' H') ∧ ∀ x H', J.yld i H x H' → g x (wipe σ vs) H' fun σ2 H2 => wipe σ2 vs = wipe σ vs ∧ tt σ2 H2 fun b H3 =>
        if b = true then te σ2 H3 fun y H4 => ∃ acc, H4 D = some (.lst acc) ∧ acc.length < sizeLine ∧ Nx (upd H4 D (.lst (acc ++ [y]))) else Nx H3) := by
  refine lc_gen n (fun i H => Same H1 H ∧ H D = some (.lst (given f v i))) ⟨L2.Same.new hD, upd_same⟩ (fun i H hi p => hgo i H hi p.1) (fun H p => hst H p.1) (fun i H x H' hi p y => ?_) (fun H p => hd H p.1 p.2)
  obtain ⟨p1, p2⟩ := p
  have sy := hy i H x H' y
  refine hs i H x H' _ _ hi p1 y (fun H4 s4 ef => ?_) (fun H4 s4 ef => ?_)
  · have e4 := s4 _ _ (sy _ _ p2)
    refine ⟨_, e4, ?_, L2.Same.mut (p1.trans (sy.trans s4)) hD, ?_⟩
    · have := given_len f v i
      rw [sizeLine_eq]
      omega
    · rw [upd_same]
      show _ = some (HO.lst (if f i = true then given f v i ++ [v i] else given f v i))
      rw [if_pos ef]
  · refine ⟨p1.trans (sy.trans s4), ?_⟩
    rw [s4 _ _ (sy _ _ p2)]
    show _ = some (HO.lst (if f i = true then given f v i ++ [v i] else given f v i))
    rw [if_neg (by rw [ef]; exact Bool.false_ne_true)]
end LW

end
section
set_option Elab.async false
set_option linter.all false
set_option maxRecDepth 100000
/-! LF: loops and comprehensions by what is walked. -/
namespace LW
open PySem PySem.Spec PyProof.Rows L2 LM
/-- J walks n things wherever At holds; turn i gives x as told -/
structure Walks (J : It) (n : Nat) (At : Hp → Prop) (Item : Nat → Hp → V → Hp → Prop) : Prop where
  go : ∀ i H, i < n → At H → J.go i H
  stop : ∀ H, At H → J.stop n H
  yld : ∀ i H x H', i < n → At H → J.yld i H x H' → Item i H x H'
section
variable {K : PySem.W.Frag} {a b : Addr} {xs ys : List V} {n : Nat} {lo : Int} {od : Obj}
theorem get_of {α : Type} {xs : List α} {i : Nat} (h : i < xs.length) : ∃ x, xs[i]? = some x := ⟨xs[i], List.getElem?_eq_getElem h⟩
theorem w_list : Walks (Itl K a) xs.length (fun H => SqL K H a xs) fun i H x H' => H' = H ∧ xs[i]? = some x where
  go i H hi h := by
    obtain ⟨x, e⟩ := get_of hi
    exact ⟨xs, x, h, e⟩
  stop H h := ⟨xs, h, Nat.le_refl _⟩
  yld i H x H' hi h y := ⟨y.1, y.2 xs h⟩
theorem w_tup : Walks (Itt K a) xs.length (fun H => SqT K H a xs) fun i H x H' => H' = H ∧ xs[i]? = some x where
  go i H hi h := by
    obtain ⟨x, e⟩ := get_of hi
    exact ⟨xs, x, h, e⟩
  stop H h := ⟨xs, h, Nat.le_refl _⟩
  yld i H x H' hi h y := ⟨y.1, y.2 xs h⟩
theorem w_rng : Walks (Itr lo n) n (fun _ => True) fun i H x H' => H' = H ∧ x = .int (lo + (i : Nat)) where
  go i H hi h := hi
  stop H h := Nat.le_refl _
  yld i H x H' hi h y := y
theorem w_keys {kvs : List (Key × V)} : Walks (Itk a od kvs) kvs.length (fun H => H a = some (.frz od (.dK kvs))) fun i H x H' => H' = H ∧ ∃ k v, kvs[i]? = some (k, v) ∧ x = kV k where
  go i H hi h := ⟨h, hi⟩
  stop H h := ⟨h, Nat.le_refl _⟩
  yld i H x H' hi h y := y
theorem w_keysT {kvs : List (List Key × V)} : Walks (Itkt a od kvs) kvs.length (fun H => H a = some (.frz od (.dT kvs))) fun i H x H' => H' = H ∧ ∃ (k : List Key) (v : V) (q : Addr), kvs[i]? = some (k, v) ∧ x = .ref q ∧ H q = some (.tup (k.map kV)) where
  go i H hi h := ⟨h, hi⟩
  stop H h := ⟨h, Nat.le_refl _⟩
  yld i H x H' hi h y := y
theorem w_items {kvs : List (Key × V)} : Walks (Iti a od kvs) kvs.length (fun H => H a = some (.frz od (.dK kvs))) fun i H x H' => ∃ T k v, kvs[i]? = some (k, v) ∧ x = .ref T ∧ H T = none ∧ H' = upd H T (.tup [kV k, v]) where
  go i H hi h := ⟨h, hi⟩
  stop H h := ⟨h, Nat.le_refl _⟩
  yld i H x H' hi h y := y
theorem w_zip2 {k1 k2 : Bool} : Walks (LR.Itz2 k1 k2 K a b) (min xs.length ys.length) (fun H => LR.SqA k1 K H a xs ∧ LR.SqA k2 K H b ys) fun i H x H' => ∃ T u v, x = .ref T ∧ H T = none ∧ H' = upd H T (.tup [u, v]) ∧ xs[i]? = some u ∧ ys[i]? = some v where
  go i H hi h := by
    obtain ⟨x, e⟩ := get_of (xs := xs) (i := i) (by omega)
    obtain ⟨y, f⟩ := get_of (xs := ys) (i := i) (by omega)
    exact ⟨_, _, _, _, h.1, h.2, e, f⟩
  stop H h := ⟨_, _, h.1, h.2, rfl⟩
  yld i H x H' hi h y := by
    obtain ⟨T, u, v, rfl, hT, rfl, hu, hv⟩ := y
    exact ⟨T, u, v, rfl, hT, rfl, hu _ h.1, hv _ h.2⟩
theorem w_enum2 {k : Bool} : Walks (LR.Ite2 k K a) xs.length (fun H => LR.SqA k K H a xs) fun i H x H' => ∃ T u, x = .ref T ∧ H T = none ∧ H' = upd H T (.tup [.int (i : Nat), u]) ∧ xs[i]? = some u where
  go i H hi h := by
    obtain ⟨x, e⟩ := get_of hi
    exact ⟨_, _, h, e⟩
  stop H h := ⟨_, h, rfl⟩
  yld i H x H' hi h y := by
    obtain ⟨T, u, rfl, hT, rfl, hu⟩ := y
    exact ⟨T, u, rfl, hT, rfl, hu _ h⟩
end
section
variable {J : It} {n : Nat} {At : Hp → Prop} {Item : Nat → Hp → V → Hp → Prop} {g : TG} {tb : TS} {D : Ends} {σ : L2.St} {H : Hp} {tt : TT} {te tk tv : TE} {vs : List Nat} {H1 : Hp} {d : Addr} {Qd : Hp → Prop}
theorem for_w (w : Walks J n At Item) (Pv : Nat → L2.St → Hp → Prop) (h0 : Pv 0 σ H) (hat : ∀ i σ H, i ≤ n → Pv i σ H → At H)
    (hs : ∀ i σ H x H', i < n → Pv i σ H → Item i H x H' → g x σ H' fun σ2 H2 => tb { D with nx := Pv (i + 1), ct := Pv (i + 1), bk := D.nx } σ2 H2) (hd : ∀ σ H, Pv n σ H → D.nx σ H) :
    ∃ W : Nat → Nat → L2.St → Hp → Prop, (∃ m, W 0 m σ H) ∧ ∀ i m σ H, W i m σ H →
      (J.stop i H ∧ D.nx σ H) ∨ (J.go i H ∧ ∃ N : L2.St → Hp → Prop, (∀ σ' H', N σ' H' → ∃ m', m' < m ∧ W (i + 1) m' σ' H') ∧ ∀ x H', J.yld i H x H' → g x σ H' fun σ2 H2 => tb { D with nx := N, ct := N, bk := D.nx } σ2 H2) :=
  for_gen n Pv h0 (fun i σ H hi p => w.go i H hi (hat i σ H (Nat.le_of_lt hi) p)) (fun σ H p => w.stop H (hat n σ H (Nat.le_refl _) p)) (fun i σ H x H' hi p y => hs i σ H x H' hi p (w.yld i H x H' hi (hat i σ H (Nat.le_of_lt hi) p) y)) hd
theorem lc_w (w : Walks J n At Item) (Pv : Nat → Hp → Prop) (h0 : Pv 0 (upd H1 d (.lst []))) (hat : ∀ i H, i ≤ n → Pv i H → At H)
    (hs : ∀ i H x H', i < n → Pv i H → Item i H x H' → g x (wipe σ vs) H' fun σ2 H2 => wipe σ2 vs = wipe σ vs ∧ tt σ2 H2 fun b H3 =>
      if b = true then te σ2 H3 fun y H4 => ∃ acc, H4 d = some (.lst acc) ∧ acc.length < sizeLine ∧ Pv (i + 1) (upd H4 d (.lst (acc ++ [y]))) else Pv (i + 1) H3) (hd : ∀ H, Pv n H → Qd H) :
    ∃ W : Nat → Nat → Hp → Prop, (∃ m, W 0 m (upd H1 d (.lst []))) ∧ ∀ i m H, W i m H →
      (J.stop i H ∧ Qd H) ∨ (J.go i H ∧ ∃ Nx : Hp → Prop, (∀ H', Nx H' → ∃ m', m' < m ∧ W (i + 1) m' H') ∧ ∀ x H', J.yld i H x H' → g x (wipe σ vs) H' fun σ2 H2 => wipe σ2 vs = wipe σ vs ∧ tt σ2 H2 fun b H3 =>
        if b = true then te σ2 H3 fun y H4 => ∃ acc, H4 d = some (.lst acc) ∧ acc.length < sizeLine ∧ Nx (upd H4 d (.lst (acc ++ [y]))) else Nx H3) :=
  lc_gen n Pv h0 (fun i H hi p => w.go i H hi (hat i H (Nat.le_of_lt hi) p)) (fun H p => w.stop H (hat n H (Nat.le_refl _) p)) (fun i H x H' hi p y => hs i H x H' hi p (w.yld i H x H' hi (hat i H (Nat.le_of_lt hi) p) y)) hd
theorem dc_w (w : Walks J n At Item) (Pv : Nat → Hp → Prop) (h0 : Pv 0 (upd H1 d (.dK []))) (hat : ∀ i H, i ≤ n → Pv i H → At H)
    (hs : ∀ i H x H', i < n → Pv i H → Item i H x H' → g x (wipe σ vs) H' fun σ2 H2 => wipe σ2 vs = wipe σ vs ∧ tt σ2 H2 fun b H3 =>
      if b = true then tk σ2 H3 fun y H4 => tv σ2 H4 fun z H5 => ∃ kvs k, y = kV k ∧ H5 d = some (.dK kvs) ∧ kvs.length < sizeLine ∧ Pv (i + 1) (upd H5 d (.dK (putK kvs k z))) else Pv (i + 1) H3) (hd : ∀ H, Pv n H → Qd H) :
    ∃ W : Nat → Nat → Hp → Prop, (∃ m, W 0 m (upd H1 d (.dK []))) ∧ ∀ i m H, W i m H →
      (J.stop i H ∧ Qd H) ∨ (J.go i H ∧ ∃ Nx : Hp → Prop, (∀ H', Nx H' → ∃ m', m' < m ∧ W (i + 1) m' H') ∧ ∀ x H', J.yld i H x H' → g x (wipe σ vs) H' fun σ2 H2 => wipe σ2 vs = wipe σ vs ∧ tt σ2 H2 fun b H3 =>
        if b = true then tk σ2 H3 fun y H4 => tv σ2 H4 fun z H5 => ∃ kvs k, y = kV k ∧ H5 d = some (.dK kvs) ∧ kvs.length < sizeLine ∧ Nx (upd H5 d (.dK (putK kvs k z))) else Nx H3) :=
  dc_gen n Pv h0 (fun i H hi p => w.go i H hi (hat i H (Nat.le_of_lt hi) p)) (fun H p => w.stop H (hat n H (Nat.le_refl _) p)) (fun i H x H' hi p y => hs i H x H' hi p (w.yld i H x H' hi (hat i H (Nat.le_of_lt hi) p) y)) hd
theorem dcT_w (w : Walks J n At Item) (Pv : Nat → Hp → Prop) (h0 : Pv 0 (upd H1 d (.dT []))) (hat : ∀ i H, i ≤ n → Pv i H → At H)
    (hs : ∀ i H x H', i < n → Pv i H → Item i H x H' → g x (wipe σ vs) H' fun σ2 H2 => wipe σ2 vs = wipe σ vs ∧ tt σ2 H2 fun b H3 =>
      if b = true then tk σ2 H3 fun y H4 => tv σ2 H4 fun z H5 => ∃ kvs k b, y = .ref b ∧ H5 b = some (.tup (k.map kV)) ∧ H5 d = some (.dT kvs) ∧ kvs.length < sizeLine ∧ Pv (i + 1) (upd H5 d (.dT (putK kvs k z))) else Pv (i + 1) H3) (hd : ∀ H, Pv n H → Qd H) :
    ∃ W : Nat → Nat → Hp → Prop, (∃ m, W 0 m (upd H1 d (.dT []))) ∧ ∀ i m H, W i m H →
      (J.stop i H ∧ Qd H) ∨ (J.go i H ∧ ∃ Nx : Hp → Prop, (∀ H', Nx H' → ∃ m', m' < m ∧ W (i + 1) m' H') ∧ ∀ x H', J.yld i H x H' → g x (wipe σ vs) H' fun σ2 H2 => wipe σ2 vs = wipe σ vs ∧ tt σ2 H2 fun b H3 =>
        if b = true then tk σ2 H3 fun y H4 => tv σ2 H4 fun z H5 => ∃ kvs k b, y = .ref b ∧ H5 b = some (.tup (k.map kV)) ∧ H5 d = some (.dT kvs) ∧ kvs.length < sizeLine ∧ Nx (upd H5 d (.dT (putK kvs k z))) else Nx H3) :=
  dcT_gen n Pv h0 (fun i H hi p => w.go i H hi (hat i H (Nat.le_of_lt hi) p)) (fun H p => w.stop H (hat n H (Nat.le_refl _) p)) (fun i H x H' hi p y => hs i H x H' hi p (w.yld i H x H' hi (hat i H (Nat.le_of_lt hi) p) y)) hd
/-- a list comprehension whose parts change nothing that was: At is kept by Same -/
theorem lcp_w (w : Walks J n At Item) (f : Nat → Bool) (v : Nat → V) (hz : n ≤ 10000000) (hD : H1 d = none) (hat : ∀ H, Same H1 H → At H)
    (hy : ∀ i H x H', Item i H x H' → Same H H')
    (hs : ∀ i H x H' (Rt : VK) (Rf : Hp → Prop), i < n → Same H1 H → Item i H x H' → (∀ H4, Same H' H4 → f i = true → Rt (v i) H4) → (∀ H4, Same H' H4 → f i = false → Rf H4) →
      g x (wipe σ vs) H' fun σ2 H2 => wipe σ2 vs = wipe σ vs ∧ tt σ2 H2 fun b H3 => if b = true then te σ2 H3 Rt else Rf H3)
    (hd : ∀ H, Same H1 H → H d = some (.lst (given f v n)) → Qd H) :
    ∃ W : Nat → Nat → Hp → Prop, (∃ m, W 0 m (upd H1 d (.lst []))) ∧ ∀ i m H, W i m H →
      (J.stop i H ∧ Qd H) ∨ (J.go i H ∧ ∃ Nx : Hp → Prop, (∀ H', Nx H' → ∃ m', m' < m ∧ W (i + 1) m' H') ∧ ∀ x H', J.yld i H x H' → g x (wipe σ vs) H' fun σ2 H2 => wipe σ2 vs = wipe σ vs ∧ tt σ2 H2 fun b H3 =>
        if b = true then te σ2 H3 fun y H4 => ∃ acc, H4 d = some (.lst acc) ∧ acc.length < sizeLine ∧ Nx (upd H4 d (.lst (acc ++ [y]))) else Nx H3) := by
  refine lc_w w (fun i H => Same H1 H ∧ H d = some (.lst (given f v i))) ⟨L2.Same.new hD, upd_same⟩ (fun i H _ p => hat H p.1) (fun i H x H' hi p y => ?_) (fun H p => hd H p.1 p.2)
  obtain ⟨p1, p2⟩ := p
  have sy := hy i H x H' y
  refine hs i H x H' _ _ hi p1 y (fun H4 s4 ef => ?_) (fun H4 s4 ef => ?_)
  · have e4 := s4 _ _ (sy _ _ p2)
    refine ⟨_, e4, ?_, L2.Same.mut (p1.trans (sy.trans s4)) hD, ?_⟩
    · have := given_len f v i
      rw [sizeLine_eq]
      omega
    · rw [upd_same]
      show _ = some (HO.lst (if f i = true then given f v i ++ [v i] else given f v i))
      rw [if_pos ef]
  · refine ⟨p1.trans (sy.trans s4), ?_⟩
    rw [s4 _ _ (sy _ _ p2)]
    show _ = some (HO.lst (if f i = true then given f v i ++ [v i] else given f v i))
    rw [if_neg (by rw [ef]; exact Bool.false_ne_true)]
end
section
variable {wi : TI} {g : TG} {tt : TT} {te tk tv : TE} {vs : List Nat} {σ : L2.St} {H : Hp} {Q : VK}
theorem e_lc (h : wi σ H fun J H1 => ∀ D, H1 D = none → ∃ W : Nat → Nat → Hp → Prop, (∃ m, W 0 m (upd H1 D (.lst []))) ∧ ∀ i m H, W i m H →
  (J.stop i H ∧ Q (.ref D) H) ∨ (J.go i H ∧ ∃ Nx : Hp → Prop, (∀ H', Nx H' → ∃ m', m' < m ∧ W (i + 1) m' H') ∧ ∀ x H', J.yld i H x H' → g x (wipe σ vs) H' fun σ2 H2 => wipe σ2 vs = wipe σ vs ∧ tt σ2 H2 fun b H3 =>
    if b = true then te σ2 H3 fun y H4 => ∃ acc, H4 D = some (.lst acc) ∧ acc.length < sizeLine ∧ Nx (upd H4 D (.lst (acc ++ [y]))) else Nx H3)) : tLc wi g tt te vs σ H Q := h
theorem e_dc (h : wi σ H fun J H1 => ∀ D, H1 D = none → ∃ W : Nat → Nat → Hp → Prop, (∃ m, W 0 m (upd H1 D (.dK []))) ∧ ∀ i m H, W i m H →
  (J.stop i H ∧ Q (.ref D) H) ∨ (J.go i H ∧ ∃ Nx : Hp → Prop, (∀ H', Nx H' → ∃ m', m' < m ∧ W (i + 1) m' H') ∧ ∀ x H', J.yld i H x H' → g x (wipe σ vs) H' fun σ2 H2 => wipe σ2 vs = wipe σ vs ∧ tt σ2 H2 fun b H3 =>
    if b = true then tk σ2 H3 fun y H4 => tv σ2 H4 fun z H5 => ∃ kvs k, y = kV k ∧ H5 D = some (.dK kvs) ∧ kvs.length < sizeLine ∧ Nx (upd H5 D (.dK (putK kvs k z))) else Nx H3)) : tDc wi g tt tk tv vs σ H Q := h
theorem e_dcT (h : wi σ H fun J H1 => ∀ D, H1 D = none → ∃ W : Nat → Nat → Hp → Prop, (∃ m, W 0 m (upd H1 D (.dT []))) ∧ ∀ i m H, W i m H →
  (J.stop i H ∧ Q (.ref D) H) ∨ (J.go i H ∧ ∃ Nx : Hp → Prop, (∀ H', Nx H' → ∃ m', m' < m ∧ W (i + 1) m' H') ∧ ∀ x H', J.yld i H x H' → g x (wipe σ vs) H' fun σ2 H2 => wipe σ2 vs = wipe σ vs ∧ tt σ2 H2 fun b H3 =>
    if b = true then tk σ2 H3 fun y H4 => tv σ2 H4 fun z H5 => ∃ kvs k b, y = .ref b ∧ H5 b = some (.tup (k.map kV)) ∧ H5 D = some (.dT kvs) ∧ kvs.length < sizeLine ∧ Nx (upd H5 D (.dT (putK kvs k z))) else Nx H3)) : LD.tDcT wi g tt tk tv vs σ H Q := h
theorem t_tyes {QT : Bool → Hp → Prop} (h : QT true H) : tYes σ H QT := h
theorem c_wipe {σ' : L2.St} {R : Prop} (e : wipe σ' vs = wipe σ vs) (h : R) : wipe σ' vs = wipe σ vs ∧ R := ⟨e, h⟩
theorem t_tt {A B : Prop} (h : A) : if true = true then A else B := by
  rw [if_pos rfl]
  exact h
theorem t_ff {A B : Prop} (h : B) : if false = true then A else B := by
  rw [if_neg Bool.false_ne_true]
  exact h
theorem q_dcput {H : Hp} {D : Addr} {β : Type} {f : β → V} {li : List (Int × β)} {n : Int} {m : β} {R : Hp → Prop} (hd : H D = some (.dK (encD kI f li))) (hz : li.length < sizeLine) (h : R (upd H D (.dK (encD kI f (put li n m))))) :
    ∃ kvs k, V.int n = kV k ∧ H D = some (.dK kvs) ∧ kvs.length < sizeLine ∧ R (upd H D (.dK (putK kvs k (f m)))) :=
  ⟨encD kI f li, kI n, rfl, hd, by rw [len_enc]; exact hz, by rw [putK_enc kI_inj]; exact h⟩
theorem q_dcputP {H : Hp} {D b : Addr} {β : Type} {f : β → V} {lp : List ((Int × Int) × β)} {n : Int × Int} {m : β} {R : Hp → Prop} (hb : LS.AtP H b n) (hd : H D = some (.dT (encD LS.pK f lp))) (hz : lp.length < sizeLine) (h : R (upd H D (.dT (encD LS.pK f (put lp n m))))) :
    ∃ kvs k c, V.ref b = .ref c ∧ H c = some (.tup (k.map kV)) ∧ H D = some (.dT kvs) ∧ kvs.length < sizeLine ∧ R (upd H D (.dT (putK kvs k (f m)))) :=
  ⟨encD LS.pK f lp, LS.pK n, b, rfl, hb, hd, by rw [len_enc]; exact hz, by rw [putK_enc pK_inj]; exact h⟩
end
theorem none_of {H H' : Hp} {p : Addr} (s : Same H H') (h : H' p = none) : H p = none := by
  cases e : H p with
  | none => rfl
  | some o =>
    rw [s p o e] at h
    cases h
/-- a statement whose ways meet again in R -/
theorem s_seqR {t u : TS} {D : Ends} {σ : L2.St} {H : Hp} (R : L2.St → Hp → Prop) (tail : ∀ σ' H', R σ' H' → u D σ' H') (main : ∀ NX : L2.St → Hp → Prop, (∀ σ' H', R σ' H' → NX σ' H') → t { D with nx := NX } σ H) : tSeq t u D σ H := main (u D) tail
theorem ix_nn {n : Nat} {k : Int} (h0 : 0 ≤ k) (h1 : k < n) : ixN n k = some k.toNat := by
  unfold ixN
  rw [if_pos h0, if_pos h1]
theorem map_int_get {row : List Int} {i : Nat} {v : V} (h : (row.map V.int)[i]? = some v) : ∃ x, row[i]? = some x ∧ v = .int x := by
  rw [List.getElem?_map] at h
  cases e : row[i]? with
  | none => rw [e] at h; cases h
  | some x => rw [e] at h; exact ⟨x, rfl, (Option.some.inj h).symm⟩
theorem map_int_at {row : List Int} {i : Nat} (h : i < row.length) : ∃ x, row[i]? = some x ∧ (row.map V.int)[i]? = some (.int x) :=
  ⟨row[i], List.getElem?_eq_getElem h, by rw [List.getElem?_map, List.getElem?_eq_getElem h]; rfl⟩
theorem cut_to (ns : List Int) (n : Nat) : cutV (ns.map V.int) none (some (n : Int)) = (ns.take n).map V.int := by
  unfold cutV
  have e1 : HT.sIx (ns.map V.int).length 0 none = 0 := HT.sIx_none _ _
  have e2 : HT.sIx (ns.map V.int).length (ns.map V.int).length (some (n : Int)) = min n (ns.map V.int).length := HT.sIx_nat _ _ _
  rw [e1, e2, List.drop_zero, Nat.sub_zero, List.map_take]
  exact List.take_eq_take_min.symm
theorem r_slTo {K : PySem.W.Frag} {H : Hp} {a : Addr} {ns : List Int} {Q : VK} (n : Nat) (hs : SqL K H a (ns.map V.int)) (h : ∀ p, H p = none → Q (.ref p) (upd H p (.lst ((ns.take n).map V.int)))) : rSlL K (.ref a) none (some (n : Int)) H Q :=
  ⟨a, _, rfl, hs, fun p hp => by
    rw [cut_to]
    exact h p hp⟩
theorem map_snoc (ns : List Int) (n : Int) : ns.map V.int ++ [V.int n] = (ns ++ [n]).map V.int := by
  rw [List.map_append]
  rfl
/-- xs.append(n), xs ints -/
theorem r_appI {H : Hp} {l : Addr} {ns : List Int} {n : Int} {Q : VK} (hl : H l = some (.lst (ns.map V.int))) (hz : ns.length < 10000000) (h : Q .non (upd H l (.lst ((ns ++ [n]).map V.int)))) : rAppend (.ref l) [.int n] H Q :=
  r_app hl (by rw [List.length_map, sizeLine_eq]; omega) (by rw [map_snoc]; exact h)
/-- xs[i], xs ints -/
theorem r_ixI {K : PySem.W.Frag} {H : Hp} {p : Addr} {ns : List Int} {n : Int} {Q : VK} (hs : SqL K H p (ns.map V.int)) (h0 : 0 ≤ n) (h1 : n < ns.length) (h : Q (.int (ns.getD n.toNat 0)) H) : rIxL K (.ref p) (.int n) H Q :=
  r_ixL hs (at_int h0 h1) h
theorem r_ixTI {K : PySem.W.Frag} {H : Hp} {p : Addr} {ns : List Int} {n : Int} {Q : VK} (hs : SqT K H p (ns.map V.int)) (h0 : 0 ≤ n) (h1 : n < ns.length) (h : Q (.int (ns.getD n.toNat 0)) H) : rIxT K (.ref p) (.int n) H Q :=
  r_ixT hs (at_int h0 h1) h
/-- xs[i] = n, xs ints -/
theorem g_setI {H : Hp} {p : Addr} {ns : List Int} {k n : Int} {R : Hp → Prop} (hp : H p = some (.lst (ns.map V.int))) (h0 : 0 ≤ k) (h1 : k < ns.length) (h : R (upd H p (.lst ((ns.set k.toNat n).map V.int)))) : rSetL (.ref p) (.int k) (.int n) H R :=
  g_setL hp (ix_nn h0 (by rw [List.length_map]; exact h1)) (by rw [List.map_set] at h; exact h)
theorem r_lenI {K : PySem.W.Frag} {H : Hp} {p : Addr} {ns : List Int} {Q : VK} (hs : SqL K H p (ns.map V.int)) (h : Q (.int ns.length) H) : oLen K [.ref p] H Q := r_lenL hs (by rw [List.length_map]; exact h)
theorem r_lenTI {K : PySem.W.Frag} {H : Hp} {p : Addr} {ns : List Int} {Q : VK} (hs : SqT K H p (ns.map V.int)) (h : Q (.int ns.length) H) : oLen K [.ref p] H Q := r_lenT hs (by rw [List.length_map]; exact h)
theorem r_cat {H : Hp} {l b : Addr} {xs zs : List V} {Q : VK} (h1 : H l = some (.lst xs)) (h2 : H b = some (.lst zs)) (hz : xs.length + zs.length ≤ 10000000) (h : ∀ p, H p = none → Q (.ref p) (upd H p (.lst (xs ++ zs)))) : rCat (.ref l) (.ref b) H Q :=
  ⟨l, b, xs, zs, rfl, rfl, h1, h2, by rw [sizeLine_eq]; omega, h⟩
theorem r_and {tA tB' : TT} {σ : L2.St} {H : Hp} {QT : Bool → Hp → Prop} {b : Bool} (h1 : b = true → tB' σ H QT) (h2 : b = false → QT false H) : if b = true then tB' σ H QT else QT false H := t_ite h1 h2
theorem atP_of {H : Hp} {b : Addr} {x y : Int} (h : H b = some (.tup [.int x, .int y])) : LS.AtP H b (x, y) := h
end LW

end
section
set_option Elab.async false
set_option linter.all false
set_option maxRecDepth 100000
/-! LU: sets of texts: set(xs) and sorted(s) of any size; == of data where one side is shallow. -/
namespace LU
open PySem PySem.Spec PyProof.Rows L2 LM

/-! ### the set of texts at a: its entries, their order -/
def txtOf (e : Int × Value) : Str := match e.2 with | .str x _ => x | _ => ⟨#[]⟩
def TxtE (w : World) (e : Int × Value) : Prop := ∃ x tk, e.2 = Value.str x tk ∧ e.1 = hashStr w x
def SetX (w : World) (h : Heap) (a : Addr) (S : Str → Bool) (n : Nat) : Prop :=
  ∃ o es ep t, h.get? a = some o ∧ o.ExactSet ∧ o.data = .set es ep t ∧ (∀ e ∈ es.toList, TxtE w e) ∧ (es.toList.map txtOf).Nodup ∧ (∀ x, S x = true ↔ x ∈ es.toList.map txtOf) ∧
    es.size < scanBound ∧ t.fits es.size = true ∧ es.size = n ∧ Ris t.place.toList ∧ (w.params.followText "set-order" = true ∨ t.led = true)
section
variable {P : Program} {w : World} {h h' : Heap} {a : Addr} {S : Str → Bool} {n : Nat}
theorem SetX.at (R : SetX w h a S n) (k : ∀ o, h.get? a = some o → h'.get? a = some o) : SetX w h' a S n := by
  obtain ⟨o, es, ep, t, ho, r⟩ := R
  exact ⟨o, es, ep, t, k o ho, r⟩
theorem SetX.congr {S' : Str → Bool} (R : SetX w h a S n) (e : ∀ k, S' k = S k) : SetX w h a S' n := by
  rw [show S' = S from funext e]
  exact R
theorem txt_is (x : Str) (tk : Tok) : (strKind P w).is x (.str x tk) = true := by
  show Value.isStrOf x (.str x tk) = true
  simp [Value.isStrOf]
theorem txt_elems {l : List (Int × Value)} (g : ∀ e ∈ l, TxtE w e) : ElemsOf (strKind P w) l := fun e he => by
  obtain ⟨x, tk, h1, h2⟩ := g e he
  exact ⟨⟨x, by rw [h1]; exact txt_is x tk, h2⟩, by rw [h1] <;> rfl⟩
theorem txt_iff {e : Int × Value} (g : TxtE w e) (x : Str) : (strKind P w).is x e.2 = true ↔ txtOf e = x := by
  obtain ⟨y, tk, h1, _⟩ := g
  unfold txtOf
  rw [h1]
  constructor
  · intro h
    obtain ⟨u, hu⟩ := Value.isStrOf_shape (x := x) (v := .str y tk) h
    exact (Value.str.inj hu).1
  · intro h
    subst h
    exact txt_is y tk
theorem txt_mem {l : List (Int × Value)} (g : ∀ e ∈ l, TxtE w e) (x : Str) : x ∈ l.map txtOf ↔ ∃ e ∈ l, (strKind P w).is x e.2 = true := by
  rw [List.mem_map]
  exact ⟨fun ⟨e, he, q⟩ => ⟨e, he, (txt_iff (g e he) x).2 q⟩, fun ⟨e, he, q⟩ => ⟨e, he, (txt_iff (g e he) x).1 q⟩⟩
end
section
variable {P : Program} {w : World} {A : Around} {E : Value → Shared → Prop} {s : Shared} {a : Addr} {S : Str → Bool} {n : Nat}
theorem setX_tail {g : Bool → Sem Unit} (hg : ∀ (b : Bool) (s₁ : Shared) (Q' : Unit → Shared → Prop), Q' () s₁ → wpAny (model P w) A (g b) Q' E s₁)
    {o : Obj} {es : Array (Int × Value)} {ep : Nat} {t : SetTable} (ho : s.heap.get? a = some o) (hex : o.ExactSet) (hd : o.data = .set es ep t)
    {es1 : Array (Int × Value)} {t2 : SetTable} {S' : Str → Bool} (g1 : ∀ e ∈ es1.toList, TxtE w e) (nd1 : (es1.toList.map txtOf).Nodup) (m1 : ∀ k, S' k = true ↔ k ∈ es1.toList.map txtOf)
    (hb1 : es1.size < scanBound) (hf2 : t2.fits es1.size = true) (hr : Ris t2.place.toList) (hl : w.params.followText "set-order" = true ∨ t2.led = true) {wasDummy : Bool} {R : Option Bool → Shared → Prop}
    (hR : ∀ h', Heap.SameBut a s.heap h' → SetX w h' a S' es1.size → R (some true) { s with heap := h' }) :
    wpAny (model P w) A (do
        storeSet a es1 t2
        if (!wasDummy && t2.tooFull) = true then do
            g (relayAll t2 es1 (SetTable.grown es1.size)).2.2
            storeSet a (relayAll t2 es1 (SetTable.grown es1.size)).1 (relayAll t2 es1 (SetTable.grown es1.size)).2.1
            pure (some true)
          else pure (some true)) R E s := by
  refine wpAny_bind (wpAny_storeSet_of ho hd ?_ (fits_of_scanBound hb1))
  have ho1 := store_at (es' := es1) (t' := t2) ho hd
  have sb1 := Heap.SameBut.update s.heap a (Obj.putSet es1 t2)
  split
  · have pm := relayAll_perm t2 es1 (SetTable.grown es1.size)
    have hf3 := relayAll_fits t2 es1 (SetTable.grown es1.size)
    have hr3 := relayAll_ris t2 es1 (SetTable.grown es1.size)
    have hl3 := relayAll_led t2 es1 (SetTable.grown es1.size)
    generalize relayAll t2 es1 (SetTable.grown es1.size) = Z at pm hf3 hr3 hl3 ⊢
    obtain ⟨es2, t3, gave⟩ := Z
    dsimp only at pm hf3 hr3 hl3 ⊢
    have hsz : es2.size = es1.size := by rw [← Array.length_toList, pm.length_eq, Array.length_toList]
    have hb2 : es2.size < scanBound := by rw [hsz]; exact hb1
    refine wpAny_bind (hg _ _ _ ?_)
    refine wpAny_bind (wpAny_storeSet_of ho1 rfl ?_ (fits_of_scanBound hb2))
    have ho2 := store_at (es' := es2) (t' := t3) ho1 rfl
    refine wpAny_pure (hR _ (sb1.trans (Heap.SameBut.update _ a _)) ?_)
    exact ⟨_, es2, _, t3, ho2, hex, rfl, fun e he => g1 e (pm.mem_iff.mp he), (pm.map txtOf).nodup_iff.mpr nd1, fun k => (m1 k).trans (pm.map txtOf).mem_iff.symm, hb2, hf3, hsz, hr3,
      hl.imp id fun z => by rw [hl3]; exact z⟩
  · exact wpAny_pure (hR _ sb1 ⟨_, es1, _, t2, ho1, hex, rfl, g1, nd1, m1, hb1, hf2, rfl, hr, hl⟩)
theorem setX_add {k : Str} {tk : Tok} {Q : Bool → Shared → Prop} (R : SetX w s.heap a S n) (room : n + 1 < scanBound)
    (hQ : ∀ h', Heap.SameBut a s.heap h' → SetX w h' a (fun j => S j || decide (j = k)) (if S k = true then n else n + 1) → Q (!S k) { s with heap := h' }) :
    wpAny (model P w) A (setAddHashed a (.str k tk) ((strKind P w).hash k)) Q E s := by
  obtain ⟨o, es, ep, t, ho, hex, hd, g, nd, hm, hb, hf, hn, hr, hl⟩ := R
  have hkey : (strKind P w).is k (.str k tk) = true := txt_is k tk
  have hsc : (Value.str k tk).scannable = true := rfl
  have hel : ElemsOf (strKind P w) es.toList := txt_elems g
  unfold setAddHashed setAddHashedIn
  refine wpAny_holding (wpAny_bind (wpAny_setState_of ho hd hf ?_))
  dsimp only
  rw [byScan_of hsc hb hel]
  simp only [↓reduceIte]
  unfold setAddByScan
  refine wpAny_bind ?_
  refine wpAny_bind (wpAny_rule ?_)
  refine wpAny_bind (wpAny_setScan_of hkey ho hd hf hel ?_)
  cases hfi : List.findIdx? (fun e => (strKind P w).is k e.2) es.toList with
  | some j =>
    dsimp only
    obtain ⟨hj, pj, _⟩ := List.findIdx?_eq_some_iff_getElem.mp hfi
    have hSk : S k = true := (hm k).2 ((txt_mem (P := P) (w := w) g k).2 ⟨es.toList[j], List.getElem_mem hj, pj⟩)
    refine wpAny_pure (wpAny_pure ?_)
    have q := hQ s.heap (Heap.SameBut.refl a s.heap) ⟨o, es, ep, t, ho, hex, hd, g, nd, fun i => by
      rw [Bool.or_eq_true, decide_eq_true_eq, ← hm i]
      exact ⟨fun z => z.elim id (fun e => e ▸ hSk), .inl⟩, hb, hf, by rw [if_pos hSk]; exact hn, hr, hl⟩
    rw [hSk] at q
    exact q
  | none =>
    dsimp only
    have hnk : k ∉ es.toList.map txtOf := fun z => by
      obtain ⟨e, he, q⟩ := (txt_mem (P := P) (w := w) g k).1 z
      have c := List.findIdx?_eq_none_iff.mp hfi e he
      rw [q] at c
      cases c
    have hSk : S k = false := by
      cases q : S k with
      | false => rfl
      | true => exact absurd ((hm k).1 q) hnk
    have hgw : ∀ (b : Bool) {s₁ : Shared} {Q' : Unit → Shared → Prop}, Q' () s₁ → wpAny (model P w) A (match b with | true => rule "set.scan.the-table-gave-way" | false => pure ()) Q' E s₁ :=
      fun b s₁ Q' q => by cases b <;> first | exact wpAny_pure q | exact wpAny_rule q
    have pm := layNew_perm t es ((strKind P w).hash k) (.str k tk)
    have hf1 := layNew_fits t es ((strKind P w).hash k) (.str k tk)
    have hr1 := layNew_ris t es ((strKind P w).hash k) (.str k tk) hr
    have hl1 := layNew_led t es ((strKind P w).hash k) (.str k tk)
    generalize layNew t es ((strKind P w).hash k) (.str k tk) = Z at pm hf1 hr1 hl1 ⊢
    obtain ⟨es1, t1, wasDummy, gave⟩ := Z
    dsimp only at pm hf1 hr1 hl1 ⊢
    rw [Array.toList_push] at pm
    have pc : es1.toList.Perm (((strKind P w).hash k, Value.str k tk) :: es.toList) := pm.trans (List.perm_append_singleton _ _)
    have pk : (es1.toList.map txtOf).Perm (k :: es.toList.map txtOf) := pc.map txtOf
    have g1 : ∀ e ∈ es1.toList, TxtE w e := fun e he => by
      rcases List.mem_cons.mp (pc.mem_iff.mp he) with z | z
      · rw [z]; exact ⟨k, tk, rfl, rfl⟩
      · exact g e z
    have nd1 : (es1.toList.map txtOf).Nodup := pk.nodup_iff.mpr (List.nodup_cons.mpr ⟨hnk, nd⟩)
    have m1 : ∀ i, (S i || decide (i = k)) = true ↔ i ∈ es1.toList.map txtOf := fun i => by
      rw [Bool.or_eq_true, decide_eq_true_eq, hm i, pk.mem_iff, List.mem_cons]
      exact Or.comm
    have hsz : es1.size = n + 1 := by rw [← Array.length_toList, pc.length_eq, List.length_cons, Array.length_toList, hn]
    have hb1 : es1.size < scanBound := by rw [hsz]; exact room
    have hled : w.params.followText "set-order" = true ∨ t1.led = true := hl.imp id fun z => by rw [hl1]; exact z
    have fin : ∀ h', Heap.SameBut a s.heap h' → SetX w h' a (fun j => S j || decide (j = k)) es1.size → Q true { s with heap := h' } := fun h' sb r => by
      have q := hQ h' sb
      rw [hSk] at q
      rw [hsz] at r
      exact q r
    refine wpAny_bind (hgw _ ?_)
    split
    · refine wpAny_bind ?_
      rw [hashByValue_scannable 8 hsc]
      refine wpAny_pure ?_
      refine setX_tail ?_ ho hex hd g1 nd1 m1 hb1 ?_ ?_ ?_ ?_
      · intro b s₁ Q' q; cases b <;> first | exact wpAny_pure q | exact wpAny_rule q
      · first | (split <;> first | exact hf1 | exact SetTable.fits_plain_off hf1) | exact hf1
      · first | (split <;> exact hr1) | exact hr1
      · first | (split <;> exact hled) | exact hled
      · intro h' sb r; dsimp only; exact wpAny_pure (fin h' sb r)
    · refine wpAny_bind (wpAny_pure ?_)
      simp only [↓reduceIte]
      refine setX_tail ?_ ho hex hd g1 nd1 m1 hb1 hf1 hr1 hled ?_
      · intro b s₁ Q' q; cases b <;> first | exact wpAny_pure q | exact wpAny_rule q
      · intro h' sb r; dsimp only; exact wpAny_pure (fin h' sb r)
theorem setX_empty {ns : List Str} {h : Heap} (ho : h.get? a = some { cls := .type "set", dict := none, data := .set #[] 0 (.fresh 0 0 (!w.params.followText "set-order")) }) : SetX w h a (fun j => decide (j ∈ ns.take 0)) 0 :=
  ⟨_, #[], 0, _, ho, ⟨rfl, rfl, rfl⟩, rfl, (fun e he => by simp at he), (by simp), (fun k => by simp), (by decide), (by rfl), rfl, List.Pairwise.nil, by
    show _ ∨ (!w.params.followText "set-order") = true
    cases w.params.followText "set-order"
    · exact .inr rfl
    · exact .inl rfl⟩
theorem setX_loop {I : Addr} {fp wr : List Addr} {G : Array GenState → Array GenState → Prop} {n : Nat} {Pv : Nat → Value → Prop} {St : Nat → Shared → Prop} {R : Result → Shared → Prop}
    (W : WalksS P w A.in1 I fp wr G n Pv St) (S : Addr) (hSf : S ∉ fp) (ns : List Str) (hn : n = ns.length) (hb : ns.length + 1 < scanBound) (hval : ∀ i v, Pv i v → ∃ k t, ns[i]? = some k ∧ v = .str k t) :
    ∀ (k i : Nat) (s : Shared), n - i = k → i ≤ n → St i s → (∃ c, c ≤ i ∧ SetX w s.heap S (fun j => decide (j ∈ ns.take i)) c) →
      (∀ s' c, Moved (S :: wr) G s s' → c ≤ n → SetX w s'.heap S (fun j => decide (j ∈ ns)) c → R (.ok (.ret .none)) s') →
      codeAny (model P w) A (.builtin "set.update.loop" ⟨[.ref S, .ref I], []⟩) R s := by
  have hSw : S ∉ wr := fun h => hSf (W.sub _ h)
  have hsub : ∀ b ∈ wr, b ∈ S :: wr := fun b hb => List.mem_cons_of_mem _ hb
  intro k
  induction k with
  | zero =>
    intro i s hk' hi hst ⟨c, hc, hS⟩ hR
    have hin : i = n := by omega
    subst hin
    refine codeAny_builtin F.entry_set_update_loop ?_
    rw [Around.under_plainId F.plain_set_update_loop _]
    show wpAny _ A.in1 (pyNext (.ref I) >>= _) _ _ s
    refine wpAny_bind (W.done s _ _ hst fun s' hm => ?_)
    show wpAny _ A.in1 (ret Value.none) _ _ s'
    have e : ns.take i = ns := List.take_of_length_le (by omega)
    rw [e] at hS
    exact wpAny_pure (hR s' c (hm.mono hsub) hc (hS.at fun o e => hm.heap S o hSw e))
  | succ k ih =>
    intro i s hk' hi hst ⟨c, hc, hS⟩ hR
    have hlt : i < n := by omega
    refine codeAny_builtin F.entry_set_update_loop ?_
    rw [Around.under_plainId F.plain_set_update_loop _]
    show wpAny _ A.in1 (pyNext (.ref I) >>= _) _ _ s
    refine wpAny_bind (W.item i s _ _ hlt hst fun v s' hP hst' hm => ?_)
    obtain ⟨z, t, hz, rfl⟩ := hval i v hP
    have hS' : SetX w s'.heap S (fun j => decide (j ∈ ns.take i)) c := hS.at fun o e => hm.heap S o hSw e
    show wpAny _ A.in1 (holding [Value.str z t] (setAdd S (.str z t)) >>= _) _ _ s'
    refine wpAny_bind (wpAny_holding ?_)
    unfold setAdd
    refine wpAny_holding ?_
    refine wpAny_bind ((strKind P w).pyHash (k := z) (txt_is _ _) ?_)
    refine setX_add (s := { s' with toks := s'.toks + 1 }) hS' (by omega) fun h' hsb hS2 => ?_
    have hS3 : SetX w h' S (fun j => decide (j ∈ ns.take (i + 1))) (if decide (z ∈ ns.take i) = true then c else c + 1) := hS2.congr fun j => by
      rw [List.take_add_one, hz]
      simp [List.mem_append]
    have hc3 : (if decide (z ∈ ns.take i) = true then c else c + 1) ≤ i + 1 := by
      split <;> omega
    refine wpAny_pure ⟨plainId_quiet F.plain_set_update_loop _, ih (i + 1) _ (by omega) hlt (W.frame _ s' _ _ hst' (Nat.le_succ _) fun b hb o e => ?_) ⟨_, hc3, hS3⟩ fun s'' c2 hm'' hc'' hS'' => ?_⟩
    · rw [hsb.2 b (fun h : b = S => hSf (by rw [← h]; exact hb))]; exact e
    · refine hR s'' c2 (Moved.trans W.gtrans ((hm.mono hsub).then_heap (Nat.le_succ _) fun b o hb e => ?_) hm'') hc'' hS''
      rw [hsb.2 b (fun h : b = S => hb (by rw [h]; exact List.mem_cons_self))]; exact e
set_option maxRecDepth 100000 in
set_option maxHeartbeats 3200000 in
theorem call_set_listX {l : Addr} {items : Array Value} (ns : List Str) {Q : Value → Shared → Prop} (hh : A.handled = none) (hl : s.heap.IsList l items) (hit : StrsAre items.toList ns) (hb : ns.length + 1 < scanBound)
    (h : ∀ (h' : Heap) (tk c : Nat), SetX w h' s.heap.objs.size (fun j => decide (j ∈ ns)) c → c ≤ ns.length → (∀ b o, s.heap.get? b = some o → h'.get? b = some o) → Q (.ref s.heap.objs.size) { s with heap := h', toks := tk }) :
    wpAny (model P w) A (call (.type "set") [.ref l]) Q E s := by
  have hisz : items.size = ns.length := by
    have q := StrsAre.length hit
    rw [Array.length_toList] at q
    exact q
  obtain ⟨c, tl, hmro⟩ := F.called_set.mro
  have hmade := F.called_set.made
  have hsub := F.called_set.sub
  refine wpAny_call (codeAny_of_tree ?_)
  show wpAny _ _ (callAny (.type "set") _) _ _ _
  refine wpAny_pure ⟨Code.quiet_builtin _ (by decide +kernel), codeAny_builtin F.entry_type_call ?_⟩
  rw [Around.under_plain (weight_type_call_type "set" [.ref l] []) rfl]
  have h1 := F.called_set.notType
  have h2 := F.called_set.canCreate
  have hct := F.typeCall_set_1 (.ref l)
  repeat (any_goals (first | assumption | wp_step))
  refine codeAny_mono (code_set_led1 (.ref l) (E := E) (Q₁ := fun obj s₁ => obj = .ref s.heap.objs.size ∧ s₁ = { s with heap := s.heap.push { cls := .type "set", dict := none, data := .set #[] 0 (.fresh 0 0 (!w.params.followText "set-order")) } }) ⟨rfl, rfl⟩) fun r s₁ hr => ?_
  cases r with
  | error e => exact hr
  | ok fl =>
    cases fl with
    | ret obj =>
      obtain ⟨rfl, rfl⟩ := hr
      have hS : (s.heap.push { cls := .type "set", dict := none, data := .set #[] 0 (.fresh 0 0 (!w.params.followText "set-order")) }).get? s.heap.objs.size = some { cls := .type "set", dict := none, data := .set #[] 0 (.fresh 0 0 (!w.params.followText "set-order")) } := Heap.get?_push_size _ rfl
      have hT : Shared.TypeIs { s with heap := s.heap.push { cls := .type "set", dict := none, data := .set #[] 0 (.fresh 0 0 (!w.params.followText "set-order")) } } (.ref s.heap.objs.size) "set" := ⟨_, hS, rfl⟩
      have hli := F.called_set.init.lookup
      have hbi := F.called_set.init.bind (.ref s.heap.objs.size)
      repeat (any_goals (first | assumption | wp_step))
      refine codeAny_mono (codeAny_call_builtin (R := wants (fun r s₂ => r = .none ∧ ∃ h' tk c, s₂ = { s with heap := h', toks := tk } ∧ SetX w h' s.heap.objs.size (fun j => decide (j ∈ ns)) c ∧ c ≤ ns.length ∧
          (∀ b o, s.heap.get? b = some o → h'.get? b = some o)) E) F.called_set.init.plain F.entry_set_init (check_set_init_1 hT ?_)) fun r₂ s₂ hr₂ => ?_
      · obtain ⟨ol, hol, hcl, nl, hdl⟩ := hl
        obtain ⟨ocls, odict, odata, oslots⟩ := ol
        simp only at hcl hdl
        subst hcl; subst hdl
        have hol' : (s.heap.push { cls := .type "set", dict := none, data := .set #[] 0 (.fresh 0 0 (!w.params.followText "set-order")) }).get? l = some { cls := .type "list", dict := odict, data := .seq items nl, slots := oslots } := Heap.get?_push_of_some _ hol
        have hsls := F.sub_list_set
        have hslf := F.sub_list_frozenset
        have hne : (Value.type "list" == Value.type "dict") = false := by decide
        have hl1 : (s.heap.push { cls := .type "set", dict := none, data := .set #[] 0 (.fresh 0 0 (!w.params.followText "set-order")) }).IsList l items := ⟨_, hol', rfl, nl, rfl⟩
        unfold Builtin.«set.__init__» noKeywords Builtin.Frozenset.updateFrom
        generalize hPI : pyIter = PI
        wp_walk
        subst hPI
        refine wpAny_pyIter_list hl1 ?_
        refine wpAny_bind (wpAny_runValue ?_)
        have hlS : l < s.heap.objs.size := Heap.lt_size hol
        have hh3 : A.in1.in1.in1.handled = none := by simp [hh]
        have hz1 : (s.heap.push { cls := .type "set", dict := none, data := .set #[] 0 (.fresh 0 0 (!w.params.followText "set-order")) }).objs.size = s.heap.objs.size + 1 := Heap.size_push ..
        have hneI : l ≠ (s.heap.push { cls := .type "set", dict := none, data := .set #[] 0 (.fresh 0 0 (!w.params.followText "set-order")) }).objs.size := by
          rw [Heap.size_push]; exact Nat.ne_of_lt (Nat.lt_succ_of_lt hlS)
        have hSf : s.heap.objs.size ∉ [(s.heap.push { cls := .type "set", dict := none, data := .set #[] 0 (.fresh 0 0 (!w.params.followText "set-order")) }).objs.size, l] := by
          rw [Heap.size_push]; simp only [List.mem_cons, List.mem_singleton, List.not_mem_nil, or_false, not_or]
          exact ⟨Nat.ne_of_lt (Nat.lt_succ_self _), Nat.ne_of_gt hlS⟩
        have hval : ∀ (i : Nat) (v : Value), items[i]? = some v → ∃ k t, ns[i]? = some k ∧ v = .str k t := fun i v hv => by
          obtain ⟨y, t, e1, e2⟩ := StrsAre.item hit i v (by rw [Array.getElem?_toList]; exact hv)
          exact ⟨y, t, e2, e1⟩
        refine setX_loop ((Walks.list hh3 _ l hneI items).toS) s.heap.objs.size
          hSf ns hisz hb hval (items.size - 0) 0 _ (by omega) (Nat.zero_le _)
          ⟨⟨_, Heap.get?_push_size _ rfl, rfl, rfl⟩, (hl1.push _)⟩ ?hS0 ?hR
        case hS0 =>
          have hget : ((s.heap.push { cls := .type "set", dict := none, data := .set #[] 0 (.fresh 0 0 (!w.params.followText "set-order")) }).push { cls := .type "list_iterator", data := .fields #[.ref l, .int 0 0] }).get? s.heap.objs.size
              = some { cls := .type "set", dict := none, data := .set #[] 0 (.fresh 0 0 (!w.params.followText "set-order")) } := Heap.get?_push_of_some _ hS
          exact ⟨0, Nat.le_refl 0, setX_empty hget⟩
        case hR =>
          intro s' c' hm hc' hS'
          obtain ⟨h', g2, d', tk', os'⟩ := s'
          have eg : g2 = s.gens := hm.gens
          have ed : d' = s.drawn := hm.drawn
          have eo : os' = s.os := hm.os
          subst eg; subst ed; subst eo
          show wpAny _ _ _ _ _ _
          refine wpAny_pure ?_
          show wpAny _ _ (ret Value.none) _ _ _
          rw [hisz] at hc'
          refine wpAny_pure ⟨rfl, h', tk', c', rfl, hS', hc', fun b o e => ?_⟩
          have hb0 : b < s.heap.objs.size := Heap.lt_size e
          have hb1 : b ≠ s.heap.objs.size := Nat.ne_of_lt hb0
          have hb2 : b ≠ (s.heap.push { cls := .type "set", dict := none, data := .set #[] 0 (.fresh 0 0 (!w.params.followText "set-order")) }).objs.size := by
            rw [Heap.size_push]; exact Nat.ne_of_lt (Nat.lt_succ_of_lt hb0)
          exact hm.heap b o (by simp only [List.mem_cons, List.mem_singleton, List.not_mem_nil, or_false, not_or]; exact ⟨hb1, hb2⟩) (Heap.get?_push_of_some _ (Heap.get?_push_of_some _ e))
      · cases r₂ with
        | error e => exact hr₂
        | ok fl₂ =>
          cases fl₂ with
          | ret r =>
            obtain ⟨rfl, h', tk, c', rfl, hS', hc', hk'⟩ := hr₂
            repeat (any_goals (first | assumption | wp_step))
            exact h _ _ _ hS' hc' hk'
          | _ => exact hr₂.elim
    | _ => exact hr.elim

end
/-! ### texts in their sequence -/
def leS (a b : Str) : Bool := !ltCps b.cps.toList a.cps.toList
theorem leS_iff (a b : Str) : leS a b = true ↔ a.cps.toList ≤ b.cps.toList := by
  unfold leS
  rw [ltCps_eq, Bool.not_eq_true', decide_eq_false_iff_not]
  exact List.not_lt
theorem leS_tot (a b : Str) : leS a b = true ∨ leS b a = true := by
  rw [leS_iff, leS_iff]
  exact List.le_total _ _
theorem leS_tr (a b c : Str) (h1 : leS a b = true) (h2 : leS b c = true) : leS a c = true := by
  rw [leS_iff] at h1 h2 ⊢
  exact List.le_trans h1 h2
theorem str_ext {a b : Str} (h : a.cps.toList = b.cps.toList) : a = b := by
  obtain ⟨a⟩ := a
  obtain ⟨b⟩ := b
  exact congrArg Str.mk (Array.toList_inj.mp h)
theorem leS_anti (a b : Str) (h1 : leS a b = true) (h2 : leS b a = true) : a = b := by
  rw [leS_iff] at h1 h2
  exact str_ext (List.le_antisymm h1 h2)
def sortS (l : List Str) : List Str := isort leS l
theorem sortS_perm (l : List Str) : (sortS l).Perm l := isort_perm _ _
theorem rising_pair : ∀ (p : Str) (l : List Str), risingS p l = true → (p :: l).Pairwise fun a b => leS a b = true
  | p, [], _ => List.pairwise_singleton _ _
  | p, x :: r, h => by
    obtain ⟨h1, h2⟩ := Bool.and_eq_true_iff.mp (show (!ltCps x.cps.toList p.cps.toList && risingS x r) = true from h)
    have ih := rising_pair x r h2
    refine List.pairwise_cons.mpr ⟨fun y hy => ?_, ih⟩
    rcases List.mem_cons.mp hy with e | hy
    · subst e
      exact h1
    · exact leS_tr _ _ _ h1 ((List.pairwise_cons.mp ih).1 y hy)
theorem sortedS_pair {l : List Str} (h : sortedS l = true) : l.Pairwise fun a b => leS a b = true := by
  cases l with
  | nil => exact List.Pairwise.nil
  | cons x r => exact rising_pair x r h
theorem sortS_eq {l m : List Str} (p : l.Perm m) (s : sortedS l = true) : l = sortS m :=
  sorted_uniq leS leS_anti (sortedS_pair s) (isort_sorted leS leS_tot leS_tr m) (p.trans (isort_perm _ _).symm)
theorem sortS_congr {l m : List Str} (p : l.Perm m) : sortS l = sortS m :=
  sorted_uniq leS leS_anti (isort_sorted leS leS_tot leS_tr l) (isort_sorted leS leS_tot leS_tr m) (((isort_perm leS l).trans p).trans (isort_perm leS m).symm)
section
variable {P : Program} {w : World} {A : Around} {E : Value → Shared → Prop} {s : Shared} {a : Addr} {S : Str → Bool} {n : Nat}
theorem strs_all {vs : List Value} (h : ∀ v ∈ vs, ∃ x t, v = .str x t) : StrsAre vs (vs.map fun v => match v with | .str x _ => x | _ => ⟨#[]⟩) := by
  induction vs with
  | nil => exact .nil
  | cons v vs ih =>
    obtain ⟨x, t, rfl⟩ := h v List.mem_cons_self
    exact .cons x t (ih fun u hu => h u (List.mem_cons_of_mem _ hu))
set_option maxHeartbeats 1600000 in
theorem sorted_setX {Q : Value → Shared → Prop} (R : SetX w s.heap a S n) (hh : A.handled = none) (h64 : n ≤ sizeLine)
    (hQ : ∀ s' p (out : List Value) (c : Nat) (ns : List Str), (∀ b o, s.heap.get? b = some o → s'.heap.get? b = some o) → s'.gens = s.gens → s'.os = s.os → s.heap.objs.size ≤ p →
      s'.heap.get? p = some (seqObj "list" out.toArray c) → StrsAre out ns → ns.Nodup → sortedS ns = true → (∀ k, k ∈ ns ↔ S k = true) → ns.length = n → Q (.ref p) s') :
    wpAny (model P w) A (call (.builtin "sorted") [.ref a]) Q E s := by
  obtain ⟨o, es, ep, t, ho, hex, hd, g, nd, hm, hb, hf, hn, hr, hl⟩ := R
  refine Calls.call_function_entry PyProof.Rows.kind_sorted PyProof.Rows.plain_sorted PyProof.Rows.entry_sorted (PyProof.Rows.args_sorted1 _) ?_
  unfold Builtin.«sorted»
  refine wpAny_bind (m := checkCount "sorted" 1 1 _) (wpAny_pure ?_)
  refine wpAny_bind (collect_set (A := A.in1) hh ⟨o, ho, hex.1, hd⟩ hf hb hr hl fun s1 vs k1 hz g1 o1 pm => ?_)
  have hvl : vs.length = n := by rw [pm.length_eq, List.length_map, Array.length_toList]; exact hn
  have hI : StrsAre vs (vs.map fun v => match v with | .str x _ => x | _ => ⟨#[]⟩) := strs_all fun v hv => by
    obtain ⟨e, he, q⟩ := List.mem_map.mp (pm.mem_iff.mp hv)
    obtain ⟨k, tk, h1, _⟩ := g e he
    exact ⟨k, tk, by rw [← q]; exact h1⟩
  have pk : (vs.map fun v => match v with | .str x _ => x | _ => (⟨#[]⟩ : Str)).Perm (es.toList.map txtOf) := by
    have q := pm.map fun v => match v with | .str x _ => x | _ => (⟨#[]⟩ : Str)
    rw [List.map_map] at q
    exact q
  refine wpAny_bind (wpAny_newList ?_ (by rw [hvl]; exact h64))
  have hoL : (s1.heap.push (seqObj "list" vs.toArray 0)).get? s1.heap.objs.size = some (seqObj "list" vs.toArray 0) := Heap.get?_push_size _ rfl
  refine wpAny_bind (wpAny_holding (wpAny_call_entry PyProof.Rows.slot_list_sort ⟨_, hoL, rfl⟩ PyProof.Rows.entry_list_sort
    (list_sort_treeKAny strKind_oneLt hoL hI.keysOf (fun v₁ v₂ rest e => keyKind_strs (by rw [← e]; exact hI)) (by rw [hvl]; exact h64) fun st' hp hs => ⟨_, rfl, ?_⟩) (PyProof.Rows.args_list_sort _)))
  obtain ⟨ss', a1, a2, a3⟩ := sorted_out_str hI hp hs
  obtain ⟨c, hc⟩ := PyProof.Rows.sortedHeap_at (vs := vs) (out := (arrOf st').map (·.2)) hoL
  have pn : ss'.Perm (es.toList.map txtOf) := a2.trans pk
  refine wpAny_pure ⟨_, rfl, hQ _ s1.heap.objs.size ((arrOf st').map (·.2)).toList c ss' (fun b u e => ?_) g1 o1 hz (by rw [Array.toArray_toList]; exact hc) a1 (pn.nodup_iff.mpr nd) a3 (fun k => by rw [pn.mem_iff, ← hm k]) ?_⟩
  · have q := k1 b u e
    have hlt := Heap.lt_size q
    show (PyProof.Rows.sortedHeap (s1.heap.push (seqObj "list" vs.toArray 0)) s1.heap.objs.size vs ((arrOf st').map (·.2))).get? b = some u
    rw [PyProof.Rows.sortedHeap_old (Nat.ne_of_lt hlt) (by rw [size_push']; exact Nat.lt_succ_of_lt hlt)]
    exact Heap.get?_push_of_some _ q
  · rw [pn.length_eq, List.length_map, Array.length_toList]; exact hn
end
/-! ### the rules of the layer -/
def SetXO (w : World) (a : Addr) (S : Str → Bool) (n : Nat) : HO := .ext fun h => SetX w h a S n
theorem setXO_new {w : World} {P : Program} {H : Hp} {h : Heap} {a : Addr} {S : Str → Bool} {n : Nat} (R : SetX w h a S n) : ObjOk P w H h a (SetXO w a S n) := by
  have ⟨o, _, _, _, ho, _⟩ := R
  exact ⟨R, ⟨o, ho⟩, fun h1 h2 p k => SetX.at p k⟩
/-- set(xs), xs a list of texts -/
def rSetS (K : PySem.W.Frag) (w : World) : List V → Hp → VK → Prop := fun xs H Q => ∃ (l : Addr) (ns : List Str), xs = [V.ref l] ∧ SqL K H l (ns.map V.str) ∧ ns.length + 1 < 4096 ∧
  ∀ p c, H p = none → c ≤ ns.length → Q (.ref p) (upd H p (SetXO w p (fun j => decide (j ∈ ns)) c))
/-- sorted(s), s a set of texts -/
def rSortSetS (w : World) : List V → Hp → VK → Prop := fun xs H Q => ∃ (a : Addr) (ns : List Str) (c : Nat), xs = [V.ref a] ∧ H a = some (SetXO w a (fun j => decide (j ∈ ns)) c) ∧ c ≤ ns.length ∧ ns.length + 1 < 4096 ∧
  ∀ p, H p = none → Q (.ref p) (upd H p (.lst ((sortS (dedup ns)).map V.str)))
section
variable {X : Cx}
theorem cr_setS (hc : X.calm = true) : CallR X (.type "set") (rSetS X.K X.w) := by
  intro pins s σ H xs us Q I r h
  obtain ⟨l, ns, rfl, hs, hb, q⟩ := h
  obtain ⟨u, rfl, ru⟩ := vals1 r
  obtain rfl : u = Value.ref l := ru
  obtain ⟨its, rv, pl, hz⟩ := I.list hs
  refine call_set_listX ns (I.ok.hd hc) pl.isList (by simpa using rv.strs) hb fun h' tk c hS hcl hk => ?_
  exact ⟨.ref _, _, I.laid (t' := tk) hk (Nat.le_refl _) (setXO_new hS), rfl, q _ c (I.hok.fresh (Nat.le_refl _)) hcl⟩
theorem cr_sortSetS (hc : X.calm = true) : CallR X (.builtin "sorted") (rSortSetS X.w) := by
  intro pins s σ H vs us Q I r h
  obtain ⟨a, ns, n, rfl, ha, hn, hb, q⟩ := h
  have R : SetX X.w s.heap a (fun j => decide (j ∈ ns)) n := (I.hok a _ ha).1
  rw [Vals.ref1 r]
  refine sorted_setX R (I.ok.hd hc) (by rw [sizeLine_eq]; omega) fun s' p out c ks k g o hp hg hi hnd hs hm hl => ?_
  have ek : ks = sortS (dedup ns) := sortS_eq ((List.perm_ext_iff_of_nodup hnd (nodup_dedup ns)).mpr fun x => by rw [hm x, mem_dedup, decide_eq_true_eq]) hs
  subst ek
  have hlen : ((sortS (dedup ns)).map V.str).length ≤ sizeLine := by rw [List.length_map, hl, sizeLine_eq]; omega
  have hn : H p = none := I.hok.fresh hp
  have J : L2.Inv X pins σ (upd H p (.lst ((sortS (dedup ns)).map V.str))) { s with heap := s'.heap, gens := s'.gens, drawn := s'.drawn, toks := s'.toks } :=
    I.call (ch := []) (Un.laid k hp hn) (I.hok.laid k hp ⟨hlen, out, c, vals_of_strs hi, hg⟩) (by rw [g]; exact I.bare) (fun _ z => nomatch z)
  have e : s' = { s with heap := s'.heap, gens := s'.gens, drawn := s'.drawn, toks := s'.toks } := by
    cases s'
    cases s
    cases o
    rfl
  rw [e]
  exact ⟨.ref p, _, J, rfl, q p hn⟩
end
end LU

end
section
set_option Elab.async false
set_option linter.all false
set_option maxRecDepth 100000
set_option maxHeartbeats 1000000
/-! LV: list(reversed(t)) of a tuple; == with one shallow side. -/
namespace LV
open PySem PySem.Spec PyProof.Rows L2 RT

theorem nolen_rt : typeLookup (.type "reversed") "__len__" = pure none := by rw [typeLookup_type, builtinLookup_eq_fast]; kernel_rfl
theorem hint_rt : typeLookup (.type "reversed") "__length_hint__" = pure (some (.builtin "reversed.__length_hint__")) := by rw [typeLookup_type, builtinLookup_eq_fast]; kernel_rfl
theorem entry_rt_hint : entryFor table "reversed.__length_hint__" = some Builtin.«reversed.__length_hint__» := entryFor_of_tree (by kernel_rfl)
theorem kind_rt_hint : builtinKind "reversed.__length_hint__" = some .method := by decide +kernel
theorem bind_rt (self : Value) : bindSpecial (.builtin "reversed.__length_hint__") self = pure (.builtin "reversed.__length_hint__", [self]) := by
  have hop : withoutEnding? "reversed.__length_hint__" "#opaque" = none := by decide +kernel
  have hdat : withoutEnding? "reversed.__length_hint__" "#data" = none := by decide +kernel
  simp only [bindSpecial, typeOf, builtinType, hop, hdat, kind_rt_hint]; rfl
theorem slot_rt_hint : Slot "reversed" "__length_hint__" "reversed.__length_hint__" :=
  .of (owner := "reversed") (n := "__length_hint__") (by rw [typeLookup_type, builtinLookup_eq_fast]; kernel_rfl) (by decide +kernel) (by decide +kernel) (by decide +kernel)
    (by first | exact .inl (by decide +kernel) | exact .inr (by decide +kernel)) (by rw [isSubtype_type]; kernel_rfl)
theorem args_rt_hint (a : Value) : argsOk "reversed.__length_hint__" ⟨[a], []⟩ := by
  unfold argsOk; rw [signature?_of (id := "reversed.__length_hint__") (n := ['_', '_', 't', 'n', 'i', 'h', '_', 'h', 't', 'g', 'n', 'e', 'l', '_', '_']) (o := ['d', 'e', 's', 'r', 'e', 'v', 'e', 'r']) (by kernel_rfl) owner_rt]; kernel_rfl
section
variable {P : Program} {w : World} {A : Around} {E : Value → Shared → Prop} {s : Shared}
theorem call_rt_hint {it t : Addr} {items : Array Value} {Q : Value → Shared → Prop} (hit : IsRt s.heap it t ((items.size : Int) - 1)) (ht : IsTup s.heap t items) (hz : items.size ≤ sizeLine)
    (h : ∀ u tk, s.toks ≤ tk → Q (.int (items.size : Nat) u) { s with toks := tk }) : wpAny (model P w) A (call (.builtin "reversed.__length_hint__") [.ref it]) Q E s := by
  obtain ⟨o, ho, hc, hd⟩ := id hit
  refine wpAny_call_entry slot_rt_hint hit.typeIs entry_rt_hint ?_ (args_rt_hint _)
  unfold Builtin.«reversed.__length_hint__»
  refine wpAny_bind (wpAny_of_eq (a := Value.ref it) rfl ?_)
  try dsimp only
  refine wpAny_bind (wpAny_field ho hd (x := .ref t) rfl ?_)
  try dsimp only
  rw [if_neg (show ¬ (Value.ref t == Value.none) = true from fun h => nomatch (beq_iff_eq.mp h))]
  refine wpAny_bind (len_tuple ht (by rw [sizeLine_eq] at hz; omega) ?_)
  refine wpAny_bind (wpAny_of_eq (a := some ((items.size : Nat) : Int)) rfl ?_)
  try dsimp only
  refine wpAny_bind (wpAny_field (s := { s with toks := s.toks + 1 + 1 }) ho hd (x := rawInt ((items.size : Int) - 1)) rfl ?_)
  show wpAny _ _ (if ((items.size : Nat) : Int) < (items.size : Int) - 1 + 1 then _ else _) _ _ _
  rw [if_neg (by omega)]
  unfold retInt
  refine wpAny_bind (wpAny_mkInt ?_)
  refine wpAny_pure ⟨_, rfl, ?_⟩
  have e : (items.size : Int) - 1 + 1 = (items.size : Nat) := by omega
  rw [e]
  exact h _ _ (by show s.toks ≤ s.toks + 1 + 1 + 1; omega)
end
theorem tup_at {h h' : Heap} {t : Addr} {items : Array Value} (x : IsTup h t items) (e : ∀ o, h.get? t = some o → h'.get? t = some o) : IsTup h' t items := let ⟨o, ho, r⟩ := x; ⟨o, e _ ho, r⟩
theorem walks_rt {P : Program} {w : World} {A : Around} (hh : A.handled = none) (I t : Addr) (hne : t ≠ I) (items : Array Value) (hz : items.size ≤ sizeLine) :
    Walks P w A I [I, t] [I] items.size (fun i v => items[items.size - 1 - i]? = some v) (fun i h => i ≤ items.size ∧ IsRt h I t ((items.size : Int) - 1 - (i : Int)) ∧ IsTup h t items) where
  sub := fun b hb => by simp at hb; simp [hb]
  frame := fun _ _ _ x hk => ⟨x.1, x.2.1.at fun o e => hk I (by simp) o e, tup_at x.2.2 fun o e => hk t (by simp) o e⟩
  item := fun i s Q E hi x hQ => by
    have e : (items.size : Int) - 1 - (i : Int) = ((items.size - 1 - i : Nat) : Int) := by omega
    have hit := x.2.1
    rw [e] at hit
    have hx : items[items.size - 1 - i]? = some (items[items.size - 1 - i]'(by omega)) := Array.getElem?_eq_getElem (by omega)
    refine next_rt_item hit x.2.2 hx hz fun h' hit' hs' => ?_
    have e2 : ((items.size - 1 - i : Nat) : Int) - 1 = (items.size : Int) - 1 - ((i + 1 : Nat) : Int) := by omega
    rw [e2] at hit'
    exact hQ _ h' (s.toks + 1) hx ⟨hi, hit', tup_at x.2.2 fun o eo => (hs'.2 t hne).trans eo⟩ fun b o hb eo => (hs'.2 b (fun h => hb (by simp [h]))).trans eo
  done := fun s Q E x hQ => by
    have e : (items.size : Int) - 1 - (items.size : Int) = -1 := by omega
    have hit := x.2.1
    rw [e] at hit
    exact next_rt_end hh hit fun h' he' => hQ h' s.toks fun b o hb eo => he' b o (fun h => hb (by simp [h])) eo
  self := fun _ _ _ _ x hQ => iter_rt x.2.1 hQ
section
variable {prog : Program} {w : World} {A : Around} {s : Shared} {R : Result → Shared → Prop}
variable {I : Addr} {fp wr : List Addr} {G : Array GenState → Array GenState → Prop} {n : Nat} {P : Nat → Value → Prop} {St : Nat → Shared → Prop}
theorem extend_rt (W : WalksS prog w A.in1 I fp wr G n P St) (hT : ∀ i s, St i s → s.TypeIs (.ref I) "reversed")
    (hhint : ∀ (s₁ : Shared) (Q' : Value → Shared → Prop) (E' : Value → Shared → Prop), St 0 s₁ → (∀ u tk, s₁.toks ≤ tk → Q' (.int (n : Nat) u) { s₁ with toks := tk }) → wpAny (model prog w) A.in1 (call (.builtin "reversed.__length_hint__") [.ref I]) Q' E' s₁)
    (S : Addr) (res : Value) (c₀ : Nat) (hst : St 0 s) (hSf : S ∉ fp) (hI : I ∈ fp)
    (hS : s.heap.get? S = some { cls := .type "list", data := .seq #[] c₀ })
    (hR : ∀ s' acc' c', Moved (S :: wr) G s s' → s'.heap.get? S = some { cls := .type "list", dict := none, data := .seq acc' c', slots := #[] } → ItemsOf P acc' n → R (.ok (.ret res)) s') (hn : n ≤ sizeLine) :
    wpAny (model prog w) A.in1 (Builtin.List.listExtendWith (.ref S) (.ref I) res)
      (fun fin s' => match fin with | .done f => R (.ok f) s' | .again c' => c'.quiet = true ∧ codeAny (model prog w) A c' R s') (fun e s' => R (.error e) s') s := by
  have hSI : S ≠ I := fun e => hSf (e ▸ hI)
  unfold Builtin.List.listExtendWith
  refine wpAny_bind (wpAny_typeOf (hT 0 _ hst) ?_)
  have h1 : Builtin.List.listSameRef (.ref S) (.ref I) = false := by simp [Builtin.List.listSameRef, hSI]
  have h2 : (Value.type "reversed" == Value.type "list") = false := by decide
  have h3 : (Value.type "reversed" == Value.type "tuple") = false := by decide
  simp only [h1, h2, h3, Bool.or_false, Bool.false_eq_true, if_false]
  refine wpAny_bind (W.self 0 _ _ _ hst ?_)
  refine wpAny_bind (wpAny_holding ?_)
  unfold Builtin.List.listLengthHint
  refine wpAny_bind (wpAny_specialOf (hT 0 _ hst) nolen_rt ?_)
  show wpAny _ A.in1 (specialOf (Value.ref I) (Str.ofString "__length_hint__") >>= _) _ _ _
  refine wpAny_bind (wpAny_specialOf (hT 0 _ hst) hint_rt ?_)
  generalize hid : ("reversed.__length_hint__" : String) = id0
  wp_delta
  rw [show splitId id0 = some ("reversed", "__length_hint__") from by subst hid; decide +kernel]
  subst hid
  refine wpAny_bind (wpAny_isInstance (b := true) (hT 0 _ hst) (by rw [isSubtype_type]; kernel_rfl) ?_)
  rw [if_neg (by decide)]
  dsimp only
  rw [if_neg (by decide +kernel)]
  refine wpAny_bind (wpAny_rule ?_)
  refine wpAny_bind (wpAny_of_eq (bind_rt _) ?_)
  dsimp only
  refine wpAny_bind (wpAny_attempt (hhint _ _ _ hst fun u tk htk => ?_))
  dsimp only
  have ea : asInt? (.int (n : Int) u) = pure (some (n : Int)) := rfl
  rw [ea, pure_bind]
  dsimp only
  have hn' := hn
  rw [sizeLine_eq] at hn'
  have hf : Builtin.List.listFitsIndex (n : Int) = true := by
    have h1 : (-(2 ^ 63 : Int) ≤ (n : Int)) := by omega
    have h2 : ((n : Int) < 2 ^ 63) := by omega
    exact Bool.and_eq_true_iff.mpr ⟨decide_eq_true h1, decide_eq_true h2⟩
  have hl : ¬ Builtin.List.listTooLong (n : Int).toNat = true := by
    unfold Builtin.List.listTooLong
    rw [Int.toNat_natCast, decide_eq_true_eq]
    omega
  rw [if_neg (by rw [hf]; decide), if_neg (by omega), if_neg hl]
  refine wpAny_pure ?_
  have hst₂ := W.frame 0 _ _ tk hst htk fun b _ o e => e
  have loop : ∀ (h' : Heap) (cc : Nat), h'.get? S = some { cls := .type "list", dict := none, data := .seq #[] cc, slots := #[] } → (∀ b o, b ≠ S → s.heap.get? b = some o → h'.get? b = some o) →
      codeAny (model prog w) A (.builtin "list.extend.loop" ⟨[.ref S, .ref I, res], []⟩) R { s with heap := h', toks := tk } := fun h' cc hS₃ oth => by
    refine codeAny_extend_loopS W hn _ hSf _ n 0 _ _ _ rfl (Nat.zero_le _)
      (W.frame 0 s _ tk hst htk fun b hb o e => oth b o (fun h => hSf (h ▸ hb)) e) hS₃ (ItemsOf.nil P) fun s' acc' c' hm hS' hacc => ?_
    exact hR s' acc' c' (Moved.trans W.gtrans ((Moved.refl W.grefl).then_heap htk fun b o hb e => oth b o (fun h => hb (h ▸ List.mem_cons_self)) e) hm) hS' hacc
  by_cases h0 : n = 0
  · rw [if_neg (by subst h0; decide +kernel)]
    exact wpAny_pure ⟨plainId_quiet F.plain_extend_loop _, loop s.heap c₀ hS fun b o _ e => e⟩
  · rw [if_pos (by
      have : ((n : Int) != 0) = true := by simp; omega
      rw [this]
      rfl)]
    refine wpAny_bind (wpAny_rule ?_)
    refine wpAny_bind ?_
    show wpAny _ A.in1 (updateSeq S (·.push .none) >>= fun _ => updateSeq S (·.pop)) _ _ _
    refine wpAny_bind (wpAny_updateSeq hS rfl ?_)
    have hS₂ := Heap.get?_update_self (Obj.mapSeq (·.push Value.none)) hS rfl
    refine wpAny_updateSeq (hz := by seq_fits) hS₂ rfl ?_
    have hS₃ := Heap.get?_update_self (Obj.mapSeq (·.pop)) hS₂ rfl
    exact wpAny_pure ⟨plainId_quiet F.plain_extend_loop _, loop _ _ hS₃ fun b o hb e => (Heap.get?_update_other _ _ (Ne.symm hb)).trans ((Heap.get?_update_other _ _ (Ne.symm hb)).trans e)⟩
theorem list_init_rt (W : WalksS prog w A.in1 I fp wr G n P St) (hT : ∀ i s, St i s → s.TypeIs (.ref I) "reversed")
    (hhint : ∀ (s₁ : Shared) (Q' : Value → Shared → Prop) (E' : Value → Shared → Prop), St 0 s₁ → (∀ u tk, s₁.toks ≤ tk → Q' (.int (n : Nat) u) { s₁ with toks := tk }) → wpAny (model prog w) A.in1 (call (.builtin "reversed.__length_hint__") [.ref I]) Q' E' s₁)
    (S : Addr) (hst : St 0 s) (hSf : S ∉ fp) (hI : I ∈ fp)
    (hS : s.heap.get? S = some { cls := .type "list", data := .seq #[] })
    (hR : ∀ s' acc' c', Moved (S :: wr) G s s' → s'.heap.get? S = some { cls := .type "list", dict := none, data := .seq acc' c', slots := #[] } → ItemsOf P acc' n → R (.ok (.ret .none)) s') (hn : n ≤ sizeLine) :
    wpAny (model prog w) A.in1 (Builtin.«list.__init__» ⟨[.ref S, .ref I], []⟩)
      (fun fin s' => match fin with | .done f => R (.ok f) s' | .again c' => c'.quiet = true ∧ codeAny (model prog w) A c' R s') (fun e s' => R (.error e) s') s := by
  show wpAny _ A.in1 (do let old ← Builtin.List.listItems (.ref S); Builtin.List.listUpdate (.ref S) (fun _ => #[]); letGo old.toList.reverse; Builtin.List.listExtendWith (.ref S) (.ref I) .none) _ _ s
  refine wpAny_bind ?_
  unfold Builtin.List.listItems
  refine wpAny_bind (wpAny_seqItems hS rfl (wpAny_pure ?_))
  show wpAny _ A.in1 (updateSeq S (fun _ => #[]) >>= fun _ => letGo (#[] : Array Value).toList.reverse >>= fun _ => Builtin.List.listExtendWith (.ref S) (.ref I) .none) _ _ s
  refine wpAny_bind (wpAny_updateSeq hS rfl ?_)
  have hS₂ := Heap.get?_update_self (Obj.mapSeq (fun _ => (#[] : Array Value))) hS rfl
  have oth : ∀ b o, b ≠ S → s.heap.get? b = some o → (s.heap.update S (Obj.mapSeq (fun _ => (#[] : Array Value)))).get? b = some o :=
    fun b o hb e => (Heap.get?_update_other _ _ (Ne.symm hb)).trans e
  refine wpAny_bind (wpAny_letGo ?_)
  refine extend_rt (hn := hn) W hT hhint S .none _ (W.frame 0 s _ s.toks hst (Nat.le_refl _) fun b hb o e => oth b o (fun h => hSf (h ▸ hb)) e) hSf hI hS₂ fun s' acc' c' hm hS' hacc => ?_
  exact hR s' acc' c' (Moved.trans W.gtrans ((Moved.refl W.grefl).then_heap (Nat.le_refl _) fun b o hb e => oth b o (fun h => hb (h ▸ List.mem_cons_self)) e) hm) hS' hacc
end
section
variable {prog : Program} {w : World} {A : Around} {E : Value → Shared → Prop} {s : Shared}
theorem call_list_rt {I t : Addr} {items : Array Value} {Q : Value → Shared → Prop} (hh : A.handled = none) (hit : IsRt s.heap I t ((items.size : Int) - 1)) (ht : IsTup s.heap t items) (hne : t ≠ I) (hn : items.size ≤ sizeLine)
    (hQ : ∀ (h' : Heap) (tk : Nat) (acc : Array Value) (c : Nat), (∀ b o, b ≠ I → s.heap.get? b = some o → h'.get? b = some o) → h'.get? s.heap.objs.size = some { cls := .type "list", dict := none, data := .seq acc c, slots := #[] } →
      ItemsOf (fun i v => items[items.size - 1 - i]? = some v) acc items.size → Q (.ref s.heap.objs.size) { s with heap := h', toks := tk }) :
    wpAny (model prog w) A (call (.type "list") [.ref I]) Q E s := by
  have W := (walks_rt (P := prog) (w := w) (A := A.in1.in1) (by simpa using hh) I t hne items hn).toS
  obtain ⟨oi, hoi, _⟩ := id hit
  obtain ⟨ot, hot, _⟩ := id ht
  have hfp : ∀ b ∈ [I, t], b < s.heap.objs.size := fun b hb => by
    simp only [List.mem_cons, List.not_mem_nil, or_false] at hb
    rcases hb with rfl | rfl
    · exact Heap.lt_size hoi
    · exact Heap.lt_size hot
  have hSf : s.heap.objs.size ∉ [I, t] := fun hm => Nat.lt_irrefl _ (hfp _ hm)
  have e0 : ((items.size : Nat) : Int) - 1 - ((0 : Nat) : Int) = (items.size : Int) - 1 := by omega
  refine callType_codes (Q₁ := fun obj s₁ => obj = .ref s.heap.objs.size ∧ s₁ = { s with heap := s.heap.push { cls := .type "list", data := .seq #[] } }) F.called_list (F.typeCall_list_1 _) F.entry_list_init
    (code_list_new _ ⟨rfl, rfl⟩) fun obj s₁ h₁ => ?_
  obtain ⟨rfl, rfl⟩ := h₁
  have hS : (s.heap.push { cls := .type "list", data := .seq #[] }).get? s.heap.objs.size = some { cls := .type "list", data := .seq #[] } := Heap.get?_push_size _ rfl
  refine ⟨⟨_, hS, rfl⟩, F.args_list_init_2 _ _, list_init_rt (hn := hn) W (fun i s x => IsRt.typeIs x.2.1) (fun s₁ Q' E' x k => call_rt_hint (t := t) (items := items) (by have := x.2.1; rw [e0] at this; exact this) x.2.2 hn k) _ ⟨Nat.zero_le _, by rw [e0]; exact hit.at fun o e => Heap.get?_push_of_some _ e, tup_at ht fun o e => Heap.get?_push_of_some _ e⟩ hSf (by simp) hS fun s' acc' c' hm hS' hacc => ?_⟩
  refine ⟨rfl, ?_⟩
  rw [Moved.eq_with hm]
  refine hQ s'.heap s'.toks acc' c' (fun b o hb e => hm.heap b o (fun hmem => ?_) (Heap.get?_push_of_some _ e)) hS' hacc
  rcases List.mem_cons.mp hmem with e' | hmem
  · exact absurd (Heap.lt_size e) (by rw [e']; exact Nat.lt_irrefl _)
  · exact hb (List.mem_singleton.mp hmem)
end
/-- list(reversed(t)), t a tuple -/
def tListRev (K : PySem.W.Frag) (te : TE) : TE := fun σ H Q => te σ H fun v H1 => ∃ (a : Addr) (xs : List V), v = .ref a ∧ SqT K H1 a xs ∧ ∀ q, H1 q = none → Q (.ref q) (upd H1 q (.lst xs.reverse))
section
variable {X : Cx}
theorem pe_listRev {e : Expr} {te : TE} {p p2 pos pos2 : Pos} (hc : X.calm = true) (hg : Gl X "list") (hm : X.mg "list" = none) (hg2 : Gl X "reversed") (hm2 : X.mg "reversed" = none) (he : PE X e te)
    (hs : starEach [e] X.env = (false, eval e X.env) :: starEach [] X.env := by rfl)
    (hs2 : starEach [.Call (.Name "reversed" p2) [e] [] pos2] X.env = (false, eval (.Call (.Name "reversed" p2) [e] [] pos2) X.env) :: starEach [] X.env := by rfl) :
    PE X (.Call (.Name "list" p) [.Call (.Name "reversed" p2) [e] [] pos2] [] pos) (tListRev X.K te) := by
  refine ⟨fun pins s σ H Q I h => ?_⟩
  refine Call_ (ld_blt I hg hm boot_list (PyProof.Rows.callWith_type1 (args_cons (Call_ (ld_blt I hg2 hm2 PyProof.Rows.boot_reversed (PyProof.Rows.callWith_type1 (args_cons (thn (he.run pins s σ H _ I h) fun u s1 ⟨v, H1, I1, r1, q1⟩ => args_nil ?_) hs) hs rfl))) hs2) hs2 rfl))
  obtain ⟨a, xs, ev, hq, q⟩ := q1
  subst ev
  obtain rfl : u = Value.ref a := r1
  obtain ⟨its, rv, p', hz⟩ := I1.tuple hq
  have hn1 := line63
  have hl := rv.length
  refine call_reversed_tup p' (fun A E Q k => len_tuple p' (by simp only [List.size_toArray] <;> omega) k) (args_nil ?_)
  have k0 : ∀ b o, s1.heap.get? b = some o → (s1.heap.push (rtObj a ((its.toArray.size : Int) - 1))).get? b = some o := fun b o e => Heap.get?_push_of_some _ e
  have I2 : Inv X pins σ H1 { s1 with heap := s1.heap.push (rtObj a ((its.toArray.size : Int) - 1)), toks := s1.toks + 1 + 1 } := I1.kept (t' := s1.toks + 1 + 1) k0
  obtain ⟨f0, f1, f2, f3, f4, f5⟩ := I1.fpOk (H' := H1) (b := s1.heap.objs.size) (Nat.le_refl _) (I1.hok.fresh (Nat.le_refl _))
  obtain ⟨ot, hot, _⟩ := id p'
  have hne : a ≠ s1.heap.objs.size := Nat.ne_of_lt (Heap.lt_size hot)
  have hn : its.toArray.size ≤ sizeLine := by rw [List.size_toArray, ← rv.length]; exact hz
  refine call_list_rt (s := { s1 with heap := s1.heap.push (rtObj a ((its.toArray.size : Int) - 1)), toks := s1.toks + 1 + 1 }) (I1.ok.hd hc) ⟨_, Heap.get?_push_size _ rfl, rfl, rfl⟩ (tup_at p' fun o e => Heap.get?_push_of_some _ e) hne hn fun h' tk acc c hk ho hi => ?_
  have hsz : (s1.heap.push (rtObj a ((its.toArray.size : Int) - 1))).objs.size = s1.heap.objs.size + 1 := Heap.size_push ..
  have hle : s1.heap.objs.size ≤ (s1.heap.push (rtObj a ((its.toArray.size : Int) - 1))).objs.size := by rw [hsz]; exact Nat.le_succ _
  have kk : ∀ b o, s1.heap.get? b = some o → h'.get? b = some o := fun b o e => hk b o (Nat.ne_of_lt (Heap.lt_size e)) (k0 b o e)
  refine ⟨.ref _, upd H1 (s1.heap.push (rtObj a ((its.toArray.size : Int) - 1))).objs.size (.lst xs.reverse), I1.laid (t' := tk) kk hle ⟨by rw [List.length_reverse]; exact hz, acc.toList, c, vals_rev rv hi, ?_⟩, rfl, q _ (I1.hok.fresh hle)⟩
  rw [Array.toArray_toList]
  exact ho
/-- == of data at any depth, one side shallow -/
def rEqM (K : PySem.W.Frag) : R2 := fun x y H Q => ∃ d e, Dp K H x d ∧ Dp K H y e ∧ d.canLay0 = true ∧ e.canLay0 = true ∧ min d.depth e.depth ≤ 64 ∧ Q (.bl (PyData.eqv d e)) H
theorem op_eqM (hu : X.A.units + 64 < cLine) : OpR X (compareOp .Eq) (rEqM X.K) := by
  intro pins s σ H x y v u Q I rx ry h
  obtain ⟨d, e, hd, he, sd, se, hm, q⟩ := h
  obtain ⟨as, r1⟩ := Dp.reads I d x v hd rx
  obtain ⟨bs, r2⟩ := Dp.reads I e y u he ry
  exact SeqAt.compareEq_reads r1 r2 sd se (by omega) ⟨.bl _, H, I, rfl, q⟩
end
/-! ### trees: a name and its subtrees -/
inductive Tree where
  | mk (name : Str) (subs : List Tree)
def Tree.name : Tree → Str
  | .mk n _ => n
def Tree.subs : Tree → List Tree
  | .mk _ s => s
mutual
/-- the tree t stands in the heap at v -/
inductive TreeAt (H : Hp) : V → Tree → Prop
  | mk {a c : Addr} {n : Str} {vs : List V} {ts : List Tree} : H a = some (.tup [.str n, .ref c]) → H c = some (.tup vs) → TreesAt H vs ts → TreeAt H (.ref a) (.mk n ts)
inductive TreesAt (H : Hp) : List V → List Tree → Prop
  | nil : TreesAt H [] []
  | cons {v : V} {vs : List V} {t : Tree} {ts : List Tree} : TreeAt H v t → TreesAt H vs ts → TreesAt H (v :: vs) (t :: ts)
end
mutual
theorem TreeAt.same {H H' : Hp} (s : Same H H') : ∀ {v : V} {t : Tree}, TreeAt H v t → TreeAt H' v t
  | _, _, .mk h1 h2 h3 => .mk (s _ _ h1) (s _ _ h2) (TreesAt.same s h3)
theorem TreesAt.same {H H' : Hp} (s : Same H H') : ∀ {vs : List V} {ts : List Tree}, TreesAt H vs ts → TreesAt H' vs ts
  | _, _, .nil => .nil
  | _, _, .cons h1 h2 => .cons (TreeAt.same s h1) (TreesAt.same s h2)
end
mutual
def toD : Tree → PyData
  | .mk n ts => .tuple [.str n, .tuple (toDs ts)]
def toDs : List Tree → List PyData
  | [] => []
  | t :: ts => toD t :: toDs ts
end
mutual
def okT : Tree → Prop
  | .mk n ts => n ≠ ⟨#[]⟩ ∧ PyData.strOk n = true ∧ okTs ts
def okTs : List Tree → Prop
  | [] => True
  | t :: ts => okT t ∧ okTs ts
end
mutual
theorem dp_tree {K : PySem.W.Frag} {H : Hp} : ∀ {v : V} {t : Tree}, TreeAt H v t → Dp K H v (toD t)
  | _, _, .mk h1 h2 h3 => .tup (SqT.of h1) (.cons (.str _) (.cons (.tup (SqT.of h2) (dp_trees h3)) .nil))
theorem dp_trees {K : PySem.W.Frag} {H : Hp} : ∀ {vs : List V} {ts : List Tree}, TreesAt H vs ts → DpAll K H vs (toDs ts)
  | _, _, .nil => .nil
  | _, _, .cons h1 h2 => .cons (dp_tree h1) (dp_trees h2)
end
mutual
theorem clayT : ∀ t : Tree, okT t → (toD t).canLay0 = true
  | .mk n ts, h => by
    have h2 := clayTs ts h.2.2
    show (PyData.canLay0 (.str n) && (PyData.canLay0 (.tuple (toDs ts)) && true)) = true
    rw [show PyData.canLay0 (.str n) = PyData.strOk n from rfl, h.2.1, show PyData.canLay0 (.tuple (toDs ts)) = PyData.canLayAll0 (toDs ts) from rfl, h2]
    rfl
theorem clayTs : ∀ ts : List Tree, okTs ts → PyData.canLayAll0 (toDs ts) = true
  | [], _ => rfl
  | t :: ts, h => by
    show (PyData.canLay0 (toD t) && PyData.canLayAll0 (toDs ts)) = true
    rw [clayT t h.1, clayTs ts h.2]
    rfl
end
end LV

end
section
set_option Elab.async false
set_option linter.all false
set_option maxRecDepth 100000
set_option maxHeartbeats 1000000
/-! LX: sorted(set(xs)) of a list of pairs of ints (fewer than 64). -/
namespace LX
open PySem PySem.Spec PyProof.Rows L2 LM

theorem bd_pair {B : Int} {p : Int × Int} (h1 : 0 ≤ p.1 ∧ p.1 < B) (h2 : 0 ≤ p.2 ∧ p.2 < B) : TS.Bd B [p.1, p.2] := by
  intro i hi
  rcases List.mem_cons.mp hi with rfl | hi
  · exact h1
  · rcases List.mem_cons.mp hi with rfl | hi
    · exact h2
    · cases hi
theorem code_two (B x y : Int) : TS.code B [x, y] = x * B + y := by
  show x * B ^ 1 + (y * B ^ 0 + 0) = x * B + y
  simp [Int.pow_succ]
theorem code_lex {B : Int} {a b : Int × Int} (a1 : 0 ≤ a.1 ∧ a.1 < B) (a2 : 0 ≤ a.2 ∧ a.2 < B) (b1 : 0 ≤ b.1 ∧ b.1 < B) (b2 : 0 ≤ b.2 ∧ b.2 < B) (h : TS.code B [a.1, a.2] ≤ TS.code B [b.1, b.2]) : leP a b = true := by
  rw [code_two, code_two] at h
  unfold leP
  rw [decide_eq_true_eq]
  by_cases h1 : a.1 < b.1
  · exact .inl h1
  · by_cases h2 : a.1 = b.1
    · refine .inr ⟨h2, ?_⟩
      rw [h2] at h
      omega
    · exfalso
      have h3 : b.1 + 1 ≤ a.1 := by omega
      have h4 : (b.1 + 1) * B ≤ a.1 * B := Int.mul_le_mul_of_nonneg_right h3 (by omega)
      rw [Int.add_mul, Int.one_mul] at h4
      omega
/-- sorted(set(e)), e a list of pairs -/
def rSSP (K : PySem.W.Frag) : List V → Hp → VK → Prop := fun xs H1 Q => ∃ (l : Addr) (bs : List Addr) (ps : List (Int × Int)) (B : Int), xs = [.ref l] ∧ SqL K H1 l (bs.map V.ref) ∧ LS.AtPs H1 bs ps ∧ ps.length < 64 ∧ (∀ p ∈ ps, (0 ≤ p.1 ∧ p.1 < B) ∧ (0 ≤ p.2 ∧ p.2 < B)) ∧
  ∀ (p : Addr) (cs : List Addr) (H' : Hp), Same H1 H' → H' p = some (.lst (cs.map V.ref)) → LS.AtPs H' cs (sortP (dedup ps)) → Q (.ref p) H'
def tSortSetP (K : PySem.W.Frag) (te : TE) : TE := fun σ H Q => te σ H fun x H1 => rSSP K [x] H1 Q
def kOf (H : Hp) (b : Addr) : Addr × List Int := (b, [(LS.kH H (.ref b)).1, (LS.kH H (.ref b)).2])
theorem at_bs {H : Hp} {bs : List Addr} {ps : List (Int × Int)} (h : LS.AtPs H bs ps) : ps = bs.map fun b => LS.kH H (.ref b) := by
  induction h with
  | nil => rfl
  | cons r _ ih =>
    rw [List.map_cons, ← ih, LS.kH_at r]
theorem at_of {H : Hp} : ∀ {bs : List Addr}, (∀ b ∈ bs, LS.AtP H b (LS.kH H (.ref b))) → LS.AtPs H bs (bs.map fun b => LS.kH H (.ref b))
  | [], _ => .nil
  | b :: bs, h => .cons (h b List.mem_cons_self) (at_of fun c hc => h c (List.mem_cons_of_mem _ hc))
theorem rssp_imp {K : PySem.W.Frag} {P : Program} {w : World} {x : V} {H : Hp} {Q : VK} (h : rSSP K [x] H Q) : rSetOfT K P w [x] H fun y H2 => rSortedT K P w [y] H2 Q := by
  obtain ⟨l, bs, ps, B, e, hs, hat, hl, hB, q⟩ := h
  have eps := at_bs hat
  have hbl : bs.length = ps.length := by rw [eps, List.length_map]
  have hmem : ∀ b ∈ bs, LS.AtP H b (LS.kH H (.ref b)) := LS.atPs_mem hat
  have hb2 : ∀ b ∈ bs, LS.kH H (.ref b) ∈ ps := fun b hb => by
    rw [eps]
    exact List.mem_map_of_mem hb
  refine ⟨l, bs.map (kOf H), e, ?_, fun p hp => ?_, by rw [List.length_map]; omega, fun a L ha hsub hall => ?_⟩
  · rw [List.map_map]
    exact hs
  · obtain ⟨b, hb, rfl⟩ := List.mem_map.mp hp
    exact SqT.of (hmem b hb)
  · have sa : Same H (upd H a (SetTO P w a L)) := L2.Same.new ha
    have hL : ∀ p ∈ L, ∃ b ∈ bs, p = kOf H b := fun p hp => by
      obtain ⟨b, hb, e⟩ := List.mem_map.mp (hsub p hp)
      exact ⟨b, hb, e.symm⟩
    refine ⟨a, L, 2, B, rfl, upd_same, fun p hp => ?_, by decide, fun p hp => ?_, fun L' p pm nd hlt hs hp => ?_⟩
    · obtain ⟨b, hb, rfl⟩ := hL p hp
      exact SqT.of (sa _ _ (hmem b hb))
    · obtain ⟨b, hb, rfl⟩ := hL p hp
      have := hB _ (hb2 b hb)
      exact ⟨rfl, bd_pair this.1 this.2⟩
    · have hL' : ∀ p ∈ L', ∃ b ∈ bs, p = kOf H b := fun p hp => hL p (pm.mem_iff.mp hp)
      have sp : Same H (upd (upd H a (SetTO P w a L)) p (.lst (L'.map fun q => V.ref q.1))) := sa.trans (L2.Same.new hp)
      have e1 : ∀ q ∈ L', LS.kH H (.ref q.1) = (LS.kH H (.ref q.1)) ∧ q.2 = [(LS.kH H (.ref q.1)).1, (LS.kH H (.ref q.1)).2] := fun q hq => by
        obtain ⟨b, hb, rfl⟩ := hL' q hq
        exact ⟨rfl, rfl⟩
      refine q p (L'.map (·.1)) _ sp (by rw [upd_same, List.map_map]; rfl) ?_
      have h1 : LS.AtPs (upd (upd H a (SetTO P w a L)) p (.lst (L'.map fun q => V.ref q.1))) (L'.map (·.1)) ((L'.map (·.1)).map fun b => LS.kH H (.ref b)) := by
        have : ∀ M : List (Addr × List Int), (∀ q ∈ M, ∃ b ∈ bs, q = kOf H b) → LS.AtPs (upd (upd H a (SetTO P w a L)) p (.lst (L'.map fun q => V.ref q.1))) (M.map (·.1)) ((M.map (·.1)).map fun b => LS.kH H (.ref b)) := by
          intro M
          induction M with
          | nil => intro _; exact .nil
          | cons q M ih =>
            intro hM
            obtain ⟨b, hb, rfl⟩ := hM q List.mem_cons_self
            exact .cons (sp _ _ (hmem b hb)) (ih fun r hr => hM r (List.mem_cons_of_mem _ hr))
        exact this L' hL'
      have h2 : ((L'.map (·.1)).map fun b => LS.kH H (.ref b)) = sortP (dedup ps) := by
        rw [List.map_map]
        refine sortP_eq ?_ ?_
        · have n1 : (L'.map ((fun b => LS.kH H (.ref b)) ∘ (·.1))).Nodup := by
            have : (L'.map ((fun b => LS.kH H (.ref b)) ∘ (·.1))).map (fun p : Int × Int => [p.1, p.2]) = L'.map (·.2) := by
              rw [List.map_map]
              exact List.map_congr_left fun q hq => (e1 q hq).2.symm
            rw [← this] at nd
            exact List.Pairwise.of_map (fun p : Int × Int => [p.1, p.2]) (fun a b hne e => hne (by rw [e])) nd
          refine (List.perm_ext_iff_of_nodup n1 (nodup_dedup ps)).mpr fun p => ?_
          rw [mem_dedup]
          constructor
          · intro hp'
            obtain ⟨q, hq, rfl⟩ := List.mem_map.mp hp'
            obtain ⟨b, hb, rfl⟩ := hL' q hq
            exact hb2 b hb
          · intro hp'
            rw [eps] at hp'
            obtain ⟨b, hb, rfl⟩ := List.mem_map.mp hp'
            have h3 := hall (kOf H b) (List.mem_map_of_mem hb)
            obtain ⟨q, hq, e⟩ := List.mem_map.mp h3
            have hq' := pm.mem_iff.mpr hq
            refine List.mem_map.mpr ⟨q, hq', ?_⟩
            obtain ⟨b2, hb2', rfl⟩ := hL' q hq'
            have e4 : [(LS.kH H (.ref b2)).1, (LS.kH H (.ref b2)).2] = [(LS.kH H (.ref b)).1, (LS.kH H (.ref b)).2] := e
            show LS.kH H (.ref b2) = LS.kH H (.ref b)
            exact Prod.ext (List.cons.inj e4).1 (List.cons.inj (List.cons.inj e4).2).1
        · refine List.pairwise_map.mpr ?_
          refine List.Pairwise.imp_of_mem (fun {x y} hx hy h => ?_) hs
          obtain ⟨b, hb, rfl⟩ := hL' x hx
          obtain ⟨c, hc, rfl⟩ := hL' y hy
          have g1 := hB _ (hb2 b hb)
          have g2 := hB _ (hb2 c hc)
          exact code_lex g1.1 g1.2 g2.1 g2.2 h
      rw [h2] at h1
      exact h1
/-- a reading with any weaker wish -/
def up (te : TE) : TE := fun σ H Q => ∃ Q0 : VK, te σ H Q0 ∧ ∀ x H1, Q0 x H1 → Q x H1
section
variable {X : Cx} {e : Expr} {te : TE}
theorem pe_up (he : PE X e te) : PE X e (up te) := ⟨fun pins s σ H Q I ⟨Q0, h, hm⟩ => wpAny_mono (he.run pins s σ H Q0 I h) (fun v s1 ⟨x, H1, I1, r1, q1⟩ => ⟨x, H1, I1, r1, hm _ _ q1⟩) fun _ _ z => z⟩
theorem pe_sortSetP {p p2 pos pos2 : Pos} (hc : X.calm = true) (hu : X.A.units + 64 < cLine) (hg : Gl X "sorted") (hm : X.mg "sorted" = none) (hg2 : Gl X "set") (hm2 : X.mg "set" = none) (he : PE X e te)
    (hs : starEach [e] X.env = (false, eval e X.env) :: starEach [] X.env := by rfl)
    (hs2 : starEach [.Call (.Name "set" p2) [e] [] pos2] X.env = (false, eval (.Call (.Name "set" p2) [e] [] pos2) X.env) :: starEach [] X.env := by rfl) :
    PE X (.Call (.Name "sorted" p) [.Call (.Name "set" p2) [e] [] pos2] [] pos) (tSortSetP X.K te) := by
  have base := pe_callB (pos := pos) (p := p) (he := hs2) (cr_sortedT hc) hg hm (by decide +kernel) (pa_cons (pe_callTy (pos := pos2) (p := p2) (he := hs) (cr_setOfT hc hu) hg2 hm2 (by decide +kernel) (pa_cons (pe_up he) pa_nil hs)) pa_nil hs2)
  exact ⟨fun pins s σ H Q I h => base.run pins s σ H Q I ⟨_, h, fun x H1 z => rssp_imp z⟩⟩
end
/-! ### more readings -/
abbrev oSortedDS : List V → Hp → VK → Prop := fun xs H Q => ∃ (a : Addr) (kvs : List (Key × V)) (ks : List Str), xs = [.ref a] ∧ Rd H a (.dK kvs) ∧ kvs.map (·.1) = ks.map Sum.inr ∧ ks.length < 64 ∧ ∀ ys p, ys.Perm ks → sortedS ys = true → H p = none → Q (.ref p) (upd H p (.lst (ys.map V.str)))
abbrev rTIndex (K : PySem.W.Frag) : V → List V → Hp → VK → Prop := fun x xs H Q => ∃ p, ∃ ys : List Str, ∃ z j, x = .ref p ∧ xs = [.str z] ∧ SqT K H p (ys.map V.str) ∧ ys[j]? = some z ∧ (∀ m, m < j → ys[m]? ≠ some z) ∧ Q (.int (j : Nat)) H
/-- a written thing by its data alone -/
def tDat (K : PySem.W.Frag) (d : PyData) : TE := fun _ H Q => ∀ a, Dp K H (.ref a) d → Q (.ref a) H
def holeD : PyData := .tuple [.str ⟨#[]⟩, .tuple []]
structure DatAt (K : PySem.W.Frag) (mg : Str → Option Value) (x : Str) (d : PyData) : Prop where
  ex : ∃ a, mg x = some (.ref a) ∧ PySem.W.keepIn K (.ref a) = true ∧ ∀ H, Dp K H (.ref a) d
theorem units65 {k : Nat} {A : Around} (r : Room k A) : A.units + 65 < cLine := by
  have := r.un
  omega
theorem pe_dat {X : Cx} {x : Str} {d : PyData} {pos : Pos} (hg : Gl X x) (D : DatAt X.K X.mg x d) (hd : (x == ("__debug__" : Str)) = false := by decide) : PE X (.Name x pos) (tDat X.K d) :=
  ⟨fun _ _ _ H _ I h => by
    obtain ⟨a, hm, _, hd2⟩ := D.ex
    exact ld_glob I hg hm ⟨.ref a, H, I, rfl, h a (hd2 H)⟩ hd⟩
/-- a comprehension within one, with no free names of its own -/
theorem blkOk_in {N : List Str} {sc scope : Scope} {own : List (Str × Nat)} (h : blkC N scope scope own = true) (hf : (scope.names.all fun y => decide (y.2 ≠ .free)) = true) : BlkOk N sc scope own := by
  have b := blkOk_by h
  refine ⟨b.kind, b.uniq, b.ix, fun y hy e => ?_, b.own⟩
  exact absurd e (of_decide_eq_true (List.all_eq_true.mp hf y hy))
end LX

end
section
set_option autoImplicit false
set_option linter.all false
/-! Rows pressed by blocks: plain mathematics. -/
namespace LM
def pushRun (rs : List P2) (n : Int) : List P2 := match rs.getLast? with
  | some r => if r.1 = n then rs.dropLast ++ [(n, r.2 + 1)] else rs ++ [(n, 1)]
  | none => [(n, 1)]
def runsOf (row : List Int) : List P2 := row.foldl pushRun []
theorem runs_snoc (row : List Int) (n : Int) : runsOf (row ++ [n]) = pushRun (runsOf row) n := by
  unfold runsOf
  rw [List.foldl_append]
  rfl
theorem push_nil (n : Int) : pushRun [] n = [(n, 1)] := rfl
theorem push_last (rs : List P2) (r : P2) (n : Int) : pushRun (rs ++ [r]) n = if r.1 = n then rs ++ [(n, r.2 + 1)] else rs ++ [r] ++ [(n, 1)] := by
  unfold pushRun
  rw [List.getLast?_concat]
  show (if r.1 = n then (rs ++ [r]).dropLast ++ [(n, r.2 + 1)] else rs ++ [r] ++ [(n, 1)]) = _
  rw [List.dropLast_concat]
theorem runs_len (row : List Int) : (runsOf row).length ≤ row.length := by
  have h : ∀ (l : List Int) (rs : List P2), (l.foldl pushRun rs).length ≤ rs.length + l.length := by
    intro l
    induction l with
    | nil => intro rs; exact Nat.le_refl _
    | cons n l ih =>
      intro rs
      have h1 := ih (pushRun rs n)
      have h2 : (pushRun rs n).length ≤ rs.length + 1 := by
        rcases List.eq_nil_or_concat rs with rfl | ⟨rs', r, rfl⟩
        · exact Nat.le_refl _
        · rw [List.concat_eq_append, push_last]
          split <;> simp
      show (l.foldl pushRun (pushRun rs n)).length ≤ _
      rw [List.length_cons]
      omega
  have := h row []
  rw [List.length_nil, Nat.zero_add] at this
  exact this
def blocksOf (row : List Int) : List P2 := sortP (dedup ((runsOf row).filter fun r => decide (1 < r.2)))
def blockRow (row : List Int) (us : Int) : List Int := (runsOf row).map fun r => if 1 < r.2 then numOf (blocksOf row) us r else r.1
theorem mem_blocks {row : List Int} {r : P2} : r ∈ blocksOf row ↔ r ∈ runsOf row ∧ 1 < r.2 := by
  unfold blocksOf
  rw [(sortP_perm _).mem_iff, mem_dedup, List.mem_filter, decide_eq_true_eq]
theorem blocks_nodup (row : List Int) : (blocksOf row).Nodup := (sortP_perm _).nodup_iff.mpr (nodup_dedup _)
theorem runs_all (Pr : P2 → Prop) (h1 : ∀ n, Pr (n, 1)) (h2 : ∀ n c, Pr (n, c) → Pr (n, c + 1)) (row : List Int) : ∀ r ∈ runsOf row, Pr r := by
  have h : ∀ (l : List Int) (rs : List P2), (∀ r ∈ rs, Pr r) → ∀ r ∈ l.foldl pushRun rs, Pr r := by
    intro l
    induction l with
    | nil => exact fun rs h => h
    | cons n l ih =>
      intro rs hr
      refine ih (pushRun rs n) ?_
      rcases List.eq_nil_or_concat rs with rfl | ⟨rs', q, rfl⟩
      · intro r hm
        rw [push_nil] at hm
        rw [List.mem_singleton.mp hm]
        exact h1 n
      · rw [List.concat_eq_append] at hr ⊢
        rw [push_last]
        by_cases e : q.1 = n
        · rw [if_pos e]
          intro r hm
          rcases List.mem_append.mp hm with hm | hm
          · exact hr r (List.mem_append_left _ hm)
          · rw [List.mem_singleton.mp hm, ← e]
            exact h2 q.1 q.2 (hr q (List.mem_append_right _ List.mem_cons_self))
        · rw [if_neg e]
          intro r hm
          rcases List.mem_append.mp hm with hm | hm
          · exact hr r hm
          · rw [List.mem_singleton.mp hm]
            exact h1 n
  exact h row [] fun _ z => nomatch z
theorem runs_pos {row : List Int} {r : P2} (h : r ∈ runsOf row) : 1 ≤ r.2 := runs_all (fun r => 1 ≤ r.2) (fun _ => Int.le_refl 1) (fun _ c (h : 1 ≤ c) => by show 1 ≤ c + 1; omega) row r h
theorem runs_sum (row : List Int) : ((runsOf row).map (·.2)).sum = row.length := by
  have h : ∀ (l : List Int) (rs : List P2), ((l.foldl pushRun rs).map (·.2)).sum = (rs.map (·.2)).sum + l.length := by
    intro l
    induction l with
    | nil => intro rs; simp
    | cons n l ih =>
      intro rs
      have h1 := ih (pushRun rs n)
      have h2 : ((pushRun rs n).map (·.2)).sum = (rs.map (·.2)).sum + 1 := by
        rcases List.eq_nil_or_concat rs with rfl | ⟨rs', r, rfl⟩
        · rfl
        · rw [List.concat_eq_append, push_last]
          split
          · simp only [List.map_append, List.sum_append, List.map_cons, List.map_nil, List.sum_cons, List.sum_nil]
            omega
          · simp only [List.map_append, List.sum_append, List.map_cons, List.map_nil, List.sum_cons, List.sum_nil]
            omega
      show (((l.foldl pushRun (pushRun rs n))).map (·.2)).sum = _
      rw [h1, h2, List.length_cons]
      omega
  have := h row []
  simp only [List.map_nil, List.sum_nil, Int.zero_add] at this
  exact this
theorem runs_mem {row : List Int} {r : P2} (h : r ∈ runsOf row) : r.1 ∈ row := by
  have h : ∀ (l : List Int) (rs : List P2), ∀ r ∈ l.foldl pushRun rs, (∃ q ∈ rs, q.1 = r.1) ∨ r.1 ∈ l := by
    intro l
    induction l with
    | nil => exact fun rs r h => .inl ⟨r, h, rfl⟩
    | cons n l ih =>
      intro rs r hr
      rcases ih (pushRun rs n) r hr with ⟨q, hq, e⟩ | hm
      · rcases List.eq_nil_or_concat rs with rfl | ⟨rs', q', rfl⟩
        · rw [push_nil] at hq
          rw [← e, List.mem_singleton.mp hq]
          exact .inr List.mem_cons_self
        · rw [List.concat_eq_append] at hq ⊢
          rw [push_last] at hq
          by_cases e' : q'.1 = n
          · rw [if_pos e'] at hq
            rcases List.mem_append.mp hq with hq | hq
            · exact .inl ⟨q, List.mem_append_left _ hq, e⟩
            · rw [← e, List.mem_singleton.mp hq]
              exact .inr List.mem_cons_self
          · rw [if_neg e'] at hq
            rcases List.mem_append.mp hq with hq | hq
            · exact .inl ⟨q, hq, e⟩
            · rw [← e, List.mem_singleton.mp hq]
              exact .inr List.mem_cons_self
      · exact .inr (List.mem_cons_of_mem _ hm)
  rcases h row [] r ‹_› with ⟨q, hq, _⟩ | hm
  · cases hq
  · exact hm
theorem sum_two : ∀ rs : List P2, (∀ r ∈ rs, 1 ≤ r.2) → 2 * ((rs.filter fun r => decide (1 < r.2)).length : Int) ≤ (rs.map (·.2)).sum
  | [], _ => by simp
  | r :: rs, h => by
    have ih := sum_two rs fun q hq => h q (List.mem_cons_of_mem _ hq)
    have h1 := h r List.mem_cons_self
    rw [List.map_cons, List.sum_cons, List.filter_cons]
    by_cases z : 1 < r.2
    · rw [if_pos (decide_eq_true z), List.length_cons]
      omega
    · rw [if_neg (by rw [decide_eq_false z]; exact Bool.false_ne_true)]
      omega
theorem runs_two (row : List Int) : 2 * ((runsOf row).filter fun r => decide (1 < r.2)).length ≤ row.length := by
  have h := sum_two (runsOf row) fun r h => runs_pos h
  rw [runs_sum] at h
  omega
theorem runs_le {row : List Int} {r : P2} (h : r ∈ runsOf row) : r.2 ≤ row.length := by
  have h2 : ∀ rs : List P2, (∀ r ∈ rs, 1 ≤ r.2) → ∀ r ∈ rs, r.2 ≤ (rs.map (·.2)).sum := by
    intro rs
    induction rs with
    | nil => exact fun _ _ h => nomatch h
    | cons q rs ih =>
      intro hp r hr
      have h3 : 0 ≤ (rs.map (·.2)).sum := by
        have := sum_two rs fun q hq => hp q (List.mem_cons_of_mem _ hq)
        omega
      have h1 := hp q List.mem_cons_self
      rw [List.map_cons, List.sum_cons]
      rcases List.mem_cons.mp hr with rfl | hr
      · omega
      · have := ih (fun q hq => hp q (List.mem_cons_of_mem _ hq)) r hr
        omega
  have := h2 (runsOf row) (fun r h => runs_pos h) r h
  rw [runs_sum] at this
  exact this
theorem bound_of (l : List Int) : ∃ B : Int, ∀ n ∈ l, n < B := by
  induction l with
  | nil => exact ⟨0, fun _ h => nomatch h⟩
  | cons n l ih =>
    obtain ⟨B, hB⟩ := ih
    refine ⟨max (n + 1) B, fun m hm => ?_⟩
    rcases List.mem_cons.mp hm with rfl | hm
    · omega
    · have := hB m hm
      omega
end LM

end
section
set_option autoImplicit false
set_option linter.all false
/-! Sides by a matrix of weights: plain mathematics. -/
namespace LM
def wmat (cs : List P2) (x y : Int) : Int := S (fun p => decide (p = (x, y))) (ones cs) + S (fun p => decide (p = (y, x))) (ones cs)
theorem inner_look (cs : List P2) (x y : Int) : (look (innerC (ones cs) x) y).getD 0 = wmat cs x y := by
  have nd : (keys (innerC (ones cs) x)).Nodup := nodup_accs _ nd_nil
  rw [← S_look nd]
  unfold innerC wmat
  rw [S_accs _ _ nd_nil, S_nil, Int.zero_add, S_flat]
theorem S_split (P : Int → Bool) (j : Int) (js : List Int) (hj : j ∉ js) : ∀ l : List (Int × Int), S (fun k => decide (k ∈ j :: js) && P k) l = (if P j = true then S (fun k => decide (k = j)) l else 0) + S (fun k => decide (k ∈ js) && P k) l
  | [] => by
    rw [S_nil, S_nil, S_nil]
    split <;> rfl
  | p :: l => by
    rw [S_cons, S_cons, S_cons, S_split P j js hj l]
    by_cases h : p.1 = j
    · rw [h]
      have h1 : decide (j ∈ j :: js) = true := decide_eq_true List.mem_cons_self
      have h2 : decide (j ∈ js) = false := decide_eq_false hj
      rw [h1, h2]
      by_cases hp : P j = true
      · simp only [hp, Bool.true_and, Bool.false_and, decide_true, if_true, Bool.false_eq_true, if_false]
        omega
      · simp only [hp, Bool.true_and, Bool.false_and, decide_true, if_true, Bool.false_eq_true, if_false]
    · have h1 : decide (p.1 ∈ j :: js) = decide (p.1 ∈ js) := by
        simp [h]
      rw [h1, decide_eq_false h]
      by_cases hp : P j = true
      · simp only [hp, if_true, Bool.false_eq_true, if_false]
        omega
      · simp only [hp, if_false, Bool.false_eq_true]
        omega
theorem S_over (P : Int → Bool) {l : List (Int × Int)} (nl : (keys l).Nodup) : ∀ {js : List Int}, js.Nodup → S (fun k => decide (k ∈ js) && P k) l = (js.map fun j => if P j = true then (look l j).getD 0 else 0).sum
  | [], _ => by
    have : ∀ l : List (Int × Int), S (fun k => decide (k ∈ ([] : List Int)) && P k) l = 0 := fun l => by
      induction l with
      | nil => exact S_nil _
      | cons p l ih =>
        rw [S_cons, ih]
        simp
    rw [this]
    rfl
  | j :: js, nd => by
    have n2 := List.nodup_cons.mp nd
    rw [S_split P j js n2.1, S_over P nl n2.2, List.map_cons, List.sum_cons, S_look nl]
/-- what the first k numbers' sides are: is it 1? -/
def rights (wm : Int → Int → Int) (srt : List Int) : Nat → List Bool
  | 0 => []
  | k + 1 => rights wm srt k ++ [decide (((List.range k).map fun j => if (rights wm srt k).getD j false = true then wm (srt.getD k 0) (srt.getD j 0) else 0).sum < ((List.range k).map fun j => if (rights wm srt k).getD j false = true then 0 else wm (srt.getD k 0) (srt.getD j 0)).sum)]
theorem rights_len (wm : Int → Int → Int) (srt : List Int) : ∀ k, (rights wm srt k).length = k
  | 0 => rfl
  | k + 1 => by
    show (rights wm srt k ++ _).length = k + 1
    rw [List.length_append, rights_len wm srt k]
    rfl
theorem rights_get (wm : Int → Int → Int) (srt : List Int) (k j : Nat) (h : j < k) : (rights wm srt (k + 1)).getD j false = (rights wm srt k).getD j false := by
  show (rights wm srt k ++ _).getD j false = _
  simp only [List.getD_eq_getElem?_getD]
  rw [List.getElem?_append_left (by rw [rights_len]; exact h)]
theorem range_take {srt : List Int} {k : Nat} (h : k ≤ srt.length) : (List.range k).map (fun j => srt.getD j 0) = srt.take k := by
  apply List.ext_getElem?
  intro i
  rw [List.getElem?_map, List.getElem?_take]
  by_cases hi : i < k
  · rw [List.getElem?_range hi, if_pos hi]
    show some (srt.getD i 0) = _
    rw [List.getD_eq_getElem?_getD, List.getElem?_eq_getElem (by omega)]
    rfl
  · rw [if_neg hi, List.getElem?_eq_none (by rw [List.length_range]; omega)]
    rfl
theorem getD_some {srt : List Int} {k : Nat} (h : k < srt.length) : srt[k]? = some (srt.getD k 0) := by
  rw [List.getD_eq_getElem?_getD, List.getElem?_eq_getElem h]
  rfl
theorem nodup_getD {srt : List Int} (nd : srt.Nodup) {j k : Nat} (hj : j < k) (hk : k < srt.length) : srt.getD j 0 ≠ srt.getD k 0 := by
  intro e
  have h1 := List.getElem?_eq_getElem (l := srt) (i := j) (by omega)
  have h2 := List.getElem?_eq_getElem (l := srt) (i := k) hk
  have e2 : srt[j]'(by omega) = srt[k] := by
    have a1 := getD_some (srt := srt) (k := j) (by omega)
    have a2 := getD_some hk
    rw [h1] at a1
    rw [h2] at a2
    rw [Option.some.inj a1, Option.some.inj a2, e]
  have := (List.pairwise_iff_getElem.mp nd) j k (by omega) hk hj
  exact this e2
theorem sides_rights (cs : List P2) (srt : List Int) (nd : srt.Nodup) : ∀ k, k ≤ srt.length → ∀ j, j < k → look ((srt.take k).foldl (sideStep (innerC (ones cs))) []) (srt.getD j 0) = some (if (rights (wmat cs) srt k).getD j false = true then 1 else 0)
  | 0, _, j, hj => absurd hj (Nat.not_lt_zero j)
  | k + 1, hk, j, hj => by
    have ih := sides_rights cs srt nd k (by omega)
    have hks := keys_sides_eq (innerC (ones cs)) (srt.take k) (sd := []) (nd.sublist (List.take_sublist _ _)) (fun _ _ z => nomatch z)
    have e1 : srt.take (k + 1) = srt.take k ++ [srt.getD k 0] := by
      rw [List.take_add_one, getD_some (by omega)]
      rfl
    rw [e1, List.foldl_append]
    generalize (srt.take k).foldl (sideStep (innerC (ones cs))) [] = sd at ih hks
    have hks' : keys sd = srt.take k := by
      rw [hks]
      rfl
    show look (sideStep (innerC (ones cs)) sd (srt.getD k 0)) (srt.getD j 0) = _
    unfold sideStep
    rw [look_put]
    by_cases hjk : j = k
    · subst hjk
      rw [if_pos rfl]
      have key : ∀ i : Int, sumOn sd i (innerC (ones cs) (srt.getD j 0)) = ((List.range j).map fun m => if look sd (srt.getD m 0) = some i then wmat cs (srt.getD j 0) (srt.getD m 0) else 0).sum := fun i => by
        unfold sumOn
        have h1 : S (fun b => decide (look sd b = some i)) (innerC (ones cs) (srt.getD j 0)) = S (fun b => decide (b ∈ srt.take j) && decide (look sd b = some i)) (innerC (ones cs) (srt.getD j 0)) := by
          apply S_congr
          intro p _
          by_cases hm : p.1 ∈ srt.take j
          · rw [decide_eq_true hm, Bool.true_and]
          · have : look sd p.1 = none := look_none.mpr (by rw [hks']; exact hm)
            rw [this, decide_eq_false hm, Bool.false_and]
            rfl
        have ndl : (keys (innerC (ones cs) (srt.getD j 0))).Nodup := nodup_accs _ nd_nil
        rw [h1, S_over (fun b => decide (look sd b = some i)) ndl (nd.sublist (List.take_sublist _ _)), ← range_take (by omega), List.map_map]
        congr 1
        apply List.map_congr_left
        intro m _
        show (if decide (look sd (srt.getD m 0) = some i) = true then (look (innerC (ones cs) (srt.getD j 0)) (srt.getD m 0)).getD 0 else 0) = _
        rw [inner_look]
        simp only [decide_eq_true_eq]
      have f1 : sumOn sd 1 (innerC (ones cs) (srt.getD j 0)) = ((List.range j).map fun m => if (rights (wmat cs) srt j).getD m false = true then wmat cs (srt.getD j 0) (srt.getD m 0) else 0).sum := by
        rw [key 1]
        congr 1
        apply List.map_congr_left
        intro m hm
        rw [ih m (List.mem_range.mp hm)]
        by_cases z : (rights (wmat cs) srt j).getD m false = true
        · rw [if_pos z, if_pos rfl, if_pos z]
        · rw [if_neg z, if_neg (by decide), if_neg z]
      have f0 : sumOn sd 0 (innerC (ones cs) (srt.getD j 0)) = ((List.range j).map fun m => if (rights (wmat cs) srt j).getD m false = true then 0 else wmat cs (srt.getD j 0) (srt.getD m 0)).sum := by
        rw [key 0]
        congr 1
        apply List.map_congr_left
        intro m hm
        rw [ih m (List.mem_range.mp hm)]
        by_cases z : (rights (wmat cs) srt j).getD m false = true
        · rw [if_pos z, if_neg (by decide), if_pos z]
        · rw [if_neg z, if_pos rfl, if_neg z]
      rw [f1, f0]
      have e2 : (rights (wmat cs) srt (j + 1)).getD j false = decide (((List.range j).map fun m => if (rights (wmat cs) srt j).getD m false = true then wmat cs (srt.getD j 0) (srt.getD m 0) else 0).sum < ((List.range j).map fun m => if (rights (wmat cs) srt j).getD m false = true then 0 else wmat cs (srt.getD j 0) (srt.getD m 0)).sum) := by
        show (rights (wmat cs) srt j ++ _).getD j false = _
        rw [List.getD_eq_getElem?_getD, List.getElem?_append_right (by rw [rights_len]; exact Nat.le_refl _), rights_len, Nat.sub_self]
        rfl
      rw [e2]
      simp only [decide_eq_true_eq]
    · have hlt : j < k := by omega
      rw [if_neg (nodup_getD nd hlt (by omega)), ih j hlt, rights_get _ _ _ _ hlt]
def b2i (b : Bool) : Int := if b = true then 1 else 0
/-- is x on side 1? by the matrix -/
def onR (row : List Int) (x : Int) : Bool := (rights (wmat (zipT row)) (sortI (nums row)) (sortI (nums row)).length).getD ((sortI (nums row)).idxOf x) false
def turnOf (row : List Int) : Int := ((zipT row).map fun p => b2i (onR row p.1) - b2i (onR row p.2)).sum
theorem sv_onR (row : List Int) {x : Int} (hx : x ∈ row) : sv (sidesAll (innerC (ones (zipT row))) (sortI (nums row))) x = b2i (onR row x) := by
  have nd : (sortI (nums row)).Nodup := (sortI_perm _).nodup_iff.mpr (nodup_dedup _)
  have hm : x ∈ sortI (nums row) := (sortI_perm _).mem_iff.mpr (mem_dedup.mpr hx)
  have hi := List.idxOf_lt_length_of_mem hm
  have e : (sortI (nums row)).getD ((sortI (nums row)).idxOf x) 0 = x := by
    rw [List.getD_eq_getElem?_getD, List.getElem?_eq_getElem hi, List.getElem_idxOf hi]
    rfl
  have h := sides_rights (zipT row) (sortI (nums row)) nd _ (Nat.le_refl _) _ hi
  rw [List.take_length, e] at h
  unfold sv sidesAll onR b2i
  rw [h]
  rfl
theorem turn_sum (row : List Int) : ∀ cs : List P2, (∀ p ∈ cs, p.1 ∈ row ∧ p.2 ∈ row) → (cs.map fun p => b2i (onR row p.1) - b2i (onR row p.2)).sum = behind (sidesAll (innerC (ones (zipT row))) (sortI (nums row))) (ones cs) - ahead (sidesAll (innerC (ones (zipT row))) (sortI (nums row))) (ones cs)
  | [], _ => by
    unfold behind ahead ones
    rw [List.map_nil, List.map_nil, S_nil, S_nil]
    rfl
  | p :: cs, h => by
    have ih := turn_sum row cs fun q hq => h q (List.mem_cons_of_mem _ hq)
    have hp := h p List.mem_cons_self
    have g1 := sv_onR row hp.1
    have g2 := sv_onR row hp.2
    rw [List.map_cons, List.sum_cons, ih]
    generalize sidesAll (innerC (ones (zipT row))) (sortI (nums row)) = sd at g1 g2 ⊢
    unfold behind ahead ones
    rw [List.map_cons, S_cons, S_cons]
    show _ = ((if decide (sv sd p.2 < sv sd p.1) = true then 1 else 0) + _) - ((if decide (sv sd p.1 < sv sd p.2) = true then 1 else 0) + _)
    rw [g1, g2]
    simp only [decide_eq_true_eq]
    unfold b2i
    cases onR row p.1 <;> cases onR row p.2 <;> simp <;> omega
theorem left_mat (row : List Int) : leftNums row = (sortI (nums row)).filter fun x => decide (onR row x = decide (0 < turnOf row)) := by
  unfold leftNums
  rw [← leftBy_ones]
  unfold leftBy
  have ht : turnOf row = behind (sidesAll (innerC (ones (zipT row))) (sortI (nums row))) (ones (zipT row)) - ahead (sidesAll (innerC (ones (zipT row))) (sortI (nums row))) (ones (zipT row)) := by
    unfold turnOf
    refine turn_sum row (zipT row) fun p hp => ?_
    have h2 := List.of_mem_zip hp
    exact ⟨h2.1, List.mem_of_mem_drop h2.2⟩
  apply List.filter_congr
  intro x hx
  have hr : x ∈ row := mem_dedup.mp ((sortI_perm _).mem_iff.mp hx)
  rw [sv_onR row hr, ht]
  generalize ahead _ _ = u
  generalize behind _ _ = v
  unfold b2i
  by_cases z : u < v
  · have z2 : 0 < v - u := by omega
    rw [if_pos z, decide_eq_true z2]
    cases onR row x <;> rfl
  · have z2 : ¬ 0 < v - u := by omega
    rw [if_neg z, decide_eq_false z2]
    cases onR row x <;> rfl
end LM

end
section
set_option Elab.async false
set_option linter.all false
set_option maxRecDepth 100000
set_option maxHeartbeats 4000000
namespace K15
open PySem PySem.Spec PyProof.Rows L2 LW LM
/-! ### steps of a reading, heaps: short tactics -/
local macro_rules | `(tactic| walk_at "ne") => `(tactic| first
  | assumption
  | (apply Ne.symm; assumption)
  | exact ne_none (by assumption) (by assumption)
  | exact (ne_none (by assumption) (by assumption)).symm
  | exact ne_of (by assumption) (by assumption) (by intro z; cases z))
local macro_rules | `(tactic| walk_at "hp") => `(tactic| first
  | assumption
  | with_reducible exact upd_same
  | ((first
      | with_reducible refine u_old ?_ (by assumption)
      | with_reducible refine u_oth (by walk_at "ne") ?_
      | with_reducible refine same_app (by assumption) ?_
      | with_reducible refine kb_app (by assumption) (by walk_at "ne") ?_); walk_at "hp")
  | ((with_reducible refine u_kind ?h (by assumption) ?d); (case h => walk_at "hp"); (case d => (intro z; cases z))))
local macro_rules | `(tactic| walk_at "sq") => `(tactic| first
  | assumption
  | exact SqL.of (by walk_at "hp")
  | exact SqT.of (by walk_at "hp")
  | (with_reducible refine same_sqT (by assumption) ?_; walk_at "sq")
  | (with_reducible refine same_sqL (by assumption) ?_; walk_at "sq")
  | (with_reducible refine new_sqT (by assumption) ?_; walk_at "sq")
  | (with_reducible refine new_sqL (by assumption) ?_; walk_at "sq")
  | ((with_reducible refine mut_sqT (u := ?uu) ?hd ?hm ?_); (case hd => walk_at "hp"); (case hm => exact trivial); walk_at "sq"))
local macro_rules | `(tactic| walk_at "rd") => `(tactic| first
  | assumption
  | exact .inl (by walk_at "hp")
  | exact .inr ⟨_, by walk_at "hp"⟩)
local macro_rules | `(tactic| walk_at "s") => `(tactic| first
  | with_reducible refine s_seq ?_
  | with_reducible refine s_asg ?_
  | with_reducible refine g_name ?_
  | ((with_reducible refine e_var (v := ?vv) ?hv ?_); (case hv => rfl))
  | with_reducible refine e_c ?_
  | with_reducible refine e_op ?_
  | with_reducible refine a_cons ?_
  | with_reducible refine a_nil ?_
  | with_reducible refine e_cb ?_
  | with_reducible refine e_call ?_
  | with_reducible refine e_callK ?_
  | with_reducible refine s_ret ?_
  | with_reducible refine s_retN ?_
  | with_reducible refine s_drop ?_
  | with_reducible refine s_ifs ?_
  | with_reducible refine s_next ?_
  | with_reducible refine s_cont ?_
  | with_reducible refine s_brk ?_
  | with_reducible refine s_par ?_
  | with_reducible refine s_par3 ?_
  | with_reducible refine e_un ?_
  | with_reducible refine e_if ?_
  | with_reducible refine e_andV ?_
  | with_reducible refine e_orV ?_
  | with_reducible refine e_notV ?_
  | with_reducible refine e_dget ?_
  | with_reducible refine e_dget2 ?_
  | with_reducible refine e_din ?_
  | with_reducible refine e_dnotin ?_
  | with_reducible refine e_then ?_
  | with_reducible refine e_bm ?_
  | with_reducible refine e_bm0 ?_
  | with_reducible refine e_sl ?_
  | with_reducible refine o_none ?_
  | with_reducible refine o_part ?_
  | with_reducible refine g_sub ?_
  | with_reducible refine g_nil ?_
  | with_reducible refine g_cons ?_
  | with_reducible refine t_test ?_
  | with_reducible refine t_B ?_
  | with_reducible refine t_and ?_
  | with_reducible refine t_or ?_
  | with_reducible refine t_not ?_
  | ((with_reducible refine r_ixI (ns := ?ns) ?hs ?h0 ?h1 ?_); (case hs => walk_at "sq"); (case h0 => omega); (case h1 => omega))
  | ((with_reducible refine r_ixL (xs := ?xs) (v := ?vv) ?hs ?hi ?_); (case hs => walk_at "sq"); (case hi => rfl))
  | ((with_reducible refine r_ixT (xs := ?xs) (v := ?vv) ?hs ?hi ?_); (case hs => walk_at "sq"); (case hi => rfl))
  | ((with_reducible refine g_setL (xs := ?xs) (j := ?jj) ?hp ?hj ?_); (case hp => walk_at "hp"); (case hj => rfl))
  | ((with_reducible refine r_mul ?hc ?_); (case hc => first | exact .inr (by decide) | exact .inl (by decide) | exact .inl ⟨by omega, by omega⟩ | exact .inr ⟨by omega, by omega⟩))
  | ((with_reducible refine r_mod ?hc ?_); (case hc => first | decide | omega))
  | ((with_reducible refine r_fdivN ?hc ?_); (case hc => exact ⟨by first | decide | omega, by first | decide | omega⟩))
  | ((with_reducible refine r_pow ?hc ?_); (case hc => first | decide | exact ⟨by decide, by decide⟩ | (unfold CPow; decide)))
  | ((with_reducible refine r_lenI (ns := ?ns) ?hs ?_); (case hs => walk_at "sq"))
  | ((with_reducible refine r_lenTI (ns := ?ns) ?hs ?_); (case hs => walk_at "sq"))
  | ((with_reducible refine r_lenL (xs := ?xs) ?hs ?_); (case hs => walk_at "sq"))
  | ((with_reducible refine r_lenT (xs := ?xs) ?hs ?_); (case hs => walk_at "sq"))
  | ((with_reducible refine r_tyL (xs := ?xs) ?hs ?_); (case hs => walk_at "sq"))
  | with_reducible refine r_add ?_
  | with_reducible refine r_sub ?_
  | with_reducible refine r_lt ?_
  | with_reducible refine r_le ?_
  | with_reducible refine r_gt ?_
  | with_reducible refine r_ge ?_
  | with_reducible refine r_eqI ?_
  | with_reducible refine r_neI ?_
  | with_reducible refine r_int ?_
  | with_reducible refine r_intb ?_
  | with_reducible refine r_neg ?_
  | with_reducible refine r_max2 ?_
  | with_reducible refine r_min2 ?_
  | with_reducible refine c_sp1 ?_
  | with_reducible refine c_sp2 ?_
  | with_reducible refine c_sp3 ?_
  | with_reducible refine c_sp4 ?_
  | with_reducible refine c_sp5 ?_
  | with_reducible refine t_end ?_
  | with_reducible refine o_part_end ?_
  | ((with_reducible refine s_aug (x := ?xx) ?hx ?_); (case hx => rfl))
  | with_reducible refine s_for ?_
  | with_reducible refine i_list ?_
  | with_reducible refine i_tup ?_
  | with_reducible refine i_rng1 ?_
  | with_reducible refine i_rng2 ?_
  | with_reducible refine i_keys ?_
  | with_reducible refine i_items ?_
  | with_reducible refine i_zip2 ?_
  | with_reducible refine i_enum2 ?_
  | ((with_reducible refine i_rng1E ?h1 ?h2 ?_); (case h1 => omega); (case h2 => omega))
  | ((with_reducible refine i_rng2E ?h1 ?_); (case h1 => omega))
  | ((with_reducible refine i_listE (xs := ?xs) ?hs ?_); (case hs => walk_at "sq"))
  | ((with_reducible refine i_tupE (xs := ?xs) ?hs ?_); (case hs => walk_at "sq"))
  | ((with_reducible refine q_isD ?hi ?_); (case hi => first | exact isD_K (by walk_at "rd") | exact isD_T (by walk_at "rd")))
  | with_reducible refine q_ref ?_
  | with_reducible refine e_dnewK ?_
  | with_reducible refine e_dnewT ?_
  | with_reducible refine e_tup ?_
  | with_reducible refine e_lst ?_
  | ((with_reducible refine r_new ?hn ?_); (case hn => exact Nat.le_of_ble_eq_true rfl))
  | with_reducible refine r_fresh fun _ _ => ?_
  | with_reducible refine s_par_end ?_
  | with_reducible refine s_par3_end ?_
  | with_reducible refine e_lc ?_
  | with_reducible refine e_dc ?_
  | with_reducible refine e_dcT ?_
  | with_reducible refine t_tyes ?_
  | with_reducible refine t_tt ?_
  | with_reducible refine t_ff ?_
  | with_reducible refine c_wipe rfl ?_)
local macro_rules | `(tactic| walk_at "S") => `(tactic| repeat' first | walk_at "s" | with_reducible refine s_dput ?_)
local macro_rules | `(tactic| walk_at "T") => `(tactic| repeat' walk_at "s")

/-! ### dicts of dicts of weights -/
structure WD (H0 H : Hp) (d : Addr) (tops : List (Int × Addr)) (inner : Int → List (Int × Int)) : Prop where
  d0 : H0 d = none
  a0 : ∀ k a, look tops k = some a → H0 a = none
  same : Same H0 H
  top : H d = some (.dK (encD kI V.ref tops))
  inn : ∀ k a, look tops k = some a → H a = some (.dK (encI (inner k))) ∧ a ≠ d
  inj : ∀ k l a, look tops k = some a → look tops l = some a → k = l
section
variable {H0 H H' : Hp} {d p : Addr} {tops : List (Int × Addr)} {inner : Int → List (Int × Int)} {o : HO}
theorem WD.go (W : WD H0 H d tops inner) (s : Same H H') : WD H0 H' d tops inner :=
  ⟨W.d0, W.a0, W.same.trans s, s _ _ W.top, fun k a e => ⟨s _ _ (W.inn k a e).1, (W.inn k a e).2⟩, W.inj⟩
theorem WD.new (W : WD H0 H d tops inner) (h : H p = none) : WD H0 (upd H p o) d tops inner := W.go (L2.Same.new h)
/-- a write to another thing that was not there at first -/
theorem WD.mut (W : WD H0 H d tops inner) (h0 : H0 p = none) (nd : p ≠ d) (ni : ∀ k a, look tops k = some a → p ≠ a) : WD H0 (upd H p o) d tops inner :=
  ⟨W.d0, W.a0, W.same.mut h0, u_oth nd.symm W.top, fun k a e => ⟨u_oth (ni k a e).symm (W.inn k a e).1, (W.inn k a e).2⟩, W.inj⟩
/-- a new inner dict -/
theorem WD.add (W : WD H0 H d tops inner) {x : Int} (hx : look tops x = none) (h : H p = none) (hi : inner x = []) :
    WD H0 (upd (upd H p (.dK [])) d (.dK (encD kI V.ref (put tops x p)))) d (put tops x p) inner := by
  have np : p ≠ d := (ne_none h W.top).symm
  have hp0 := none_of W.same h
  refine ⟨W.d0, fun k a e => ?_, (W.same.upd h).mut W.d0, upd_same, fun k a e => ?_, fun k l a e f => ?_⟩
  · rw [look_put] at e
    by_cases hk : k = x
    · rw [if_pos hk] at e
      exact Option.some.inj e ▸ hp0
    · rw [if_neg hk] at e
      exact W.a0 k a e
  · rw [look_put] at e
    by_cases hk : k = x
    · rw [if_pos hk] at e
      have := Option.some.inj e
      subst this
      subst hk
      refine ⟨u_oth np ?_, np⟩
      rw [upd_same, hi]
      rfl
    · rw [if_neg hk] at e
      have q := W.inn k a e
      exact ⟨u_oth q.2 (u_old q.1 h), q.2⟩
  · rw [look_put] at e f
    by_cases hk : k = x
    · by_cases hl : l = x
      · rw [hk, hl]
      · rw [if_pos hk] at e
        rw [if_neg hl] at f
        have := Option.some.inj e
        subst this
        exact absurd rfl (ne_none h (W.inn l p f).1)
    · by_cases hl : l = x
      · rw [if_neg hk] at e
        rw [if_pos hl] at f
        have := Option.some.inj f
        subst this
        exact absurd rfl (ne_none h (W.inn k p e).1)
      · rw [if_neg hk] at e
        rw [if_neg hl] at f
        exact W.inj k l a e f
def bump (inner : Int → List (Int × Int)) (x y c : Int) : Int → List (Int × Int) := fun k => if k = x then acc (inner k) y c else inner k
theorem bump2 (inner : Int → List (Int × Int)) (x y c k : Int) : bump (bump inner x y c) y x c k = accs (inner k) (con k (x, y) c) := by
  unfold bump con
  by_cases h1 : k = x <;> by_cases h2 : k = y
  · subst h1
    subst h2
    rw [if_pos rfl, if_pos rfl, if_pos rfl]
    rfl
  · subst h1
    rw [if_neg h2, if_pos rfl, if_pos rfl, if_neg (fun e => h2 e.symm)]
    rfl
  · subst h2
    rw [if_pos rfl, if_neg h1, if_neg (fun e => h1 e.symm), if_pos rfl]
    rfl
  · rw [if_neg h2, if_neg h1, if_neg (fun e => h1 e.symm), if_neg (fun e => h2 e.symm)]
    rfl
theorem innerC_snoc (cs : List (P2 × Int)) (p : P2) (c x : Int) : innerC (cs ++ [(p, c)]) x = accs (innerC cs x) (con x p c) := by
  unfold innerC accs
  rw [List.flatMap_append, List.foldl_append]
  simp
theorem bump_snoc (cs : List (P2 × Int)) (x y c : Int) : bump (bump (innerC cs) x y c) y x c = innerC (cs ++ [((x, y), c)]) := by
  funext k
  rw [bump2, innerC_snoc]
theorem innerC_nd (cs : List (P2 × Int)) (x : Int) : (keys (innerC cs x)).Nodup := nodup_accs _ nd_nil
theorem WD.bump (W : WD H0 H d tops inner) {x a y c} (hx : look tops x = some a) : WD H0 (upd H a (.dK (encI (acc (inner x) y c)))) d tops (bump inner x y c) := by
  have q := W.inn x a hx
  refine ⟨W.d0, W.a0, W.same.mut (W.a0 x a hx), u_oth q.2.symm W.top, fun k b e => ?_, W.inj⟩
  have r := W.inn k b e
  refine ⟨?_, r.2⟩
  unfold K15.bump
  by_cases hk : k = x
  · subst hk
    rw [hx] at e
    have := Option.some.inj e
    subst this
    rw [if_pos rfl, upd_same]
  · rw [if_neg hk]
    refine u_oth (fun z => hk ?_) r.1
    subst z
    exact W.inj k x b e hx
end
section
variable {K : PySem.W.Frag} {H0 H : Hp} {d : Addr} {tops : List (Int × Addr)} {inner : Int → List (Int × Int)} {σ : L2.St} {D : Ends} {w i j : Nat} {x y c : Int} {te : TE}
theorem accs_len {κ : Type} [DecidableEq κ] (cs : List (κ × Int)) : ∀ l : List (κ × Int), (accs l cs).length ≤ l.length + cs.length := by
  induction cs with
  | nil => intro l; exact Nat.le_refl _
  | cons c cs ih =>
    intro l
    have h1 := ih (acc l c.1 c.2)
    have h2 : (acc l c.1 c.2).length ≤ l.length + 1 := length_put _ _ _
    show (accs (acc l c.1 c.2) cs).length ≤ _
    rw [List.length_cons]
    omega
theorem con_len (x : Int) (p : P2) (c : Int) : (con x p c).length ≤ 2 := by
  unfold con
  rw [List.length_append]
  split <;> split <;> exact Nat.le_of_ble_eq_true rfl
theorem innerC_len (cs : List (P2 × Int)) (x : Int) : (innerC cs x).length ≤ 2 * cs.length := by
  have h : (cs.flatMap fun e => con x e.1 e.2).length ≤ 2 * cs.length := by
    induction cs with
    | nil => exact Nat.le_refl _
    | cons c cs ih =>
      rw [List.flatMap_cons, List.length_append, List.length_cons]
      have := con_len x c.1 c.2
      omega
  have := accs_len (cs.flatMap fun e => con x e.1 e.2) []
  unfold innerC
  simp only [List.length_nil, Nat.zero_add] at this
  omega
/-- w[x][y] = w[x].get(y, 0) + e -/
theorem s_bump (W : WD H0 H d tops inner) (hw : σ[w]? = some (some (.ref d))) (hi : σ[i]? = some (some (.int x))) (hj : σ[j]? = some (some (.int y))) {a : Addr} (hx : look tops x = some a) (hz : (inner x).length < 10000000)
    (ht : ∀ QV : VK, (∀ H', Same H H' → QV (.int c) H') → te σ H QV) (h : ∀ H', WD H0 H' d tops (bump inner x y c) → D.nx σ H') :
    sDPut (tDGet (tVar w) (tVar i)) (tVar j) (tOp oAdd (tDGet2 (tDGet (tVar w) (tVar i)) (tVar j) (tC (.int 0))) te) D σ H := by
  have q := W.inn x a hx
  refine s_dput ?_
  refine e_op ?_
  refine e_dget2 ?_
  refine e_dget ?_
  refine e_var hw ?_
  refine e_var hi ?_
  refine k_get (f := V.ref) (.inl W.top) hx ?_
  refine q_isD (isD_K (.inl q.1)) ?_
  refine e_var hj ?_
  refine e_c ?_
  refine k_get2 (f := V.int) (.inl q.1) ?_
  rw [getD_map V.int _ 0]
  refine ht _ fun H' s => ?_
  refine r_add ?_
  refine e_dget ?_
  refine e_var hw ?_
  refine e_var hi ?_
  have W' := W.go s
  have q' := W'.inn x a hx
  refine k_get (f := V.ref) (.inl W'.top) hx ?_
  refine e_var hj ?_
  refine k_put (f := V.int) q'.1 (by rw [sizeLine_eq]; omega) ?_
  exact h _ (W'.bump hx)
end
theorem in_t {α β : Type} {f : α → β} {o : Option α} (h : (Option.map f o).isSome = true) : ∃ a, o = some a := by
  cases o with
  | none => cases h
  | some a => exact ⟨a, rfl⟩
theorem in_f {α β : Type} {f : α → β} {o : Option α} (h : (Option.map f o).isSome = false) : o = none := by
  cases o with
  | none => rfl
  | some a => cases h
theorem nin_t {α β : Type} {f : α → β} {o : Option α} (h : (!(Option.map f o).isSome) = true) : o = none := in_f (by rw [Bool.not_eq_true'] at h; exact h)
theorem nin_f {α β : Type} {f : α → β} {o : Option α} (h : (!(Option.map f o).isSome) = false) : ∃ a, o = some a := in_t (by rw [Bool.not_eq_false'] at h; exact h)
theorem dedup_snoc {α : Type} [DecidableEq α] (xs : List α) (x : α) : dedup (xs ++ [x]) = addN (dedup xs) x := by
  unfold dedup
  rw [List.foldl_append]
  rfl
theorem zipT_get {row : List Int} {i : Nat} {x y : Int} (hx : row[i]? = some x) (hy : row[i + 1]? = some y) : (zipT row)[i]? = some (x, y) := by
  unfold zipT
  rw [List.getElem?_zip_eq_some, List.getElem?_drop, Nat.add_comm 1 i]
  exact ⟨hx, hy⟩
theorem zipT_len (row : List Int) : (zipT row).length = row.length - 1 := by
  unfold zipT
  rw [List.length_zip, List.length_drop]
  omega
theorem getD_of {row : List Int} {i : Nat} {n : Int} {x : Int} (h : row[i]? = some x) (e : n = (i : Int)) : row.getD n.toNat 0 = x := by
  subst e
  rw [Int.toNat_natCast, List.getD_eq_getElem?_getD, h]
  rfl
theorem look_nil {κ β : Type} [DecidableEq κ] {k : κ} {v : β} (h : look ([] : List (κ × β)) k = some v) : False := by cases h
theorem mem_of_get {α : Type} {l : List α} {i : Nat} {x : α} (h : l[i]? = some x) : x ∈ l := List.mem_of_getElem? h
end K15

end
section
set_option Elab.async false
set_option linter.all false
set_option maxRecDepth 100000
set_option maxHeartbeats 4000000
namespace K15
open PySem PySem.Spec PyProof.Rows L2 LW LM
/-! ### steps of a reading, heaps: short tactics -/
local macro_rules | `(tactic| walk_at "ne") => `(tactic| first
  | assumption
  | (apply Ne.symm; assumption)
  | exact ne_none (by assumption) (by assumption)
  | exact (ne_none (by assumption) (by assumption)).symm
  | exact ne_of (by assumption) (by assumption) (by intro z; cases z))
local macro_rules | `(tactic| walk_at "hp") => `(tactic| first
  | assumption
  | with_reducible exact upd_same
  | ((first
      | with_reducible refine u_old ?_ (by assumption)
      | with_reducible refine u_oth (by walk_at "ne") ?_
      | with_reducible refine same_app (by assumption) ?_
      | with_reducible refine kb_app (by assumption) (by walk_at "ne") ?_); walk_at "hp")
  | ((with_reducible refine u_kind ?h (by assumption) ?d); (case h => walk_at "hp"); (case d => (intro z; cases z))))
local macro_rules | `(tactic| walk_at "sq") => `(tactic| first
  | assumption
  | exact SqL.of (by walk_at "hp")
  | exact SqT.of (by walk_at "hp")
  | (with_reducible refine same_sqT (by assumption) ?_; walk_at "sq")
  | (with_reducible refine same_sqL (by assumption) ?_; walk_at "sq")
  | (with_reducible refine new_sqT (by assumption) ?_; walk_at "sq")
  | (with_reducible refine new_sqL (by assumption) ?_; walk_at "sq")
  | ((with_reducible refine mut_sqT (u := ?uu) ?hd ?hm ?_); (case hd => walk_at "hp"); (case hm => exact trivial); walk_at "sq"))
local macro_rules | `(tactic| walk_at "rd") => `(tactic| first
  | assumption
  | exact .inl (by walk_at "hp")
  | exact .inr ⟨_, by walk_at "hp"⟩)
local macro_rules | `(tactic| walk_at "s") => `(tactic| first
  | with_reducible refine s_seq ?_
  | with_reducible refine s_asg ?_
  | with_reducible refine g_name ?_
  | ((with_reducible refine e_var (v := ?vv) ?hv ?_); (case hv => rfl))
  | with_reducible refine e_c ?_
  | with_reducible refine e_op ?_
  | with_reducible refine a_cons ?_
  | with_reducible refine a_nil ?_
  | with_reducible refine e_cb ?_
  | with_reducible refine e_call ?_
  | with_reducible refine e_callK ?_
  | with_reducible refine s_ret ?_
  | with_reducible refine s_retN ?_
  | with_reducible refine s_drop ?_
  | with_reducible refine s_ifs ?_
  | with_reducible refine s_next ?_
  | with_reducible refine s_cont ?_
  | with_reducible refine s_brk ?_
  | with_reducible refine s_par ?_
  | with_reducible refine s_par3 ?_
  | with_reducible refine e_un ?_
  | with_reducible refine e_if ?_
  | with_reducible refine e_andV ?_
  | with_reducible refine e_orV ?_
  | with_reducible refine e_notV ?_
  | with_reducible refine e_dget ?_
  | with_reducible refine e_dget2 ?_
  | with_reducible refine e_din ?_
  | with_reducible refine e_dnotin ?_
  | with_reducible refine e_then ?_
  | with_reducible refine e_bm ?_
  | with_reducible refine e_bm0 ?_
  | with_reducible refine e_sl ?_
  | with_reducible refine o_none ?_
  | with_reducible refine o_part ?_
  | with_reducible refine g_sub ?_
  | with_reducible refine g_nil ?_
  | with_reducible refine g_cons ?_
  | with_reducible refine t_test ?_
  | with_reducible refine t_B ?_
  | with_reducible refine t_and ?_
  | with_reducible refine t_or ?_
  | with_reducible refine t_not ?_
  | ((with_reducible refine r_ixI (ns := ?ns) ?hs ?h0 ?h1 ?_); (case hs => walk_at "sq"); (case h0 => omega); (case h1 => omega))
  | ((with_reducible refine r_ixL (xs := ?xs) (v := ?vv) ?hs ?hi ?_); (case hs => walk_at "sq"); (case hi => rfl))
  | ((with_reducible refine r_ixT (xs := ?xs) (v := ?vv) ?hs ?hi ?_); (case hs => walk_at "sq"); (case hi => rfl))
  | ((with_reducible refine g_setL (xs := ?xs) (j := ?jj) ?hp ?hj ?_); (case hp => walk_at "hp"); (case hj => rfl))
  | ((with_reducible refine r_mul ?hc ?_); (case hc => first | exact .inr (by decide) | exact .inl (by decide) | exact .inl ⟨by omega, by omega⟩ | exact .inr ⟨by omega, by omega⟩))
  | ((with_reducible refine r_mod ?hc ?_); (case hc => first | decide | omega))
  | ((with_reducible refine r_fdivN ?hc ?_); (case hc => exact ⟨by first | decide | omega, by first | decide | omega⟩))
  | ((with_reducible refine r_pow ?hc ?_); (case hc => first | decide | exact ⟨by decide, by decide⟩ | (unfold CPow; decide)))
  | ((with_reducible refine r_lenI (ns := ?ns) ?hs ?_); (case hs => walk_at "sq"))
  | ((with_reducible refine r_lenTI (ns := ?ns) ?hs ?_); (case hs => walk_at "sq"))
  | ((with_reducible refine r_lenL (xs := ?xs) ?hs ?_); (case hs => walk_at "sq"))
  | ((with_reducible refine r_lenT (xs := ?xs) ?hs ?_); (case hs => walk_at "sq"))
  | ((with_reducible refine r_tyL (xs := ?xs) ?hs ?_); (case hs => walk_at "sq"))
  | with_reducible refine r_add ?_
  | with_reducible refine r_sub ?_
  | with_reducible refine r_lt ?_
  | with_reducible refine r_le ?_
  | with_reducible refine r_gt ?_
  | with_reducible refine r_ge ?_
  | with_reducible refine r_eqI ?_
  | with_reducible refine r_neI ?_
  | with_reducible refine r_int ?_
  | with_reducible refine r_intb ?_
  | with_reducible refine r_neg ?_
  | with_reducible refine r_max2 ?_
  | with_reducible refine r_min2 ?_
  | with_reducible refine c_sp1 ?_
  | with_reducible refine c_sp2 ?_
  | with_reducible refine c_sp3 ?_
  | with_reducible refine c_sp4 ?_
  | with_reducible refine c_sp5 ?_
  | with_reducible refine t_end ?_
  | with_reducible refine o_part_end ?_
  | ((with_reducible refine s_aug (x := ?xx) ?hx ?_); (case hx => rfl))
  | with_reducible refine s_for ?_
  | with_reducible refine i_list ?_
  | with_reducible refine i_tup ?_
  | with_reducible refine i_rng1 ?_
  | with_reducible refine i_rng2 ?_
  | with_reducible refine i_keys ?_
  | with_reducible refine i_items ?_
  | with_reducible refine i_zip2 ?_
  | with_reducible refine i_enum2 ?_
  | ((with_reducible refine i_rng1E ?h1 ?h2 ?_); (case h1 => omega); (case h2 => omega))
  | ((with_reducible refine i_rng2E ?h1 ?_); (case h1 => omega))
  | ((with_reducible refine i_listE (xs := ?xs) ?hs ?_); (case hs => walk_at "sq"))
  | ((with_reducible refine i_tupE (xs := ?xs) ?hs ?_); (case hs => walk_at "sq"))
  | ((with_reducible refine q_isD ?hi ?_); (case hi => first | exact isD_K (by walk_at "rd") | exact isD_T (by walk_at "rd")))
  | with_reducible refine q_ref ?_
  | with_reducible refine e_dnewK ?_
  | with_reducible refine e_dnewT ?_
  | with_reducible refine e_tup ?_
  | with_reducible refine e_lst ?_
  | ((with_reducible refine r_new ?hn ?_); (case hn => exact Nat.le_of_ble_eq_true rfl))
  | with_reducible refine r_fresh fun _ _ => ?_
  | with_reducible refine s_par_end ?_
  | with_reducible refine s_par3_end ?_
  | with_reducible refine e_lc ?_
  | with_reducible refine e_dc ?_
  | with_reducible refine e_dcT ?_
  | with_reducible refine t_tyes ?_
  | with_reducible refine t_tt ?_
  | with_reducible refine t_ff ?_
  | with_reducible refine c_wipe rfl ?_)
local macro_rules | `(tactic| walk_at "S") => `(tactic| repeat' first | walk_at "s" | with_reducible refine s_dput ?_)
local macro_rules | `(tactic| walk_at "T") => `(tactic| repeat' walk_at "s")

theorem WD.unlock {H0 H H' : Hp} {d a : Addr} {tops : List (Int × Addr)} {inner : Int → List (Int × Int)} {x : Int} (W : WD H0 H d tops inner) (hx : look tops x = some a)
    (h : ∀ c o, H c = some o → (H0 c ≠ none ∨ c = d ∨ ∃ k, look tops k = some c) → c ≠ a → H' c = some o) : WD H0 (upd H' a (.dK (encI (inner x)))) d tops inner := by
  have q := W.inn x a hx
  refine ⟨W.d0, W.a0, fun c o e => ?_, ?_, fun k b e => ?_, W.inj⟩
  · have n : c ≠ a := ne_of_none e (W.a0 x a hx)
    rw [upd_ne n]
    exact h c o (W.same c o e) (.inl (by rw [e]; exact fun z => nomatch z)) n
  · rw [upd_ne q.2.symm]
    exact h d _ W.top (.inr (.inl rfl)) q.2.symm
  · have r := W.inn k b e
    refine ⟨?_, r.2⟩
    by_cases hb : b = a
    · subst hb
      rw [upd_same, W.inj k x b e hx]
    · rw [upd_ne hb]
      exact h b _ r.1 (.inr (.inr ⟨k, e⟩)) hb
theorem r_listDI {H : Hp} {d : Addr} {β : Type} {f : β → V} {l : List (Int × β)} {Q : VK} (hd : H d = some (.dK (encD kI f l))) (h : ∀ q, H q = none → Q (.ref q) (upd H q (.lst ((keys l).map V.int)))) : rListD [.ref d] H Q := by
  refine ⟨d, _, rfl, hd, fun q hq => ?_⟩
  have e : (encD kI f l).map (fun kv => kV kv.1) = (keys l).map V.int := by
    unfold LW.encD keys
    rw [List.map_map, List.map_map]
    rfl
  rw [e]
  exact h q hq
theorem r_sortedI {K : PySem.W.Frag} {H : Hp} {a : Addr} {ns : List Int} {Q : VK} (hs : SqL K H a (ns.map V.int)) (h : ∀ p, H p = none → Q (.ref p) (upd H p (.lst ((sortI ns).map V.int)))) : rSortedI K [.ref a] H Q :=
  ⟨a, ns, rfl, hs, fun ns' p hp hs hn => by
    rw [sortI_eq hp hs]
    exact h p hn⟩
theorem encI_get {l : List (Int × Int)} {j : Nat} {k : Key} {v : V} (h : (encI l)[j]? = some (k, v)) : ∃ o c, l[j]? = some (o, c) ∧ k = kI o ∧ v = .int c := by
  unfold encI LW.encD at h
  rw [List.getElem?_map] at h
  cases e : l[j]? with
  | none => rw [e] at h; cases h
  | some p =>
    rw [e] at h
    have := Option.some.inj h
    exact ⟨p.1, p.2, rfl, (congrArg Prod.fst this).symm, (congrArg Prod.snd this).symm⟩
theorem take_snoc {α : Type} {l : List α} {j : Nat} {x : α} (h : l[j]? = some x) : l.take (j + 1) = l.take j ++ [x] := by
  rw [List.take_add_one, h]
  rfl
theorem S_snoc {κ : Type} [DecidableEq κ] (P : κ → Bool) (l : List (κ × Int)) (k : κ) (c : Int) : S P (l ++ [(k, c)]) = S P l + if P k = true then c else 0 := by
  rw [S_append, S_cons, S_nil, Int.add_zero]
theorem sumOn_snoc (sd : List (Int × Int)) (i : Int) (l : List (Int × Int)) (o c : Int) : sumOn sd i (l ++ [(o, c)]) = sumOn sd i l + if look sd o = some i then c else 0 := by
  unfold sumOn
  rw [S_snoc]
  congr 1
  by_cases h : look sd o = some i
  · rw [if_pos h, if_pos (decide_eq_true h)]
  · rw [if_neg h, if_neg (by rw [decide_eq_false h]; exact Bool.false_ne_true)]
theorem r_tupLI {K : PySem.W.Frag} {H : Hp} {p : Addr} {ns : List Int} {Q : VK} (hs : SqL K H p (ns.map V.int)) (h : ∀ q, H q = none → Q (.ref q) (upd H q (.tup (ns.map V.int)))) : kTup K (.ref p) H Q := r_tupL hs h
end K15

end
section
set_option Elab.async false
set_option linter.all false
set_option maxRecDepth 100000
set_option maxHeartbeats 4000000
namespace K15
open PySem PySem.Spec PyProof.Rows L2 LW LM
/-! ### steps of a reading, heaps: short tactics -/
local macro_rules | `(tactic| walk_at "ne") => `(tactic| first
  | assumption
  | (apply Ne.symm; assumption)
  | exact ne_none (by assumption) (by assumption)
  | exact (ne_none (by assumption) (by assumption)).symm
  | exact ne_of (by assumption) (by assumption) (by intro z; cases z))
local macro_rules | `(tactic| walk_at "hp") => `(tactic| first
  | assumption
  | with_reducible exact upd_same
  | ((first
      | with_reducible refine u_old ?_ (by assumption)
      | with_reducible refine u_oth (by walk_at "ne") ?_
      | with_reducible refine same_app (by assumption) ?_
      | with_reducible refine kb_app (by assumption) (by walk_at "ne") ?_); walk_at "hp")
  | ((with_reducible refine u_kind ?h (by assumption) ?d); (case h => walk_at "hp"); (case d => (intro z; cases z))))
local macro_rules | `(tactic| walk_at "sq") => `(tactic| first
  | assumption
  | exact SqL.of (by walk_at "hp")
  | exact SqT.of (by walk_at "hp")
  | (with_reducible refine same_sqT (by assumption) ?_; walk_at "sq")
  | (with_reducible refine same_sqL (by assumption) ?_; walk_at "sq")
  | (with_reducible refine new_sqT (by assumption) ?_; walk_at "sq")
  | (with_reducible refine new_sqL (by assumption) ?_; walk_at "sq")
  | ((with_reducible refine mut_sqT (u := ?uu) ?hd ?hm ?_); (case hd => walk_at "hp"); (case hm => exact trivial); walk_at "sq"))
local macro_rules | `(tactic| walk_at "rd") => `(tactic| first
  | assumption
  | exact .inl (by walk_at "hp")
  | exact .inr ⟨_, by walk_at "hp"⟩)
local macro_rules | `(tactic| walk_at "s") => `(tactic| first
  | with_reducible refine s_seq ?_
  | with_reducible refine s_asg ?_
  | with_reducible refine g_name ?_
  | ((with_reducible refine e_var (v := ?vv) ?hv ?_); (case hv => rfl))
  | with_reducible refine e_c ?_
  | with_reducible refine e_op ?_
  | with_reducible refine a_cons ?_
  | with_reducible refine a_nil ?_
  | with_reducible refine e_cb ?_
  | with_reducible refine e_call ?_
  | with_reducible refine e_callK ?_
  | with_reducible refine s_ret ?_
  | with_reducible refine s_retN ?_
  | with_reducible refine s_drop ?_
  | with_reducible refine s_ifs ?_
  | with_reducible refine s_next ?_
  | with_reducible refine s_cont ?_
  | with_reducible refine s_brk ?_
  | with_reducible refine s_par ?_
  | with_reducible refine s_par3 ?_
  | with_reducible refine e_un ?_
  | with_reducible refine e_if ?_
  | with_reducible refine e_andV ?_
  | with_reducible refine e_orV ?_
  | with_reducible refine e_notV ?_
  | with_reducible refine e_dget ?_
  | with_reducible refine e_dget2 ?_
  | with_reducible refine e_din ?_
  | with_reducible refine e_dnotin ?_
  | with_reducible refine e_then ?_
  | with_reducible refine e_bm ?_
  | with_reducible refine e_bm0 ?_
  | with_reducible refine e_sl ?_
  | with_reducible refine o_none ?_
  | with_reducible refine o_part ?_
  | with_reducible refine g_sub ?_
  | with_reducible refine g_nil ?_
  | with_reducible refine g_cons ?_
  | with_reducible refine t_test ?_
  | with_reducible refine t_B ?_
  | with_reducible refine t_and ?_
  | with_reducible refine t_or ?_
  | with_reducible refine t_not ?_
  | ((with_reducible refine r_ixI (ns := ?ns) ?hs ?h0 ?h1 ?_); (case hs => walk_at "sq"); (case h0 => omega); (case h1 => omega))
  | ((with_reducible refine r_ixL (xs := ?xs) (v := ?vv) ?hs ?hi ?_); (case hs => walk_at "sq"); (case hi => rfl))
  | ((with_reducible refine r_ixT (xs := ?xs) (v := ?vv) ?hs ?hi ?_); (case hs => walk_at "sq"); (case hi => rfl))
  | ((with_reducible refine g_setL (xs := ?xs) (j := ?jj) ?hp ?hj ?_); (case hp => walk_at "hp"); (case hj => rfl))
  | ((with_reducible refine r_mul ?hc ?_); (case hc => first | exact .inr (by decide) | exact .inl (by decide) | exact .inl ⟨by omega, by omega⟩ | exact .inr ⟨by omega, by omega⟩))
  | ((with_reducible refine r_mod ?hc ?_); (case hc => first | decide | omega))
  | ((with_reducible refine r_fdivN ?hc ?_); (case hc => exact ⟨by first | decide | omega, by first | decide | omega⟩))
  | ((with_reducible refine r_pow ?hc ?_); (case hc => first | decide | exact ⟨by decide, by decide⟩ | (unfold CPow; decide)))
  | ((with_reducible refine r_lenI (ns := ?ns) ?hs ?_); (case hs => walk_at "sq"))
  | ((with_reducible refine r_lenTI (ns := ?ns) ?hs ?_); (case hs => walk_at "sq"))
  | ((with_reducible refine r_lenL (xs := ?xs) ?hs ?_); (case hs => walk_at "sq"))
  | ((with_reducible refine r_lenT (xs := ?xs) ?hs ?_); (case hs => walk_at "sq"))
  | ((with_reducible refine r_tyL (xs := ?xs) ?hs ?_); (case hs => walk_at "sq"))
  | with_reducible refine r_add ?_
  | with_reducible refine r_sub ?_
  | with_reducible refine r_lt ?_
  | with_reducible refine r_le ?_
  | with_reducible refine r_gt ?_
  | with_reducible refine r_ge ?_
  | with_reducible refine r_eqI ?_
  | with_reducible refine r_neI ?_
  | with_reducible refine r_int ?_
  | with_reducible refine r_intb ?_
  | with_reducible refine r_neg ?_
  | with_reducible refine r_max2 ?_
  | with_reducible refine r_min2 ?_
  | with_reducible refine c_sp1 ?_
  | with_reducible refine c_sp2 ?_
  | with_reducible refine c_sp3 ?_
  | with_reducible refine c_sp4 ?_
  | with_reducible refine c_sp5 ?_
  | with_reducible refine t_end ?_
  | with_reducible refine o_part_end ?_
  | ((with_reducible refine s_aug (x := ?xx) ?hx ?_); (case hx => rfl))
  | with_reducible refine s_for ?_
  | with_reducible refine i_list ?_
  | with_reducible refine i_tup ?_
  | with_reducible refine i_rng1 ?_
  | with_reducible refine i_rng2 ?_
  | with_reducible refine i_keys ?_
  | with_reducible refine i_items ?_
  | with_reducible refine i_zip2 ?_
  | with_reducible refine i_enum2 ?_
  | ((with_reducible refine i_rng1E ?h1 ?h2 ?_); (case h1 => omega); (case h2 => omega))
  | ((with_reducible refine i_rng2E ?h1 ?_); (case h1 => omega))
  | ((with_reducible refine i_listE (xs := ?xs) ?hs ?_); (case hs => walk_at "sq"))
  | ((with_reducible refine i_tupE (xs := ?xs) ?hs ?_); (case hs => walk_at "sq"))
  | ((with_reducible refine q_isD ?hi ?_); (case hi => first | exact isD_K (by walk_at "rd") | exact isD_T (by walk_at "rd")))
  | with_reducible refine q_ref ?_
  | with_reducible refine e_dnewK ?_
  | with_reducible refine e_dnewT ?_
  | with_reducible refine e_tup ?_
  | with_reducible refine e_lst ?_
  | ((with_reducible refine r_new ?hn ?_); (case hn => exact Nat.le_of_ble_eq_true rfl))
  | with_reducible refine r_fresh fun _ _ => ?_
  | with_reducible refine s_par_end ?_
  | with_reducible refine s_par3_end ?_
  | with_reducible refine e_lc ?_
  | with_reducible refine e_dc ?_
  | with_reducible refine e_dcT ?_
  | with_reducible refine t_tyes ?_
  | with_reducible refine t_tt ?_
  | with_reducible refine t_ff ?_
  | with_reducible refine c_wipe rfl ?_)
local macro_rules | `(tactic| walk_at "S") => `(tactic| repeat' first | walk_at "s" | with_reducible refine s_dput ?_)
local macro_rules | `(tactic| walk_at "T") => `(tactic| repeat' walk_at "s")

theorem WD.frz {H0 H : Hp} {d b : Addr} {tops : List (Int × Addr)} {inner : Int → List (Int × Int)} {u o : HO} (W : WD H0 H d tops inner) (hb : H0 b = some u) : WD (upd H0 b o) (upd H b o) d tops inner := by
  have nd : d ≠ b := (ne_none W.d0 hb).symm
  have ni : ∀ k a, look tops k = some a → a ≠ b := fun k a e => (ne_none (W.a0 k a e) hb).symm
  refine ⟨u_none W.d0 nd, fun k a e => u_none (W.a0 k a e) (ni k a e), fun c z e => ?_, u_oth nd W.top, fun k a e => ⟨u_oth (ni k a e) (W.inn k a e).1, (W.inn k a e).2⟩, W.inj⟩
  by_cases hc : c = b
  · subst hc
    rw [upd_same] at e ⊢
    exact e
  · rw [upd_ne hc] at e ⊢
    exact W.same c z e
theorem WD.unfrz {H0 H : Hp} {d b : Addr} {tops : List (Int × Addr)} {inner : Int → List (Int × Int)} {u o : HO} (W : WD (upd H0 b o) H d tops inner) (hb : H0 b = some u) : WD H0 (upd H b u) d tops inner := by
  have nb : ∀ {c : Addr}, upd H0 b o c = none → c ≠ b ∧ H0 c = none := fun {c} e => by
    have n : c ≠ b := fun z => by
      subst z
      rw [upd_same] at e
      cases e
    rw [upd_ne n] at e
    exact ⟨n, e⟩
  refine ⟨(nb W.d0).2, fun k a e => (nb (W.a0 k a e)).2, fun c z e => ?_, u_oth (nb W.d0).1 W.top, fun k a e => ⟨u_oth (nb (W.a0 k a e)).1 (W.inn k a e).1, (W.inn k a e).2⟩, W.inj⟩
  by_cases hc : c = b
  · subst hc
    rw [upd_same, ← hb, e]
  · rw [upd_ne hc]
    exact W.same c z (by rw [upd_ne hc]; exact e)
theorem same_unfrz {H H' : Hp} {b : Addr} {u o : HO} (s : Same (upd H b o) H') (hb : H b = some u) : Same H (upd H' b u) := fun c z e => by
  by_cases hc : c = b
  · subst hc
    rw [upd_same, ← hb, e]
  · rw [upd_ne hc]
    exact s c z (by rw [upd_ne hc]; exact e)
/-- number → True, by the numbers in their sequence -/
def trues {α : Type} (l : List α) : List (α × Bool) := l.map fun x => (x, true)
theorem keys_trues {α : Type} (l : List α) : keys (trues l) = l := by
  unfold keys trues
  rw [List.map_map]
  exact List.map_id _
theorem r_sortDI {H : Hp} {a : Addr} {β : Type} {f : β → V} {l : List (Int × β)} {Q : VK} (hr : Rd H a (.dK (encD kI f l))) (h : ∀ p, H p = none → Q (.ref p) (upd H p (.lst ((sortI (keys l)).map V.int)))) : LS.rSortDI [.ref a] H Q :=
  ⟨a, _, keys l, rfl, hr, keys_enc kI f l, h⟩
theorem encB_get {l : List Int} {j : Nat} {k : Key} {v : V} (h : (encB (trues l))[j]? = some (k, v)) : ∃ o, l[j]? = some o ∧ k = kI o := by
  unfold encB LW.encD trues at h
  rw [List.getElem?_map, List.getElem?_map] at h
  cases e : l[j]? with
  | none => rw [e] at h; cases h
  | some p =>
    rw [e] at h
    have := Option.some.inj h
    exact ⟨p, rfl, (congrArg Prod.fst this).symm⟩
theorem encP_get {l : List (P2 × Int)} {j : Nat} {k : List Key} {v : V} (h : (encP l)[j]? = some (k, v)) : ∃ p c, l[j]? = some (p, c) ∧ k = LS.pK p ∧ v = .int c := by
  unfold encP LW.encD at h
  rw [List.getElem?_map] at h
  cases e : l[j]? with
  | none => rw [e] at h; cases h
  | some p =>
    rw [e] at h
    have := Option.some.inj h
    exact ⟨p.1, p.2, rfl, (congrArg Prod.fst this).symm, (congrArg Prod.snd this).symm⟩
theorem getD_get {α : Type} {l : List α} {i : Nat} {x d : α} (h : l[i]? = some x) : l.getD i d = x := by
  rw [List.getD_eq_getElem?_getD, h]
  rfl
section
variable {K : PySem.W.Frag} {H0 H : Hp} {D a s d1 : Addr} {tops : List (Int × Addr)} {inner : Int → List (Int × Int)} {sd : List (Int × Int)} {x dflt want : Int} {Q : VK} {x0 x1 x2 x3 x4 x5 x7 x8 x9 x10 x11 x12 : Option V}
theorem r_side (W : WD H0 H D tops inner) (ha : look tops x = some a) (hs : H s = some (.dK (encI sd))) (hsa : s ≠ a) (nd : (keys (inner x)).Nodup) (hz : (inner x).length ≤ 1000000) (hdw : dflt ≠ want) (q : ∀ H', Same H H' → Q (.int (sumOn sd want (inner x))) H') :
    (tCB (rSum K) (tCons (tLockE (tLc (iKeys (tDGet (tVar 3) (tVar 2))) (gName 5) (tTest (tOp rEq (tDGet2 (tVar 6) (tVar 5) (tC (.int dflt))) (tC (.int want)))) (tDGet (tDGet (tVar 3) (tVar 2)) (tVar 5)) [5])) tNil)) [x0, x1, some (.int x), some (.ref D), x4, x5, some (.ref s), x7, x8, x9, x10, x11, x12] H Q := by
  have qa := W.inn x a ha
  walk_at "T"
  refine e_lock qa.1 trivial fun od => ?_
  have la : upd H a (.frz od (.dK (encI (inner x)))) a = some (.frz od (.dK (encI (inner x)))) := upd_same
  have lD : upd H a (.frz od (.dK (encI (inner x)))) D = some (.dK (encD kI V.ref tops)) := u_oth qa.2.symm W.top
  have ls : upd H a (.frz od (.dK (encI (inner x)))) s = some (.dK (encI sd)) := u_oth hsa hs
  have hun : ∀ H', Same (upd H a (.frz od (.dK (encI (inner x))))) H' → Same H (upd H' a (.dK (encI (inner x)))) := fun H' z => same_unfrz z qa.1
  generalize upd H a (.frz od (.dK (encI (inner x)))) = HL at la lD ls hun
  walk_at "T"
  refine k_get (f := V.ref) (.inl lD) ha ?_
  refine i_keysK la ?_
  walk_at "T"
  rename_i f hf
  refine lcp_w (w_keys (kvs := encI (inner x))) (fun i => decide (look sd ((inner x).getD i (0, 0)).1 = some want)) (fun i => V.int ((inner x).getD i (0, 0)).2) (by rw [len_enc]; omega) hf (fun H6 s6 => s6 _ _ la) ?_ ?_ ?_
  · rintro i H6 v _ ⟨rfl, _⟩
    exact Same.refl _
  · rintro i _ v H6 Rt Rf hi s6 ⟨rfl, kk, vv, ek, rfl⟩ kt kf
    obtain ⟨o, c, eo, rfl, rfl⟩ := encI_get ek
    rw [getD_get eo] at kt kf
    walk_at "T"
    refine k_get2 (f := V.int) (.inl (s6 _ _ ls)) ?_
    rw [getD_map V.int _ dflt]
    walk_at "T"
    have key : (look sd o).getD dflt = want ↔ look sd o = some want := by
      cases look sd o with
      | none => exact ⟨fun e => absurd e hdw, fun e => nomatch e⟩
      | some z => exact ⟨fun e => congrArg some e, fun e => Option.some.inj e⟩
    refine t_iteD (fun e => ?_) (fun e => ?_)
    · walk_at "T"
      refine k_get (f := V.ref) (.inl (s6 _ _ lD)) ha ?_
      walk_at "T"
      refine k_get (f := V.int) (.inr ⟨od, s6 _ _ la⟩) (look_of_mem nd (mem_of_get eo)) ?_
      exact kt _ (Same.refl _) (decide_eq_true (key.mp e))
    · exact kf _ (Same.refl _) (decide_eq_false fun z => e (key.mpr z))
  · rintro H6 s6 h6
    have eg := given_filter (inner x) (fun p => decide (look sd p.1 = some want)) (fun p => V.int p.2) (fun i => decide (look sd ((inner x).getD i (0, 0)).1 = some want)) (fun i => V.int ((inner x).getD i (0, 0)).2) fun i p ex => by
      rw [getD_get ex]
      exact ⟨rfl, fun _ => rfl⟩
    rw [len_enc, eg] at h6
    refine ⟨s6 _ _ la, ?_⟩
    walk_at "T"
    have nfa : f ≠ a := ne_of h6 (s6 _ _ la) (fun z => nomatch z)
    refine r_sum (ns := ((inner x).filter fun p => decide (look sd p.1 = some want)).map (·.2)) (SqL.of ?_) ?_
    · rw [upd_ne nfa, h6, List.map_map]
      rfl
    · exact q _ (hun _ s6)
theorem r_way {op : R2} {cmp : Int → Int → Bool} (hop : ∀ (m n : Int) (H : Hp) (Q : VK), Q (.bl (cmp m n)) H → op (.int m) (.int n) H Q) {cs : List (P2 × Int)} (hd : H d1 = some (.dT (encP cs))) (hs : H s = some (.dK (encI sd))) (nd : (keys cs).Nodup) (hz : cs.length ≤ 1000000)
    (hk : ∀ p ∈ keys cs, ∃ z1 z2, look sd p.1 = some z1 ∧ look sd p.2 = some z2) (q : ∀ H', Same H H' → Q (.int (S (fun p => cmp (sv sd p.1) (sv sd p.2)) cs)) H') :
    (tCB (rSum K) (tCons (tLockE (tLc (iKeys (tVar 0)) (gName 12) (tTest (tOp op (tDGet (tVar 6) (tOp (rIxT K) (tVar 12) (tC (.int 0)))) (tDGet (tVar 6) (tOp (rIxT K) (tVar 12) (tC (.int 1)))))) (tDGet (tVar 0) (tVar 12)) [12])) tNil)) [some (.ref d1), x1, x2, x3, x4, x5, some (.ref s), x7, x8, x9, x10, x11, x12] H Q := by
  walk_at "T"
  refine e_lock hd trivial fun od => ?_
  have la : upd H d1 (.frz od (.dT (encP cs))) d1 = some (.frz od (.dT (encP cs))) := upd_same
  have ls : upd H d1 (.frz od (.dT (encP cs))) s = some (.dK (encI sd)) := u_oth (ne_of hs hd fun z => nomatch z) hs
  have hun : ∀ H', Same (upd H d1 (.frz od (.dT (encP cs)))) H' → Same H (upd H' d1 (.dT (encP cs))) := fun H' z => same_unfrz z hd
  generalize upd H d1 (.frz od (.dT (encP cs))) = HL at la ls hun
  walk_at "T"
  refine i_keysT la ?_
  walk_at "T"
  rename_i f hf
  refine lcp_w (w_keysT (kvs := encP cs)) (fun i => cmp (sv sd (cs.getD i ((0, 0), 0)).1.1) (sv sd (cs.getD i ((0, 0), 0)).1.2)) (fun i => V.int (cs.getD i ((0, 0), 0)).2) (by rw [len_enc]; omega) hf (fun H6 s6 => s6 _ _ la) ?_ ?_ ?_
  · rintro i H6 v _ ⟨rfl, _⟩
    exact Same.refl _
  · rintro i _ v H6 Rt Rf hi s6 ⟨rfl, kk, vv, t, ek, rfl, ht⟩ kt kf
    obtain ⟨p, c, eo, rfl, rfl⟩ := encP_get ek
    obtain ⟨z1, z2, e1, e2⟩ := hk p (List.mem_map_of_mem (mem_of_get eo))
    rw [getD_get eo] at kt kf
    have g1 : sv sd p.1 = z1 := by
      unfold sv
      rw [e1]
      rfl
    have g2 : sv sd p.2 = z2 := by
      unfold sv
      rw [e2]
      rfl
    rw [g1, g2] at kt kf
    have ht' : H6 t = some (.tup [.int p.1, .int p.2]) := ht
    walk_at "T"
    refine k_get (f := V.int) (.inl (s6 _ _ ls)) e1 ?_
    walk_at "T"
    refine k_get (f := V.int) (.inl (s6 _ _ ls)) e2 ?_
    refine hop _ _ _ _ ?_
    walk_at "T"
    refine t_ite (fun e => ?_) (fun e => ?_)
    · walk_at "T"
      refine p_get (f := V.int) (k := p) (.inr ⟨od, s6 _ _ la⟩) ht' (look_of_mem nd (mem_of_get eo)) ?_
      exact kt _ (Same.refl _) e
    · exact kf _ (Same.refl _) e
  · rintro H6 s6 h6
    have eg := given_filter cs (fun p => cmp (sv sd p.1.1) (sv sd p.1.2)) (fun p => V.int p.2) (fun i => cmp (sv sd (cs.getD i ((0, 0), 0)).1.1) (sv sd (cs.getD i ((0, 0), 0)).1.2)) (fun i => V.int (cs.getD i ((0, 0), 0)).2) fun i p ex => by
      rw [getD_get ex]
      exact ⟨rfl, fun _ => rfl⟩
    rw [len_enc, eg] at h6
    refine ⟨s6 _ _ la, ?_⟩
    walk_at "T"
    have nfa : f ≠ d1 := ne_of h6 (s6 _ _ la) (fun z => nomatch z)
    refine r_sum (ns := (cs.filter fun p => cmp (sv sd p.1.1) (sv sd p.1.2)).map (·.2)) (SqL.of ?_) ?_
    · rw [upd_ne nfa, h6, List.map_map]
      rfl
    · exact q _ (hun _ s6)
end
end K15

end
section
set_option Elab.async false
set_option linter.all false
set_option maxRecDepth 100000
set_option maxHeartbeats 4000000
namespace K15
open PySem PySem.Spec PyProof.Rows L2 LW LM
/-! ### steps of a reading, heaps: short tactics -/
local macro_rules | `(tactic| walk_at "ne") => `(tactic| first
  | assumption
  | (apply Ne.symm; assumption)
  | exact ne_none (by assumption) (by assumption)
  | exact (ne_none (by assumption) (by assumption)).symm
  | exact ne_of (by assumption) (by assumption) (by intro z; cases z))
local macro_rules | `(tactic| walk_at "hp") => `(tactic| first
  | assumption
  | with_reducible exact upd_same
  | ((first
      | with_reducible refine u_old ?_ (by assumption)
      | with_reducible refine u_oth (by walk_at "ne") ?_
      | with_reducible refine same_app (by assumption) ?_
      | with_reducible refine kb_app (by assumption) (by walk_at "ne") ?_); walk_at "hp")
  | ((with_reducible refine u_kind ?h (by assumption) ?d); (case h => walk_at "hp"); (case d => (intro z; cases z))))
local macro_rules | `(tactic| walk_at "sq") => `(tactic| first
  | assumption
  | exact SqL.of (by walk_at "hp")
  | exact SqT.of (by walk_at "hp")
  | (with_reducible refine same_sqT (by assumption) ?_; walk_at "sq")
  | (with_reducible refine same_sqL (by assumption) ?_; walk_at "sq")
  | (with_reducible refine new_sqT (by assumption) ?_; walk_at "sq")
  | (with_reducible refine new_sqL (by assumption) ?_; walk_at "sq")
  | ((with_reducible refine mut_sqT (u := ?uu) ?hd ?hm ?_); (case hd => walk_at "hp"); (case hm => exact trivial); walk_at "sq"))
local macro_rules | `(tactic| walk_at "rd") => `(tactic| first
  | assumption
  | exact .inl (by walk_at "hp")
  | exact .inr ⟨_, by walk_at "hp"⟩)
local macro_rules | `(tactic| walk_at "s") => `(tactic| first
  | with_reducible refine s_seq ?_
  | with_reducible refine s_asg ?_
  | with_reducible refine g_name ?_
  | ((with_reducible refine e_var (v := ?vv) ?hv ?_); (case hv => rfl))
  | with_reducible refine e_c ?_
  | with_reducible refine e_op ?_
  | with_reducible refine a_cons ?_
  | with_reducible refine a_nil ?_
  | with_reducible refine e_cb ?_
  | with_reducible refine e_call ?_
  | with_reducible refine e_callK ?_
  | with_reducible refine s_ret ?_
  | with_reducible refine s_retN ?_
  | with_reducible refine s_drop ?_
  | with_reducible refine s_ifs ?_
  | with_reducible refine s_next ?_
  | with_reducible refine s_cont ?_
  | with_reducible refine s_brk ?_
  | with_reducible refine s_par ?_
  | with_reducible refine s_par3 ?_
  | with_reducible refine e_un ?_
  | with_reducible refine e_if ?_
  | with_reducible refine e_andV ?_
  | with_reducible refine e_orV ?_
  | with_reducible refine e_notV ?_
  | with_reducible refine e_dget ?_
  | with_reducible refine e_dget2 ?_
  | with_reducible refine e_din ?_
  | with_reducible refine e_dnotin ?_
  | with_reducible refine e_then ?_
  | with_reducible refine e_bm ?_
  | with_reducible refine e_bm0 ?_
  | with_reducible refine e_sl ?_
  | with_reducible refine o_none ?_
  | with_reducible refine o_part ?_
  | with_reducible refine g_sub ?_
  | with_reducible refine g_nil ?_
  | with_reducible refine g_cons ?_
  | with_reducible refine t_test ?_
  | with_reducible refine t_B ?_
  | with_reducible refine t_and ?_
  | with_reducible refine t_or ?_
  | with_reducible refine t_not ?_
  | ((with_reducible refine r_ixI (ns := ?ns) ?hs ?h0 ?h1 ?_); (case hs => walk_at "sq"); (case h0 => omega); (case h1 => omega))
  | ((with_reducible refine r_ixL (xs := ?xs) (v := ?vv) ?hs ?hi ?_); (case hs => walk_at "sq"); (case hi => rfl))
  | ((with_reducible refine r_ixT (xs := ?xs) (v := ?vv) ?hs ?hi ?_); (case hs => walk_at "sq"); (case hi => rfl))
  | ((with_reducible refine g_setL (xs := ?xs) (j := ?jj) ?hp ?hj ?_); (case hp => walk_at "hp"); (case hj => rfl))
  | ((with_reducible refine r_mul ?hc ?_); (case hc => first | exact .inr (by decide) | exact .inl (by decide) | exact .inl ⟨by omega, by omega⟩ | exact .inr ⟨by omega, by omega⟩))
  | ((with_reducible refine r_mod ?hc ?_); (case hc => first | decide | omega))
  | ((with_reducible refine r_fdivN ?hc ?_); (case hc => exact ⟨by first | decide | omega, by first | decide | omega⟩))
  | ((with_reducible refine r_pow ?hc ?_); (case hc => first | decide | exact ⟨by decide, by decide⟩ | (unfold CPow; decide)))
  | ((with_reducible refine r_lenI (ns := ?ns) ?hs ?_); (case hs => walk_at "sq"))
  | ((with_reducible refine r_lenTI (ns := ?ns) ?hs ?_); (case hs => walk_at "sq"))
  | ((with_reducible refine r_lenL (xs := ?xs) ?hs ?_); (case hs => walk_at "sq"))
  | ((with_reducible refine r_lenT (xs := ?xs) ?hs ?_); (case hs => walk_at "sq"))
  | ((with_reducible refine r_tyL (xs := ?xs) ?hs ?_); (case hs => walk_at "sq"))
  | with_reducible refine r_add ?_
  | with_reducible refine r_sub ?_
  | with_reducible refine r_lt ?_
  | with_reducible refine r_le ?_
  | with_reducible refine r_gt ?_
  | with_reducible refine r_ge ?_
  | with_reducible refine r_eqI ?_
  | with_reducible refine r_neI ?_
  | with_reducible refine r_int ?_
  | with_reducible refine r_intb ?_
  | with_reducible refine r_neg ?_
  | with_reducible refine r_max2 ?_
  | with_reducible refine r_min2 ?_
  | with_reducible refine c_sp1 ?_
  | with_reducible refine c_sp2 ?_
  | with_reducible refine c_sp3 ?_
  | with_reducible refine c_sp4 ?_
  | with_reducible refine c_sp5 ?_
  | with_reducible refine t_end ?_
  | with_reducible refine o_part_end ?_
  | ((with_reducible refine s_aug (x := ?xx) ?hx ?_); (case hx => rfl))
  | with_reducible refine s_for ?_
  | with_reducible refine i_list ?_
  | with_reducible refine i_tup ?_
  | with_reducible refine i_rng1 ?_
  | with_reducible refine i_rng2 ?_
  | with_reducible refine i_keys ?_
  | with_reducible refine i_items ?_
  | with_reducible refine i_zip2 ?_
  | with_reducible refine i_enum2 ?_
  | ((with_reducible refine i_rng1E ?h1 ?h2 ?_); (case h1 => omega); (case h2 => omega))
  | ((with_reducible refine i_rng2E ?h1 ?_); (case h1 => omega))
  | ((with_reducible refine i_listE (xs := ?xs) ?hs ?_); (case hs => walk_at "sq"))
  | ((with_reducible refine i_tupE (xs := ?xs) ?hs ?_); (case hs => walk_at "sq"))
  | ((with_reducible refine q_isD ?hi ?_); (case hi => first | exact isD_K (by walk_at "rd") | exact isD_T (by walk_at "rd")))
  | with_reducible refine q_ref ?_
  | with_reducible refine e_dnewK ?_
  | with_reducible refine e_dnewT ?_
  | with_reducible refine e_tup ?_
  | with_reducible refine e_lst ?_
  | ((with_reducible refine r_new ?hn ?_); (case hn => exact Nat.le_of_ble_eq_true rfl))
  | with_reducible refine r_fresh fun _ _ => ?_
  | with_reducible refine s_par_end ?_
  | with_reducible refine s_par3_end ?_
  | with_reducible refine e_lc ?_
  | with_reducible refine e_dc ?_
  | with_reducible refine e_dcT ?_
  | with_reducible refine t_tyes ?_
  | with_reducible refine t_tt ?_
  | with_reducible refine t_ff ?_
  | with_reducible refine c_wipe rfl ?_)
local macro_rules | `(tactic| walk_at "S") => `(tactic| repeat' first | walk_at "s" | with_reducible refine s_dput ?_)
local macro_rules | `(tactic| walk_at "T") => `(tactic| repeat' walk_at "s")

def sp_left_numbers (K : PySem.W.Frag) : Sp := sp2 fun x y H Q => ∃ (d1 d2 : Addr) (row : List Int), x = .ref d1 ∧ y = .ref d2 ∧ H d1 = some (.dT (encP (counts row))) ∧ H d2 = some (.dK (encB (trues (nums row)))) ∧ row.length ≤ 100000 ∧
  ∀ (t : Addr) H', Same H H' → H' t = some (.tup ((leftNums row).map V.int)) → Q (.ref t) H'
abbrev n_left_numbers : List Str := ["counts", "numbers", "number", "weights", "one", "other", "side", "left", "right", "ahead", "behind", "kept", "pair"]
def t_left_numbers (K : PySem.W.Frag) (w : World) : TS :=
  (tSeq (tAsg (tLockE (tDc (iKeys (tVar 1)) (gName 2) tYes (tVar 2) tDNewK [2])) (gName 3))
    (tSeq (tLock (tFor (iKeys (tVar 0)) (gTup K 2 (gCons (gName 4) (gCons (gName 5) gNil)))
    (tSeq (sDPut (tDGet (tVar 3) (tVar 4)) (tVar 5) (tOp oAdd (tDGet2 (tDGet (tVar 3) (tVar 4)) (tVar 5) (tC (.int 0))) (tDGet (tVar 0) (tTup (tCons (tVar 4) (tCons (tVar 5) tNil))))))
    (sDPut (tDGet (tVar 3) (tVar 5)) (tVar 4) (tOp oAdd (tDGet2 (tDGet (tVar 3) (tVar 5)) (tVar 4) (tC (.int 0))) (tDGet (tVar 0) (tTup (tCons (tVar 4) (tCons (tVar 5) tNil)))))))))
    (tSeq (tAsg tDNewK (gName 6))
    (tSeq (tFor (iList K (tCB LS.rSortDI (tCons (tVar 1) tNil))) (gName 2)
    (tSeq (tAsg (tCB (rSum K) (tCons (tLockE (tLc (iKeys (tDGet (tVar 3) (tVar 2))) (gName 5) (tTest (tOp rEq (tDGet2 (tVar 6) (tVar 5) (tC (.int 1))) (tC (.int 0)))) (tDGet (tDGet (tVar 3) (tVar 2)) (tVar 5)) [5])) tNil)) (gName 7))
    (tSeq (tAsg (tCB (rSum K) (tCons (tLockE (tLc (iKeys (tDGet (tVar 3) (tVar 2))) (gName 5) (tTest (tOp rEq (tDGet2 (tVar 6) (tVar 5) (tC (.int 0))) (tC (.int 1)))) (tDGet (tDGet (tVar 3) (tVar 2)) (tVar 5)) [5])) tNil)) (gName 8))
    (sDPut (tVar 6) (tVar 2) (tIf (tTest (tOp oLt (tVar 8) (tVar 7))) (tC (.int 1)) (tC (.int 0)))))))
    (tSeq (tAsg (tCB (rSum K) (tCons (tLockE (tLc (iKeys (tVar 0)) (gName 12) (tTest (tOp oLt (tDGet (tVar 6) (tOp (rIxT K) (tVar 12) (tC (.int 0)))) (tDGet (tVar 6) (tOp (rIxT K) (tVar 12) (tC (.int 1)))))) (tDGet (tVar 0) (tVar 12)) [12])) tNil)) (gName 9))
    (tSeq (tAsg (tCB (rSum K) (tCons (tLockE (tLc (iKeys (tVar 0)) (gName 12) (tTest (tOp oGt (tDGet (tVar 6) (tOp (rIxT K) (tVar 12) (tC (.int 0)))) (tDGet (tVar 6) (tOp (rIxT K) (tVar 12) (tC (.int 1)))))) (tDGet (tVar 0) (tVar 12)) [12])) tNil)) (gName 10))
    (tSeq (tAsg (tIf (tTest (tOp oGt (tVar 10) (tVar 9))) (tC (.int 1)) (tC (.int 0))) (gName 11))
    (tRet (tThen (tLc (iList K (tCB LS.rSortDI (tCons (tVar 6) tNil))) (gName 2) (tTest (tOp rEq (tDGet (tVar 6) (tVar 2)) (tVar 11))) (tVar 2) [2]) (kTup K))))))))))
theorem keys_counts (row : List Int) {p : P2} (h : p ∈ keys (counts row)) : p.1 ∈ row ∧ p.2 ∈ row := by
  unfold counts at h
  rcases (keys_accs _ _).mp h with h | h
  · cases h
  · unfold ones keys at h
    rw [List.map_map] at h
    obtain ⟨q, hq, rfl⟩ := List.mem_map.mp h
    have h2 := List.of_mem_zip hq
    exact ⟨h2.1, List.mem_of_mem_drop h2.2⟩
theorem counts_len (row : List Int) : (counts row).length ≤ row.length := by
  have h := accs_len (ones (zipT row)) []
  unfold ones at h
  rw [List.length_map, zipT_len] at h
  unfold counts ones
  simp only [List.length_nil, Nat.zero_add] at h
  omega
theorem nodup_take_get {α : Type} {l : List α} {i : Nat} {x : α} (nd : l.Nodup) (h : l[i]? = some x) : x ∉ l.take i := fun z => by
  have hi := (List.getElem?_eq_some_iff.mp h).1
  have e : l = l.take i ++ x :: l.drop (i + 1) := by
    rw [← (List.getElem?_eq_some_iff.mp h).2, ← List.drop_eq_getElem_cons hi, List.take_append_drop]
  rw [e] at nd
  exact (List.nodup_append.mp nd).2.2 x z x List.mem_cons_self rfl
theorem r_left_numbers {K : PySem.W.Frag} {w : World} (vs : List V) (H : Hp) (Q : VK) (E : XK) (h : sp_left_numbers K vs H Q E) : t_left_numbers K w { nx := fun _ H' => Q .non H', rt := Q } (start n_left_numbers vs) H := by
  obtain ⟨_, _, rfl, d1, d2, row, rfl, rfl, h1, h2, hlen, q⟩ := h
  unfold t_left_numbers
  have cnd : (keys (counts row)).Nodup := nodup_accs _ nd_nil
  have clen := counts_len row
  have nlen : (nums row).length ≤ row.length := len_dedup row
  walk_at "T"
  refine e_lock h2 trivial fun od => ?_
  walk_at "T"
  refine i_keysK upd_same ?_
  walk_at "T"
  rename_i D hD
  obtain ⟨HL, eHL⟩ : ∃ HL, HL = upd H d2 (.frz od (.dK (encB (trues (nums row))))) := ⟨_, rfl⟩
  rw [← eHL] at hD ⊢
  have l2 : HL d2 = some (.frz od (.dK (encB (trues (nums row))))) := by rw [eHL, upd_same]
  have W0 : WD HL (upd HL D (.dK [])) D [] fun _ => [] := ⟨hD, fun _ _ e => (look_nil e).elim, L2.Same.new hD, upd_same, fun _ _ e => (look_nil e).elim, fun _ _ _ e => (look_nil e).elim⟩
  refine dc_w (w_keys (kvs := encB (trues (nums row)))) (fun i H' => ∃ tops : List (Int × Addr), WD HL H' D tops (fun _ => []) ∧ keys tops = (nums row).take i) ⟨[], W0, rfl⟩ (fun i H' _ p => by
    obtain ⟨tops, W, _⟩ := p
    exact W.same _ _ l2) ?_ ?_
  · rintro i _ x H' hi ⟨tops, W, hk⟩ ⟨rfl, kk, vv, ek, rfl⟩
    obtain ⟨o, eo, rfl⟩ := encB_get ek
    have hno : look tops o = none := look_none.mpr fun z => by
      rw [hk] at z
      exact nodup_take_get (nodup_dedup row) eo z
    walk_at "T"
    rename_i p hp
    refine q_dcput (f := V.ref) (m := p) (R := fun H5 => ∃ tops : List (Int × Addr), WD HL H5 D tops (fun _ => []) ∧ keys tops = (nums row).take (i + 1)) (u_old W.top hp) ?_ ?_
    · have : tops.length ≤ (nums row).length := by
        have e := congrArg List.length hk
        unfold keys at e
        rw [List.length_map, List.length_take] at e
        omega
      rw [sizeLine_eq]
      omega
    · refine ⟨_, W.add hno hp rfl, ?_⟩
      rw [keys_put, if_neg (look_none.mp hno), hk, take_snoc eo]
  · rintro H' ⟨tops, W, hk⟩
    have ll : (encB (trues (nums row))).length = (nums row).length := by
      rw [len_enc]
      exact List.length_map _
    rw [ll, List.take_length] at hk
    refine ⟨W.same _ _ l2, ?_⟩
    rw [eHL] at W
    have W1 := W.unfrz h2
    generalize upd H' d2 (.dK (encB (trues (nums row)))) = H1 at W1
    have eq0 : (fun _ => [] : Int → List (Int × Int)) = innerC ((counts row).take 0) := rfl
    rw [eq0] at W1
    have hmem : ∀ x, x ∈ row → ∃ a, look tops x = some a := fun x hx => mem_keys_look (by
      rw [hk]
      exact mem_dedup.mpr hx)
    walk_at "T"
    refine s_lock (W1.same _ _ h1) trivial fun od1 => ?_
    have W2 := W1.frz h1 (o := .frz od1 (.dT (encP (counts row))))
    have l1 : upd H d1 (.frz od1 (.dT (encP (counts row)))) d1 = some (.frz od1 (.dT (encP (counts row)))) := upd_same
    walk_at "T"
    refine i_keysT upd_same ?_
    refine for_w (w_keysT (kvs := encP (counts row))) (fun i σ H' => ∃ (y2 y4 y5 : Option V), σ = [some (.ref d1), some (.ref d2), y2, some (.ref D), y4, y5, none, none, none, none, none, none, none] ∧ WD (upd H d1 (.frz od1 (.dT (encP (counts row))))) H' D tops (innerC ((counts row).take i)))
      ⟨_, _, _, rfl, W2⟩ ?_ ?_ ?_
    · rintro i σ H' _ ⟨y2, y4, y5, rfl, W⟩
      exact W.same _ _ l1
    · rintro i σ _ v H' hi ⟨y2, y4, y5, rfl, W⟩ ⟨rfl, kk, vv, t, ek, rfl, ht⟩
      obtain ⟨p, c, eo, rfl, rfl⟩ := encP_get ek
      have hpk : p ∈ keys (counts row) := List.mem_map_of_mem (mem_of_get eo)
      obtain ⟨x, y⟩ := p
      obtain ⟨a, ha⟩ := hmem x (keys_counts row hpk).1
      obtain ⟨b, hb⟩ := hmem y (keys_counts row hpk).2
      have hl : ∀ z, (innerC ((counts row).take i) z).length ≤ 200000 := fun z => by
        have h1 := innerC_len ((counts row).take i) z
        rw [List.length_take] at h1
        omega
      have hc : ∀ (H2 : Hp) (W2 : Same (upd H d1 (.frz od1 (.dT (encP (counts row))))) H2) (QV : VK), (∀ H3, Same H2 H3 → QV (.int c) H3) → tDGet (tVar 0) (tTup (tCons (tVar 4) (tCons (tVar 5) tNil))) [some (.ref d1), some (.ref d2), y2, some (.ref D), some (.int x), some (.int y), none, none, none, none, none, none, none] H2 QV := fun H2 s2 QV hq => by
        have l1' := s2 _ _ l1
        walk_at "T"
        rename_i u hu
        refine p_get (f := V.int) (k := (x, y)) (.inr ⟨od1, u_old l1' hu⟩) upd_same (look_of_mem cnd (mem_of_get eo)) ?_
        exact hq _ (L2.Same.new hu)
      refine g_tup (xs := [.int x, .int y]) (SqT.of ht) rfl ?_
      walk_at "T"
      with_reducible refine s_bump (x := x) (y := y) W ?v1 ?v2 ?v3 ha (c := c) (by have := hl x; omega) ?hc fun H2 W2 => ?_
      case hc => exact hc _ W.same
      case v1 => rfl
      case v2 => rfl
      case v3 => rfl
      have hl2 : (bump (innerC ((counts row).take i)) x y c y).length ≤ 200001 := by
        unfold bump
        have h1 := hl y
        split
        · have : (acc (innerC ((counts row).take i) y) y c).length ≤ (innerC ((counts row).take i) y).length + 1 := length_put _ _ _
          omega
        · omega
      with_reducible refine s_bump (x := y) (y := x) W2 ?v1 ?v2 ?v3 hb (c := c) (by omega) ?hc fun H3 W3 => ?_
      case hc => exact hc _ W2.same
      case v1 => rfl
      case v2 => rfl
      case v3 => rfl
      refine ⟨_, _, _, rfl, ?_⟩
      rw [bump_snoc, ← take_snoc eo] at W3
      exact W3
    · rintro σ H' ⟨y2, y4, y5, rfl, W⟩
      rw [len_enc, List.take_length] at W
      refine ⟨W.same _ _ l1, ?_⟩
      have W3 := W.unfrz h1
      generalize upd H' d1 (.dT (encP (counts row))) = H2 at W3
      have hil : ∀ z, (innerC (counts row) z).length ≤ 200000 := fun z => by
        have h1 := innerC_len (counts row) z
        omega
      have hnd' : ∀ z, (keys (innerC (counts row) z)).Nodup := innerC_nd _
      have hleft : leftNums row = leftBy (innerC (counts row)) (counts row) (sortI (nums row)) := rfl
      generalize innerC (counts row) = inner at W3 hil hnd' hleft
      walk_at "T"
      rename_i s hs
      have hs0 := none_of W3.same hs
      have nsd : s ≠ D := (ne_none hs W3.top).symm
      have nsi : ∀ k a, look tops k = some a → s ≠ a := fun k a e => (ne_none hs (W3.inn k a e).1).symm
      have W4 := W3.new hs (o := .dK [])
      refine r_sortDI (f := V.bl) (.inl (W4.same _ _ h2)) fun p1 hp1 => ?_
      rw [keys_trues]
      have W5 := W4.new hp1 (o := .lst ((sortI (nums row)).map V.int))
      have h3s : upd (upd H2 s (.dK [])) p1 (.lst ((sortI (nums row)).map V.int)) s = some (.dK []) := u_old upd_same hp1
      have h3p : upd (upd H2 s (.dK [])) p1 (.lst ((sortI (nums row)).map V.int)) p1 = some (.lst ((sortI (nums row)).map V.int)) := upd_same
      generalize upd (upd H2 s (.dK [])) p1 (.lst ((sortI (nums row)).map V.int)) = H3 at W5 h3s h3p
      have nsp : s ≠ p1 := ne_of h3s h3p (fun z => nomatch z)
      have hnd : (sortI (nums row)).Nodup := (sortI_perm _).nodup_iff.mpr (nodup_dedup _)
      have hmr : ∀ x, x ∈ sortI (nums row) ↔ x ∈ row := fun x => ((sortI_perm _).mem_iff).trans mem_dedup
      have hsl : (sortI (nums row)).length ≤ 100000 := by
        rw [(sortI_perm _).length_eq]
        omega
      have hss : sortI (nums row) = sortI (sortI (nums row)) := sortI_eq (List.Perm.refl _) (sortI_sorted _)
      generalize sortI (nums row) = srt at h3p hnd hmr hsl hss hleft
      walk_at "T"
      refine for_w (w_list (xs := srt.map V.int)) (fun i σ H' => ∃ (y2 y4 y5 y7 y8 : Option V), σ = [some (.ref d1), some (.ref d2), y2, some (.ref D), y4, y5, some (.ref s), y7, y8, none, none, none, none] ∧ WD H H' D tops inner ∧ H' s = some (.dK (encI ((srt.take i).foldl (sideStep inner) []))) ∧ H' p1 = some (.lst (srt.map V.int)))
        ⟨_, _, _, _, _, rfl, W5, h3s, h3p⟩ ?_ ?_ ?_
      · rintro i σ H' _ ⟨y2, y4, y5, y7, y8, rfl, W, e1, e2⟩
        exact SqL.of e2
      · rintro i σ _ x H' hi ⟨y2, y4, y5, y7, y8, rfl, W, e1, e2⟩ ⟨rfl, hx⟩
        obtain ⟨x, ex, rfl⟩ := map_int_get hx
        rw [List.length_map] at hi
        obtain ⟨a, ha⟩ := hmem x ((hmr x).mp (mem_of_get ex))
        have hsz : ((srt.take i).foldl (sideStep inner) []).length ≤ i := by
          have h1 := keys_sides_eq inner (srt.take i) (sd := []) (hnd.sublist (List.take_sublist _ _)) (fun _ _ z => nomatch z)
          have h2 := congrArg List.length h1
          unfold keys at h2
          rw [List.length_map, List.length_append, List.length_take] at h2
          simp at h2
          omega
        rw [take_snoc ex, List.foldl_append]
        generalize (srt.take i).foldl (sideStep inner) [] = sd at e1 hsz
        walk_at "s"
        walk_at "s"
        walk_at "s"
        refine r_side (want := 0) W ha e1 (nsi x a ha) (hnd' x) (by have := hil x; omega) (by decide) fun H4 s4 => ?_
        walk_at "s"
        walk_at "s"
        walk_at "s"
        refine r_side (want := 1) (W.go s4) ha (s4 _ _ e1) (nsi x a ha) (hnd' x) (by have := hil x; omega) (by decide) fun H5 s5 => ?_
        have W6 := (W.go s4).go s5
        have e6 := s5 _ _ (s4 _ _ e1)
        have p6 := s5 _ _ (s4 _ _ e2)
        have fin : ∀ z : Int, z = (if sumOn sd 1 (inner x) < sumOn sd 0 (inner x) then 1 else 0) → (
            WD H (upd H5 s (.dK (encI (put sd x z)))) D tops inner ∧ upd H5 s (.dK (encI (put sd x z))) s = some (.dK (encI ([x].foldl (sideStep inner) sd))) ∧ upd H5 s (.dK (encI (put sd x z))) p1 = some (.lst (srt.map V.int))) := fun z hz => by
          refine ⟨W6.mut hs0 nsd nsi, ?_, u_oth nsp.symm p6⟩
          rw [upd_same, hz]
          rfl
        walk_at "S"
        refine t_iteD (fun e => ?_) (fun e => ?_)
        · walk_at "S"
          refine k_put (f := V.int) e6 (by rw [sizeLine_eq]; omega) ?_
          exact ⟨_, _, _, _, _, rfl, fin 1 (by rw [if_pos e])⟩
        · walk_at "S"
          refine k_put (f := V.int) e6 (by rw [sizeLine_eq]; omega) ?_
          exact ⟨_, _, _, _, _, rfl, fin 0 (by rw [if_neg e])⟩
      · rintro σ H' ⟨y2, y4, y5, y7, y8, rfl, W, e1, e2⟩
        rw [List.length_map, List.take_length] at e1
        have hkeys : keys (srt.foldl (sideStep inner) []) = srt := by
          have h1 := keys_sides_eq inner srt (sd := []) hnd (fun _ _ z => nomatch z)
          simpa [keys] using h1
        have hkey : ∀ x, x ∈ row → ∃ z, look (srt.foldl (sideStep inner) []) x = some z := fun x hx => mem_keys_look (by
          rw [hkeys]
          exact (hmr x).mpr hx)
        have hsd : sidesAll inner srt = srt.foldl (sideStep inner) [] := rfl
        generalize srt.foldl (sideStep inner) [] = sd at e1 hkeys hkey hsd
        have hpk : ∀ p ∈ keys (counts row), ∃ z1 z2, look sd p.1 = some z1 ∧ look sd p.2 = some z2 := fun p hp => by
          obtain ⟨z1, g1⟩ := hkey _ (keys_counts row hp).1
          obtain ⟨z2, g2⟩ := hkey _ (keys_counts row hp).2
          exact ⟨z1, z2, g1, g2⟩
        have hd1 := W.same _ _ h1
        walk_at "s"
        walk_at "s"
        refine r_way (cmp := fun m n => decide (m < n)) (fun m n H Q z => r_lt z) hd1 e1 cnd (by omega) hpk fun H4 s4 => ?_
        walk_at "s"
        walk_at "s"
        walk_at "s"
        refine r_way (cmp := fun m n => decide (n < m)) (fun m n H Q z => r_gt z) (s4 _ _ hd1) (s4 _ _ e1) cnd (by omega) hpk fun H5 s5 => ?_
        have hs5 := s5 _ _ (s4 _ _ e1)
        have sall := (W.same.trans s4).trans s5
        have hw0 : S (fun p => decide (sv sd p.1 < sv sd p.2)) (counts row) = ahead sd (counts row) := rfl
        have hw1 : S (fun p => decide (sv sd p.2 < sv sd p.1)) (counts row) = behind sd (counts row) := rfl
        rw [hw0, hw1]
        have tail : ∀ kept : Int, kept = (if ahead sd (counts row) < behind sd (counts row) then 1 else 0) → (tRet (tThen (tLc (iList K (tCB LS.rSortDI (tCons (tVar 6) tNil))) (gName 2) (tTest (tOp rEq (tDGet (tVar 6) (tVar 2)) (tVar 11))) (tVar 2) [2]) (kTup K))) { nx := fun _ H' => Q .non H', rt := Q } [some (.ref d1), some (.ref d2), y2, some (.ref D), y4, y5, some (.ref s), y7, y8, some (.int (ahead sd (counts row))), some (.int (behind sd (counts row))), some (.int kept), none] H5 := fun kept hkept => by
          walk_at "T"
          refine r_sortDI (f := V.int) (.inl hs5) fun b1 hb1 => ?_
          rw [hkeys, ← hss]
          walk_at "T"
          rename_i f hf
          refine lcp_w (w_list (xs := srt.map V.int)) (fun i => decide (sv sd (srt.getD i 0) = kept)) (fun i => V.int (srt.getD i 0)) (by rw [List.length_map]; omega) hf (fun H6 s6 => SqL.of (s6 _ _ upd_same)) ?_ ?_ ?_
          · rintro i H6 x _ ⟨rfl, _⟩
            exact Same.refl _
          · rintro i _ x H6 Rt Rf hi s6 ⟨rfl, hx⟩ kt kf
            obtain ⟨x, ex, rfl⟩ := map_int_get hx
            rw [getD_get ex] at kt kf
            obtain ⟨z, ez⟩ := hkey x ((hmr x).mp (mem_of_get ex))
            have sv0 : sv sd x = z := by
              unfold sv
              rw [ez]
              rfl
            rw [sv0] at kt kf
            walk_at "T"
            refine k_get (f := V.int) (.inl (s6 _ _ (u_old hs5 hb1))) ez ?_
            walk_at "T"
            refine t_iteD (fun e => ?_) (fun e => ?_)
            · walk_at "T"
              exact kt _ (Same.refl _) (decide_eq_true e)
            · exact kf _ (Same.refl _) (decide_eq_false e)
          · rintro H6 s6 h6
            have eg := given_filter srt (fun x => decide (sv sd x = kept)) V.int (fun i => decide (sv sd (srt.getD i 0) = kept)) (fun i => V.int (srt.getD i 0)) fun i x ex => by
              rw [getD_get ex]
              exact ⟨rfl, fun _ => rfl⟩
            rw [List.length_map, eg] at h6
            walk_at "T"
            refine r_tupLI (ns := srt.filter fun x => decide (sv sd x = kept)) (SqL.of h6) fun t ht => ?_
            refine q t _ (((sall.upd hb1).trans s6).upd ht) ?_
            rw [upd_same, hleft, hkept]
            unfold leftBy
            rw [hsd]
        walk_at "s"
        walk_at "s"
        walk_at "s"
        walk_at "s"
        walk_at "s"
        walk_at "s"
        walk_at "s"
        walk_at "s"
        walk_at "s"
        walk_at "s"
        refine t_iteD (fun e => ?_) (fun e => ?_)
        · walk_at "s"
          walk_at "s"
          exact tail 1 (by rw [if_pos e])
        · walk_at "s"
          walk_at "s"
          exact tail 0 (by rw [if_neg e])
end K15

end
section
set_option Elab.async false
set_option linter.all false
set_option maxRecDepth 100000
set_option maxHeartbeats 4000000
namespace K15
open PySem PySem.Spec PyProof.Rows L2 LW LM
/-! ### steps of a reading, heaps: short tactics -/
local macro_rules | `(tactic| walk_at "ne") => `(tactic| first
  | assumption
  | (apply Ne.symm; assumption)
  | exact ne_none (by assumption) (by assumption)
  | exact (ne_none (by assumption) (by assumption)).symm
  | exact ne_of (by assumption) (by assumption) (by intro z; cases z))
local macro_rules | `(tactic| walk_at "hp") => `(tactic| first
  | assumption
  | with_reducible exact upd_same
  | ((first
      | with_reducible refine u_old ?_ (by assumption)
      | with_reducible refine u_oth (by walk_at "ne") ?_
      | with_reducible refine same_app (by assumption) ?_
      | with_reducible refine kb_app (by assumption) (by walk_at "ne") ?_); walk_at "hp")
  | ((with_reducible refine u_kind ?h (by assumption) ?d); (case h => walk_at "hp"); (case d => (intro z; cases z))))
local macro_rules | `(tactic| walk_at "sq") => `(tactic| first
  | assumption
  | exact SqL.of (by walk_at "hp")
  | exact SqT.of (by walk_at "hp")
  | (with_reducible refine same_sqT (by assumption) ?_; walk_at "sq")
  | (with_reducible refine same_sqL (by assumption) ?_; walk_at "sq")
  | (with_reducible refine new_sqT (by assumption) ?_; walk_at "sq")
  | (with_reducible refine new_sqL (by assumption) ?_; walk_at "sq")
  | ((with_reducible refine mut_sqT (u := ?uu) ?hd ?hm ?_); (case hd => walk_at "hp"); (case hm => exact trivial); walk_at "sq"))
local macro_rules | `(tactic| walk_at "rd") => `(tactic| first
  | assumption
  | exact .inl (by walk_at "hp")
  | exact .inr ⟨_, by walk_at "hp"⟩)
local macro_rules | `(tactic| walk_at "s") => `(tactic| first
  | with_reducible refine s_seq ?_
  | with_reducible refine s_asg ?_
  | with_reducible refine g_name ?_
  | ((with_reducible refine e_var (v := ?vv) ?hv ?_); (case hv => rfl))
  | with_reducible refine e_c ?_
  | with_reducible refine e_op ?_
  | with_reducible refine a_cons ?_
  | with_reducible refine a_nil ?_
  | with_reducible refine e_cb ?_
  | with_reducible refine e_call ?_
  | with_reducible refine e_callK ?_
  | with_reducible refine s_ret ?_
  | with_reducible refine s_retN ?_
  | with_reducible refine s_drop ?_
  | with_reducible refine s_ifs ?_
  | with_reducible refine s_next ?_
  | with_reducible refine s_cont ?_
  | with_reducible refine s_brk ?_
  | with_reducible refine s_par ?_
  | with_reducible refine s_par3 ?_
  | with_reducible refine e_un ?_
  | with_reducible refine e_if ?_
  | with_reducible refine e_andV ?_
  | with_reducible refine e_orV ?_
  | with_reducible refine e_notV ?_
  | with_reducible refine e_dget ?_
  | with_reducible refine e_dget2 ?_
  | with_reducible refine e_din ?_
  | with_reducible refine e_dnotin ?_
  | with_reducible refine e_then ?_
  | with_reducible refine e_bm ?_
  | with_reducible refine e_bm0 ?_
  | with_reducible refine e_sl ?_
  | with_reducible refine o_none ?_
  | with_reducible refine o_part ?_
  | with_reducible refine g_sub ?_
  | with_reducible refine g_nil ?_
  | with_reducible refine g_cons ?_
  | with_reducible refine t_test ?_
  | with_reducible refine t_B ?_
  | with_reducible refine t_and ?_
  | with_reducible refine t_or ?_
  | with_reducible refine t_not ?_
  | ((with_reducible refine r_ixI (ns := ?ns) ?hs ?h0 ?h1 ?_); (case hs => walk_at "sq"); (case h0 => omega); (case h1 => omega))
  | ((with_reducible refine r_ixL (xs := ?xs) (v := ?vv) ?hs ?hi ?_); (case hs => walk_at "sq"); (case hi => rfl))
  | ((with_reducible refine r_ixT (xs := ?xs) (v := ?vv) ?hs ?hi ?_); (case hs => walk_at "sq"); (case hi => rfl))
  | ((with_reducible refine g_setL (xs := ?xs) (j := ?jj) ?hp ?hj ?_); (case hp => walk_at "hp"); (case hj => rfl))
  | ((with_reducible refine r_mul ?hc ?_); (case hc => first | exact .inr (by decide) | exact .inl (by decide) | exact .inl ⟨by omega, by omega⟩ | exact .inr ⟨by omega, by omega⟩))
  | ((with_reducible refine r_mod ?hc ?_); (case hc => first | decide | omega))
  | ((with_reducible refine r_fdivN ?hc ?_); (case hc => exact ⟨by first | decide | omega, by first | decide | omega⟩))
  | ((with_reducible refine r_pow ?hc ?_); (case hc => first | decide | exact ⟨by decide, by decide⟩ | (unfold CPow; decide)))
  | ((with_reducible refine r_lenI (ns := ?ns) ?hs ?_); (case hs => walk_at "sq"))
  | ((with_reducible refine r_lenTI (ns := ?ns) ?hs ?_); (case hs => walk_at "sq"))
  | ((with_reducible refine r_lenL (xs := ?xs) ?hs ?_); (case hs => walk_at "sq"))
  | ((with_reducible refine r_lenT (xs := ?xs) ?hs ?_); (case hs => walk_at "sq"))
  | ((with_reducible refine r_tyL (xs := ?xs) ?hs ?_); (case hs => walk_at "sq"))
  | with_reducible refine r_add ?_
  | with_reducible refine r_sub ?_
  | with_reducible refine r_lt ?_
  | with_reducible refine r_le ?_
  | with_reducible refine r_gt ?_
  | with_reducible refine r_ge ?_
  | with_reducible refine r_eqI ?_
  | with_reducible refine r_neI ?_
  | with_reducible refine r_int ?_
  | with_reducible refine r_intb ?_
  | with_reducible refine r_neg ?_
  | with_reducible refine r_max2 ?_
  | with_reducible refine r_min2 ?_
  | with_reducible refine c_sp1 ?_
  | with_reducible refine c_sp2 ?_
  | with_reducible refine c_sp3 ?_
  | with_reducible refine c_sp4 ?_
  | with_reducible refine c_sp5 ?_
  | with_reducible refine t_end ?_
  | with_reducible refine o_part_end ?_
  | ((with_reducible refine s_aug (x := ?xx) ?hx ?_); (case hx => rfl))
  | with_reducible refine s_for ?_
  | with_reducible refine i_list ?_
  | with_reducible refine i_tup ?_
  | with_reducible refine i_rng1 ?_
  | with_reducible refine i_rng2 ?_
  | with_reducible refine i_keys ?_
  | with_reducible refine i_items ?_
  | with_reducible refine i_zip2 ?_
  | with_reducible refine i_enum2 ?_
  | ((with_reducible refine i_rng1E ?h1 ?h2 ?_); (case h1 => omega); (case h2 => omega))
  | ((with_reducible refine i_rng2E ?h1 ?_); (case h1 => omega))
  | ((with_reducible refine i_listE (xs := ?xs) ?hs ?_); (case hs => walk_at "sq"))
  | ((with_reducible refine i_tupE (xs := ?xs) ?hs ?_); (case hs => walk_at "sq"))
  | ((with_reducible refine q_isD ?hi ?_); (case hi => first | exact isD_K (by walk_at "rd") | exact isD_T (by walk_at "rd")))
  | with_reducible refine q_ref ?_
  | with_reducible refine e_dnewK ?_
  | with_reducible refine e_dnewT ?_
  | with_reducible refine e_tup ?_
  | with_reducible refine e_lst ?_
  | ((with_reducible refine r_new ?hn ?_); (case hn => exact Nat.le_of_ble_eq_true rfl))
  | with_reducible refine r_fresh fun _ _ => ?_
  | with_reducible refine s_par_end ?_
  | with_reducible refine s_par3_end ?_
  | with_reducible refine e_lc ?_
  | with_reducible refine e_dc ?_
  | with_reducible refine e_dcT ?_
  | with_reducible refine t_tyes ?_
  | with_reducible refine t_tt ?_
  | with_reducible refine t_ff ?_
  | with_reducible refine c_wipe rfl ?_)
local macro_rules | `(tactic| walk_at "S") => `(tactic| repeat' first | walk_at "s" | with_reducible refine s_dput ?_)
local macro_rules | `(tactic| walk_at "T") => `(tactic| repeat' walk_at "s")

def inL (ls : List Int) (x : Int) : Bool := decide (x ∈ ls)
def sp_row_pairs (K : PySem.W.Frag) : Sp := sp3 fun x y z H Q => ∃ (r lf : Addr) (row ls : List Int) (us : Int), x = .ref r ∧ y = .ref lf ∧ z = .int us ∧ H r = some (.tup (row.map V.int)) ∧ SqT K H lf (ls.map V.int) ∧ row.length ≤ 100000 ∧
  ∀ (t t1 t2 : Addr) (bs : List Addr) H', Same H H' → H' t = some (.tup [.ref t1, .ref t2, .int (us + ((LM.pairsOf row (inL ls)).length : Nat))]) → H' t1 = some (.tup ((prow (LM.pairsOf row (inL ls)) us row).map V.int)) → H' t2 = some (.tup (bs.map V.ref)) → LS.AtPs H' bs (LM.pairsOf row (inL ls)) → Q (.ref t) H'
abbrev n_row_pairs : List Str := ["row", "lefts", "used", "keys", "one", "other", "pairs", "at", "numbers", "found", "pair"]
def t_row_pairs (K : PySem.W.Frag) (w : World) : TS :=
  (tSeq (tAsg tDNewT (gName 3))
    (tSeq (tFor (LR.iZip2 true true K (tCons (tVar 0) (tCons (tSl (rSlA K) (tVar 0) (tPart (tC (.int 1))) tNoPart) tNil))) (gTup K 2 (gCons (gName 4) (gCons (gName 5) gNil)))
    (tIfS (tAnd (tTest (tOp (rIn K false) (tVar 4) (tVar 1))) (tTest (tOp (rIn K true) (tVar 5) (tVar 1)))) (sDPut (tVar 3) (tTup (tCons (tVar 4) (tCons (tVar 5) tNil))) (tC (.bl true))) tNext))
    (tSeq (tAsg (tThen (tCB LS.rSortDP (tCons (tVar 3) tNil)) (kTup K)) (gName 6))
    (tSeq (tAsg (LD.tDcT (LR.iEnum2 true K (tCons (tVar 6) tNil)) (gTup K 2 (gCons (gName 7) (gCons (gName 10) gNil))) tYes (tVar 10) (tOp oAdd (tVar 2) (tVar 7)) [7, 10]) (gName 8))
    (tSeq (tAsg (tLst tNil) (gName 9))
    (tSeq (tAsg (tC (.int 0)) (gName 7))
    (tSeq (tWhile (tTest (tOp oLt (tVar 7) (tCB (oLen K) (tCons (tVar 0) tNil)))) (tIfS (tB (tDIn (tThen (tSl (rSlA K) (tVar 0) (tPart (tVar 7)) (tPart (tOp oAdd (tVar 7) (tC (.int 2))))) (kTup K)) (tVar 8))) (tSeq (tDrop (tBM K "list" rAppend (tVar 9) (tCons (tDGet (tVar 8) (tThen (tSl (rSlA K) (tVar 0) (tPart (tVar 7)) (tPart (tOp oAdd (tVar 7) (tC (.int 2))))) (kTup K))) tNil)))
    (tAug 7 (tC (.int 2)) (ipI fun i j => i + j))) (tSeq (tDrop (tBM K "list" rAppend (tVar 9) (tCons (tOp (rIxT K) (tVar 0) (tVar 7)) tNil)))
    (tAug 7 (tC (.int 1)) (ipI fun i j => i + j)))))
    (tRet (tTup (tCons (tThen (tVar 9) (kTup K)) (tCons (tVar 6) (tCons (tOp oAdd (tVar 2) (tCB (oLen K) (tCons (tVar 6) tNil))) tNil))))))))))))
theorem inV_ints (n : Int) (ls : List Int) : inV (.int n) (ls.map V.int) = inL ls n := by
  unfold inV inL
  rw [List.any_map]
  have e : ∀ m : Int, (m == n) = decide (m = n) := fun m => rfl
  induction ls with
  | nil => rfl
  | cons m ls ih =>
    rw [List.any_cons, ih]
    show ((eqV (.int m) (.int n)) || decide (n ∈ ls)) = decide (n ∈ m :: ls)
    have e1 : eqV (.int m) (.int n) = decide (m = n) := by
      show (m == n) = decide (m = n)
      by_cases h : m = n
      · subst h
        simp
      · simp [h]
    rw [e1]
    by_cases h : m = n
    · subst h
      simp
    · have h' : ¬ n = m := fun z => h z.symm
      simp [h, h']
theorem flat_ints (ls : List Int) : (ls.map V.int).all flatV = true := by
  rw [List.all_map, List.all_eq_true]
  exact fun _ _ => rfl
theorem r_inTI {K : PySem.W.Frag} {H : Hp} {p : Addr} {ls : List Int} {n : Int} {Q : VK} (hs : SqT K H p (ls.map V.int)) (h : Q (.bl (inL ls n)) H) : rIn K false (.int n) (.ref p) H Q :=
  ⟨p, _, rfl, .inr hs, rfl, flat_ints ls, by
    rw [inV_ints]
    exact h⟩
theorem r_ninTI {K : PySem.W.Frag} {H : Hp} {p : Addr} {ls : List Int} {n : Int} {Q : VK} (hs : SqT K H p (ls.map V.int)) (h : Q (.bl (!inL ls n)) H) : rIn K true (.int n) (.ref p) H Q :=
  ⟨p, _, rfl, .inr hs, rfl, flat_ints ls, by
    rw [inV_ints]
    exact h⟩
theorem put_trues {α : Type} [DecidableEq α] {l : List α} (x : α) : put (trues l) x true = trues (addN l x) := by
  have hk : keys (trues l) = l := keys_trues l
  unfold addN
  by_cases h : x ∈ l
  · rw [if_pos h, put_old _ (fun e => look_none.mp e (by rw [hk]; exact h))]
    unfold trues
    rw [List.map_map]
    apply List.map_congr_left
    intro y _
    show (if y = x then (y, true) else (y, true)) = (y, true)
    by_cases e : y = x <;> simp [e]
  · rw [if_neg h, put_new _ (look_none.mpr (by rw [hk]; exact h))]
    unfold trues
    rw [List.map_append]
    rfl
theorem r_sortDP {H : Hp} {a : Addr} {β : Type} {f : β → V} {l : List (P2 × β)} {Q : VK} (hr : Rd H a (.dT (encD LS.pK f l))) (h : ∀ p cs, H p = none → LS.AtPs H cs (sortP (keys l)) → Q (.ref p) (upd H p (.lst (cs.map V.ref)))) : LS.rSortDP [.ref a] H Q :=
  ⟨a, _, keys l, rfl, hr, keys_enc LS.pK f l, h⟩
theorem atPs_same {H H' : Hp} {bs : List Addr} {ps : List P2} (s : Same H H') (h : LS.AtPs H bs ps) : LS.AtPs H' bs ps := by
  induction h with
  | nil => exact .nil
  | cons r _ ih => exact .cons (s _ _ r) ih
theorem atPs_len {H : Hp} {bs : List Addr} {ps : List P2} (h : LS.AtPs H bs ps) : bs.length = ps.length := by
  induction h with
  | nil => rfl
  | cons _ _ ih => rw [List.length_cons, List.length_cons, ih]
theorem atPs_get {H : Hp} {bs : List Addr} {ps : List P2} (h : LS.AtPs H bs ps) : ∀ {i : Nat} {b : Addr}, bs[i]? = some b → ∃ p, ps[i]? = some p ∧ LS.AtP H b p := by
  induction h with
  | nil => intro i b e; cases e
  | cons r _ ih =>
    intro i b e
    cases i with
    | zero =>
      cases Option.some.inj e
      exact ⟨_, rfl, r⟩
    | succ i => exact ih e
theorem numTab_len (ps : List P2) (us : Int) : (numTab ps us).length = ps.length := by
  unfold numTab
  rw [List.length_map, List.length_range]
theorem numTab_get {ps : List P2} {us : Int} {i : Nat} {p : P2} (h : ps[i]? = some p) : (numTab ps us)[i]? = some (p, us + (i : Nat)) := by
  have hi := (List.getElem?_eq_some_iff.mp h).1
  unfold numTab
  rw [List.getElem?_map, List.getElem?_range hi]
  show some (ps.getD i (0, 0), us + (i : Nat)) = _
  rw [getD_get h]
theorem numTab_keys (ps : List P2) (us : Int) : keys (numTab ps us) = ps := by
  apply List.ext_getElem?
  intro i
  unfold keys
  rw [List.getElem?_map]
  cases h : ps[i]? with
  | none =>
    have hi : ps.length ≤ i := List.getElem?_eq_none_iff.mp h
    rw [List.getElem?_eq_none_iff.mpr (by rw [numTab_len]; exact hi)]
    rfl
  | some p =>
    rw [numTab_get h]
    rfl
theorem put_numTab {ps : List P2} (nd : ps.Nodup) (us : Int) {i : Nat} {p : P2} (h : ps[i]? = some p) : put ((numTab ps us).take i) p (us + (i : Nat)) = (numTab ps us).take (i + 1) := by
  rw [take_snoc (numTab_get h), put_new]
  rw [look_none]
  unfold keys
  rw [List.map_take]
  have := numTab_keys ps us
  unfold keys at this
  rw [this]
  exact nodup_take_get nd h
/-- row[at:at + 2] of a row that lies in the heap -/
theorem r_two {K : PySem.W.Frag} {H : Hp} {a : Addr} {ns : List Int} {at' : Nat} {hi : Int} {Q : VK} (hs : H a = some (.tup (ns.map V.int))) (ha : at' ≤ ns.length) (ehi : hi = (at' : Int) + 2)
    (h : ∀ b H', Same H H' → H' b = some (.tup (((ns.drop at').take 2).map V.int)) → Q (.ref b) H') : rSlA K (.ref a) (some (at' : Int)) (some hi) H Q := by
  have hl : (ns.map V.int).length = ns.length := List.length_map _
  have e1 : HT.sIx (ns.map V.int).length 0 (some (at' : Int)) = min at' ns.length := by
    rw [HT.sIx_nat, hl]
  have e2 : HT.sIx (ns.map V.int).length (ns.map V.int).length (some hi) = min (at' + 2) ns.length := by
    have : hi = ((at' + 2 : Nat) : Int) := by omega
    rw [this, HT.sIx_nat, hl]
  have m1 : min at' ns.length = at' := by omega
  have ec : cutV (ns.map V.int) (some (at' : Int)) (some hi) = ((ns.drop at').take 2).map V.int := by
    unfold cutV
    rw [e1, e2, m1, List.map_take, List.map_drop]
    by_cases h2 : at' + 2 ≤ ns.length
    · rw [show min (at' + 2) ns.length - at' = 2 by omega]
    · rw [List.take_of_length_le (by rw [List.length_drop, hl]; omega), List.take_of_length_le (by rw [List.length_drop, hl]; omega)]
  refine ⟨a, _, rfl, SqT.of hs, fun hh => h a H (Same.refl H) ?_, fun hh p hp => h p _ (L2.Same.new hp) ?_⟩
  · rw [e1, e2, m1, hl] at hh
    obtain ⟨h1, h2⟩ := hh
    subst h1
    rw [List.drop_zero, List.take_of_length_le (by omega)]
    exact hs
  · rw [upd_same, ec]
theorem valV_one {l : List (P2 × Int)} {x : Int} : valV (encP l) [kI x] = none := by
  induction l with
  | nil => rfl
  | cons p l ih =>
    refine (valV_neg (p := (LS.pK p.1, V.int p.2)) (r := encP l) fun z => ?_).trans ih
    have := congrArg List.length z
    cases this
theorem r_row_pairs {K : PySem.W.Frag} {w : World} (vs : List V) (H : Hp) (Q : VK) (E : XK) (h : sp_row_pairs K vs H Q E) : t_row_pairs K w { nx := fun _ H' => Q .non H', rt := Q } (start n_row_pairs vs) H := by
  obtain ⟨_, _, _, rfl, r, lf, row, ls, us, rfl, rfl, rfl, hr, hlf, hlen, q⟩ := h
  unfold t_row_pairs
  walk_at "T"
  rename_i d hd
  have s0 : Same H (upd H d (.dT [])) := L2.Same.new hd
  have hS : SqT K H r (row.map V.int) := SqT.of hr
  refine r_tail (xs := row.map V.int) (by walk_at "sq") fun b H1 s1 hb => ?_
  walk_at "T"
  have hbb : SqT K H1 b ((row.drop 1).map V.int) := by
    rw [List.map_drop]
    exact hb
  refine i_zip2E (k1 := true) (k2 := true) (xs := row.map V.int) (ys := (row.drop 1).map V.int) (show SqT K H1 r _ by walk_at "sq") (show SqT K H1 b _ from hbb) ?_
  refine for_w (w_zip2 (k1 := true) (k2 := true) (xs := row.map V.int) (ys := (row.drop 1).map V.int)) (fun i σ H' => ∃ y4 y5, σ = [some (.ref r), some (.ref lf), some (.int us), some (.ref d), y4, y5, none, none, none, none, none] ∧ Same H H' ∧ SqT K H' b ((row.drop 1).map V.int) ∧ H' d = some (.dT (encPB (trues (dedup (((zipT row).take i).filter (isK (inL ls))))))))
    ⟨none, none, rfl, s0.trans s1, hbb, (show H1 d = some (HO.dT []) by walk_at "hp")⟩ ?_ ?_ ?_
  · rintro i σ H' _ ⟨y4, y5, rfl, sm, hB, hd'⟩
    exact ⟨sm.sqT hS, hB⟩
  · rintro i σ H' _ _ hi ⟨y4, y5, rfl, sm, hB, hd'⟩ ⟨T, u, v, rfl, hT, rfl, hu, hv⟩
    obtain ⟨x, ex, rfl⟩ := map_int_get hu
    obtain ⟨y, ey, rfl⟩ := map_int_get hv
    have hi' : i < row.length - 1 := by
      rw [List.length_map, List.length_map, List.length_drop] at hi
      omega
    have ey' : row[i + 1]? = some y := by
      rw [List.getElem?_drop, Nat.add_comm] at ey
      exact ey
    have ez : ((zipT row).take (i + 1)).filter (isK (inL ls)) = ((zipT row).take i).filter (isK (inL ls)) ++ if (inL ls x && !inL ls y) = true then [(x, y)] else [] := by
      rw [take_snoc (zipT_get ex ey'), List.filter_append, List.filter_cons]
      rfl
    have hlt : (trues (dedup (((zipT row).take i).filter (isK (inL ls))))).length < sizeLine := by
      unfold trues
      rw [List.length_map]
      have h1 := len_dedup (((zipT row).take i).filter (isK (inL ls)))
      have h2 := List.length_filter_le (isK (inL ls)) ((zipT row).take i)
      rw [List.length_take, zipT_len] at h2
      rw [sizeLine_eq]
      omega
    have sT : Same H (upd H' T (.tup [.int x, .int y])) := sm.upd hT
    refine g_tup (xs := [.int x, .int y]) (by walk_at "sq") rfl ?_
    walk_at "T"
    refine r_inTI (ls := ls) (by walk_at "sq") ?_
    walk_at "T"
    have no : (inL ls x && !inL ls y) = false → (∃ y4' y5', (([some (V.ref r), some (.ref lf), some (.int us), some (.ref d), y4, y5, none, none, none, none, none].set 4 (some (.int x))).set 5 (some (.int y))) = [some (.ref r), some (.ref lf), some (.int us), some (.ref d), y4', y5', none, none, none, none, none] ∧ Same H (upd H' T (.tup [.int x, .int y])) ∧ SqT K (upd H' T (.tup [.int x, .int y])) b ((row.drop 1).map V.int) ∧ upd H' T (.tup [.int x, .int y]) d = some (.dT (encPB (trues (dedup (((zipT row).take (i + 1)).filter (isK (inL ls)))))))) := fun e => by
      refine ⟨_, _, rfl, sT, by walk_at "sq", ?_⟩
      rw [ez, e, if_neg Bool.false_ne_true, List.append_nil]
      exact u_old hd' hT
    refine t_ite (fun e1 => ?_) (fun e1 => ?_)
    · walk_at "T"
      refine r_ninTI (ls := ls) (by walk_at "sq") ?_
      walk_at "T"
      refine t_ite (fun e2 => ?_) (fun e2 => ?_)
      · walk_at "S"
        rename_i p hp
        refine p_put (f := V.bl) (m := true) (k := (x, y)) (by walk_at "hp") (atP_of (by walk_at "hp")) hlt ?_
        refine ⟨_, _, rfl, (sT.upd hp).mut hd, by walk_at "sq", ?_⟩
        rw [upd_same, put_trues, ← dedup_snoc, ez, e1, e2]
        rfl
      · walk_at "T"
        exact no (by rw [e2, Bool.and_false])
    · walk_at "T"
      exact no (by rw [e1, Bool.false_and])
  · rintro σ H' ⟨y4, y5, rfl, sm, hB, hd'⟩
    have hmn : min (row.map V.int).length ((row.drop 1).map V.int).length = (zipT row).length := by
      rw [zipT_len, List.length_map, List.length_map, List.length_drop]
      omega
    rw [hmn, List.take_length] at hd'
    walk_at "T"
    refine r_sortDP (f := V.bl) (.inl hd') fun p cs hp hcs => ?_
    rw [keys_trues] at hcs
    have hcs' : LS.AtPs H' cs (LM.pairsOf row (inL ls)) := hcs
    have hpnd := pairs_nodup row (inL ls)
    have hpl : (LM.pairsOf row (inL ls)).length ≤ 100000 := by
      unfold LM.pairsOf pkeys
      rw [(sortP_perm _).length_eq]
      have h1 := len_dedup ((zipT row).filter (isK (inL ls)))
      have h2 := List.length_filter_le (isK (inL ls)) (zipT row)
      rw [zipT_len] at h2
      omega
    generalize LM.pairsOf row (inL ls) = ps at hcs' hpnd hpl q
    have hcl := atPs_len hcs'
    walk_at "T"
    refine r_tupL (xs := cs.map V.ref) (by walk_at "sq") fun t2 ht2 => ?_
    have s2 : Same H (upd (upd H' p (.lst (cs.map V.ref))) t2 (.tup (cs.map V.ref))) := (sm.upd hp).upd ht2
    have a2 : LS.AtPs (upd (upd H' p (.lst (cs.map V.ref))) t2 (.tup (cs.map V.ref))) cs ps := atPs_same ((L2.Same.new hp).upd ht2) hcs'
    have e2 : upd (upd H' p (.lst (cs.map V.ref))) t2 (.tup (cs.map V.ref)) t2 = some (.tup (cs.map V.ref)) := upd_same
    generalize upd (upd H' p (.lst (cs.map V.ref))) t2 (.tup (cs.map V.ref)) = H2 at s2 a2 e2
    walk_at "T"
    refine i_enum2E (k := true) (xs := cs.map V.ref) (show SqT K H2 t2 _ from SqT.of e2) ?_
    walk_at "T"
    rename_i D hD
    refine dcT_w (w_enum2 (k := true) (xs := cs.map V.ref)) (fun i H3 => Same H2 H3 ∧ H3 D = some (.dT (encP ((numTab ps us).take i)))) ⟨L2.Same.new hD, upd_same⟩ (fun i H3 _ z => SqT.of (z.1 _ _ e2)) ?_ ?_
    · rintro i H3 _ _ hi ⟨s3, e3⟩ ⟨T, u, rfl, hT, rfl, hu⟩
      rw [List.getElem?_map] at hu
      cases ec : cs[i]? with
      | none => rw [ec] at hu; cases hu
      | some c =>
        rw [ec] at hu
        cases Option.some.inj hu
        obtain ⟨pr, epr, hat⟩ := atPs_get a2 ec
        have hat3 : LS.AtP (upd H3 T (.tup [.int (i : Nat), .ref c])) c pr := u_old (s3 _ _ hat) hT
        refine g_tup (xs := [.int (i : Nat), .ref c]) (by walk_at "sq") rfl ?_
        walk_at "T"
        refine q_dcputP (f := V.int) (m := us + (i : Nat)) (R := fun H5 => Same H2 H5 ∧ H5 D = some (.dT (encP ((numTab ps us).take (i + 1))))) hat3 (u_old e3 hT) ?_ ?_
        · rw [List.length_take, sizeLine_eq]
          have : i < ps.length := (List.getElem?_eq_some_iff.mp epr).1
          omega
        · refine ⟨(s3.upd hT).mut hD, ?_⟩
          rw [upd_same, put_numTab hpnd us epr]
    · rintro H3 ⟨s3, e3⟩
      have hcm : (cs.map V.ref).length = (numTab ps us).length := by
        rw [List.length_map, hcl, numTab_len]
      rw [hcm, List.take_length] at e3
      have e3' : ∀ {x y : Int}, look (numTab ps us) (x, y) = if (x, y) ∈ ps then some (numOf ps us (x, y)) else none := fun {x y} => look_numTab hpnd us (x, y)
      have s23 := s2.trans s3
      have a3 := atPs_same s3 a2
      have f3 := s3 _ _ e2
      walk_at "T"
      rename_i l hl
      have nlD : D ≠ l := (ne_none hl e3)
      refine ⟨fun m σ H4 => ∃ (at' : Nat) (fl : List Int), σ = [some (.ref r), some (.ref lf), some (.int us), some (.ref d), y4, y5, some (.ref t2), some (.int (at' : Int)), some (.ref D), some (.ref l), none] ∧ m = row.length - at' ∧ at' ≤ row.length ∧ Same H3 H4 ∧ H4 l = some (.lst (fl.map V.int)) ∧ fl.length ≤ at' ∧ fl ++ prow ps us (row.drop at') = prow ps us row,
        ⟨row.length, 0, [], rfl, rfl, Nat.zero_le _, L2.Same.new hl, upd_same, Nat.le_refl _, rfl⟩, ?_⟩
      rintro m σ H4 ⟨at', fl, rfl, rfl, hat, s4, h4, hfl, hpr⟩
      have r4 : H4 r = some (.tup (row.map V.int)) := s4 _ _ (s23 _ _ hr)
      have sr4 : SqT K H4 r (row.map V.int) := SqT.of r4
      have d4 := s4 _ _ e3
      walk_at "T"
      refine t_iteD (fun hlt => ?_) (fun hlt => ?_)
      · have hlt' : at' < row.length := by omega
        refine ⟨fun σ' H5 => ∃ (a' : Nat) (fl' : List Int), σ' = [some (.ref r), some (.ref lf), some (.int us), some (.ref d), y4, y5, some (.ref t2), some (.int (a' : Int)), some (.ref D), some (.ref l), none] ∧ at' < a' ∧ a' ≤ row.length ∧ Same H3 H5 ∧ H5 l = some (.lst (fl'.map V.int)) ∧ fl'.length ≤ a' ∧ fl' ++ prow ps us (row.drop a') = prow ps us row, ?_, ?_⟩
        · rintro σ' H5 ⟨a', fl', rfl, h1, h2, h3, h4, h5, h6⟩
          exact ⟨row.length - a', by omega, a', fl', rfl, rfl, h2, h3, h4, h5, h6⟩
        walk_at "T"
        refine r_two (ns := row) r4 hat rfl fun b5 H5 s5 e5 => ?_
        refine r_tupT (xs := ((row.drop at').take 2).map V.int) (SqT.of e5) ?_
        have l5 := s5 _ _ h4
        have d5 := s5 _ _ d4
        have r5 := s5 _ _ r4
        have sr5 : SqT K H5 r (row.map V.int) := SqT.of r5
        have s35 := s4.trans s5
        obtain ⟨x, ex, _⟩ := map_int_at (row := row) (i := at') hlt'
        have edx : row.drop at' = x :: row.drop (at' + 1) := by
          rw [← (List.getElem?_eq_some_iff.mp ex).2, ← List.drop_eq_getElem_cons hlt']
        walk_at "T"
        refine q_inP (k := ((row.drop at').take 2).map kI) (.inl d5) (by rw [e5, List.map_map]; rfl) ?_
        walk_at "T"
        have app1 : prow ps us (row.drop at') = x :: prow ps us (row.drop (at' + 1)) → ∀ (NX : L2.St → Hp → Prop), (∀ σ' H5, (∃ (a' : Nat) (fl' : List Int), σ' = [some (.ref r), some (.ref lf), some (.int us), some (.ref d), y4, y5, some (.ref t2), some (.int (a' : Int)), some (.ref D), some (.ref l), none] ∧ at' < a' ∧ a' ≤ row.length ∧ Same H3 H5 ∧ H5 l = some (.lst (fl'.map V.int)) ∧ fl'.length ≤ a' ∧ fl' ++ prow ps us (row.drop a') = prow ps us row) → NX σ' H5) → NX [some (.ref r), some (.ref lf), some (.int us), some (.ref d), y4, y5, some (.ref t2), some (.int ((at' : Int) + 1)), some (.ref D), some (.ref l), none] (upd H5 l (.lst ((fl ++ [x]).map V.int))) := fun he NX k => by
          refine k _ _ ⟨at' + 1, fl ++ [x], rfl, by omega, by omega, s35.mut hl, upd_same, ?_, ?_⟩
          · rw [List.length_append, List.length_singleton]
            omega
          · rw [← hpr, he, List.append_assoc]
            rfl
        have hval : ∀ y, row[at' + 1]? = some y → valV (encP (numTab ps us)) (((row.drop at').take 2).map kI) = if (x, y) ∈ ps then some (.int (numOf ps us (x, y))) else none := fun y ey => by
          have e2 : (row.drop at').take 2 = [x, y] := by
            have h2 : at' + 1 < row.length := (List.getElem?_eq_some_iff.mp ey).1
            rw [edx, List.drop_eq_getElem_cons h2, (List.getElem?_eq_some_iff.mp ey).2]
            rfl
          rw [e2]
          refine (valV_enc (f := V.int) pK_inj (numTab ps us) (x, y)).trans ?_
          rw [e3']
          by_cases hin : (x, y) ∈ ps
          · rw [if_pos hin, if_pos hin]
            rfl
          · rw [if_neg hin, if_neg hin]
            rfl
        have hval0 : row[at' + 1]? = none → valV (encP (numTab ps us)) (((row.drop at').take 2).map kI) = none := fun ey => by
          have e2 : (row.drop at').take 2 = [x] := by
            rw [edx, List.drop_eq_nil_of_le (List.getElem?_eq_none_iff.mp ey)]
            rfl
          rw [e2]
          exact valV_one
        refine t_ite (fun e => ?_) (fun e => ?_)
        · obtain ⟨y, ey, hin⟩ : ∃ y, row[at' + 1]? = some y ∧ (x, y) ∈ ps := by
            cases ey : row[at' + 1]? with
            | none =>
              rw [hval0 ey] at e
              cases e
            | some y =>
              rw [hval y ey] at e
              refine ⟨y, rfl, ?_⟩
              by_cases hin : (x, y) ∈ ps
              · exact hin
              · rw [if_neg hin] at e
                cases e
          have hv := hval y ey
          rw [if_pos hin] at hv
          walk_at "T"
          refine r_two (ns := row) r5 hat rfl fun b6 H6 s6 e6 => ?_
          refine r_tupT (xs := ((row.drop at').take 2).map V.int) (SqT.of e6) ?_
          have l6 := s6 _ _ l5
          have d6 := s6 _ _ d5
          walk_at "T"
          refine q_getP (k := ((row.drop at').take 2).map kI) (.inl d6) (by rw [e6, List.map_map]; rfl) hv ?_
          walk_at "T"
          refine r_appI l6 (by omega) ?_
          walk_at "T"
          refine ⟨_, _, rfl, rfl, ?_⟩
          have h2 : at' + 1 < row.length := (List.getElem?_eq_some_iff.mp ey).1
          refine ⟨at' + 2, fl ++ [numOf ps us (x, y)], rfl, by omega, by omega, (s35.trans s6).mut hl, upd_same, ?_, ?_⟩
          · rw [List.length_append, List.length_singleton]
            omega
          · rw [← hpr, edx, List.drop_eq_getElem_cons h2, (List.getElem?_eq_some_iff.mp ey).2, List.append_assoc]
            show _ = fl ++ (if (x, y) ∈ ps then numOf ps us (x, y) :: prow ps us (row.drop (at' + 1 + 1)) else _)
            rw [if_pos hin]
            rfl
        · have he : prow ps us (row.drop at') = x :: prow ps us (row.drop (at' + 1)) := by
            rw [edx]
            cases ey : row[at' + 1]? with
            | none =>
              rw [List.drop_eq_nil_of_le (List.getElem?_eq_none_iff.mp ey)]
              rfl
            | some y =>
              have h2 : at' + 1 < row.length := (List.getElem?_eq_some_iff.mp ey).1
              rw [List.drop_eq_getElem_cons h2, (List.getElem?_eq_some_iff.mp ey).2]
              rw [hval y ey] at e
              show (if (x, y) ∈ ps then _ else x :: prow ps us (y :: row.drop (at' + 1 + 1))) = _
              rw [if_neg]
              intro hin
              rw [if_pos hin] at e
              cases e
          walk_at "T"
          refine r_ixTI (ns := row) sr5 (by omega) (by omega) ?_
          rw [getD_of ex rfl]
          walk_at "T"
          refine r_appI l5 (by omega) ?_
          walk_at "T"
          refine ⟨_, _, rfl, rfl, ?_⟩
          exact app1 he _ fun σ' H7 z => z
      · have hlast : at' = row.length := by omega
        subst hlast
        rw [List.drop_length] at hpr
        have hfin : fl = prow ps us row := by
          rw [← hpr]
          exact (List.append_nil _).symm
        walk_at "T"
        refine r_tupLI (ns := fl) (SqL.of h4) fun t1 ht1 => ?_
        have f4 := s4 _ _ f3
        walk_at "T"
        rename_i t ht
        have hcl' : ((cs.map V.ref).length : Int) = (ps.length : Nat) := by
          rw [List.length_map, atPs_len a3]
        rw [hcl']
        refine q t t1 t2 cs _ (((s23.trans s4).upd ht1).upd ht) upd_same ?_ ?_ ?_
        · rw [← hfin]
          exact u_old upd_same ht
        · exact u_old (u_old f4 ht1) ht
        · exact atPs_same ((s4.upd ht1).upd ht) a3
end K15

end
section
set_option Elab.async false
set_option linter.all false
set_option maxRecDepth 100000
set_option maxHeartbeats 4000000
namespace K15
open PySem PySem.Spec PyProof.Rows L2 LW LM
/-! ### steps of a reading, heaps: short tactics -/
local macro_rules | `(tactic| walk_at "ne") => `(tactic| first
  | assumption
  | (apply Ne.symm; assumption)
  | exact ne_none (by assumption) (by assumption)
  | exact (ne_none (by assumption) (by assumption)).symm
  | exact ne_of (by assumption) (by assumption) (by intro z; cases z))
local macro_rules | `(tactic| walk_at "hp") => `(tactic| first
  | assumption
  | with_reducible exact upd_same
  | ((first
      | with_reducible refine u_old ?_ (by assumption)
      | with_reducible refine u_oth (by walk_at "ne") ?_
      | with_reducible refine same_app (by assumption) ?_
      | with_reducible refine kb_app (by assumption) (by walk_at "ne") ?_); walk_at "hp")
  | ((with_reducible refine u_kind ?h (by assumption) ?d); (case h => walk_at "hp"); (case d => (intro z; cases z))))
local macro_rules | `(tactic| walk_at "sq") => `(tactic| first
  | assumption
  | exact SqL.of (by walk_at "hp")
  | exact SqT.of (by walk_at "hp")
  | (with_reducible refine same_sqT (by assumption) ?_; walk_at "sq")
  | (with_reducible refine same_sqL (by assumption) ?_; walk_at "sq")
  | (with_reducible refine new_sqT (by assumption) ?_; walk_at "sq")
  | (with_reducible refine new_sqL (by assumption) ?_; walk_at "sq")
  | ((with_reducible refine mut_sqT (u := ?uu) ?hd ?hm ?_); (case hd => walk_at "hp"); (case hm => exact trivial); walk_at "sq"))
local macro_rules | `(tactic| walk_at "rd") => `(tactic| first
  | assumption
  | exact .inl (by walk_at "hp")
  | exact .inr ⟨_, by walk_at "hp"⟩)
local macro_rules | `(tactic| walk_at "s") => `(tactic| first
  | with_reducible refine s_seq ?_
  | with_reducible refine s_asg ?_
  | with_reducible refine g_name ?_
  | ((with_reducible refine e_var (v := ?vv) ?hv ?_); (case hv => rfl))
  | with_reducible refine e_c ?_
  | with_reducible refine e_op ?_
  | with_reducible refine a_cons ?_
  | with_reducible refine a_nil ?_
  | with_reducible refine e_cb ?_
  | with_reducible refine e_call ?_
  | with_reducible refine e_callK ?_
  | with_reducible refine s_ret ?_
  | with_reducible refine s_retN ?_
  | with_reducible refine s_drop ?_
  | with_reducible refine s_ifs ?_
  | with_reducible refine s_next ?_
  | with_reducible refine s_cont ?_
  | with_reducible refine s_brk ?_
  | with_reducible refine s_par ?_
  | with_reducible refine s_par3 ?_
  | with_reducible refine e_un ?_
  | with_reducible refine e_if ?_
  | with_reducible refine e_andV ?_
  | with_reducible refine e_orV ?_
  | with_reducible refine e_notV ?_
  | with_reducible refine e_dget ?_
  | with_reducible refine e_dget2 ?_
  | with_reducible refine e_din ?_
  | with_reducible refine e_dnotin ?_
  | with_reducible refine e_then ?_
  | with_reducible refine e_bm ?_
  | with_reducible refine e_bm0 ?_
  | with_reducible refine e_sl ?_
  | with_reducible refine o_none ?_
  | with_reducible refine o_part ?_
  | with_reducible refine g_sub ?_
  | with_reducible refine g_nil ?_
  | with_reducible refine g_cons ?_
  | with_reducible refine t_test ?_
  | with_reducible refine t_B ?_
  | with_reducible refine t_and ?_
  | with_reducible refine t_or ?_
  | with_reducible refine t_not ?_
  | ((with_reducible refine r_ixI (ns := ?ns) ?hs ?h0 ?h1 ?_); (case hs => walk_at "sq"); (case h0 => omega); (case h1 => omega))
  | ((with_reducible refine r_ixL (xs := ?xs) (v := ?vv) ?hs ?hi ?_); (case hs => walk_at "sq"); (case hi => rfl))
  | ((with_reducible refine r_ixT (xs := ?xs) (v := ?vv) ?hs ?hi ?_); (case hs => walk_at "sq"); (case hi => rfl))
  | ((with_reducible refine g_setL (xs := ?xs) (j := ?jj) ?hp ?hj ?_); (case hp => walk_at "hp"); (case hj => rfl))
  | ((with_reducible refine r_mul ?hc ?_); (case hc => first | exact .inr (by decide) | exact .inl (by decide) | exact .inl ⟨by omega, by omega⟩ | exact .inr ⟨by omega, by omega⟩))
  | ((with_reducible refine r_mod ?hc ?_); (case hc => first | decide | omega))
  | ((with_reducible refine r_fdivN ?hc ?_); (case hc => exact ⟨by first | decide | omega, by first | decide | omega⟩))
  | ((with_reducible refine r_pow ?hc ?_); (case hc => first | decide | exact ⟨by decide, by decide⟩ | (unfold CPow; decide)))
  | ((with_reducible refine r_lenI (ns := ?ns) ?hs ?_); (case hs => walk_at "sq"))
  | ((with_reducible refine r_lenTI (ns := ?ns) ?hs ?_); (case hs => walk_at "sq"))
  | ((with_reducible refine r_lenL (xs := ?xs) ?hs ?_); (case hs => walk_at "sq"))
  | ((with_reducible refine r_lenT (xs := ?xs) ?hs ?_); (case hs => walk_at "sq"))
  | ((with_reducible refine r_tyL (xs := ?xs) ?hs ?_); (case hs => walk_at "sq"))
  | with_reducible refine r_add ?_
  | with_reducible refine r_sub ?_
  | with_reducible refine r_lt ?_
  | with_reducible refine r_le ?_
  | with_reducible refine r_gt ?_
  | with_reducible refine r_ge ?_
  | with_reducible refine r_eqI ?_
  | with_reducible refine r_neI ?_
  | with_reducible refine r_int ?_
  | with_reducible refine r_intb ?_
  | with_reducible refine r_neg ?_
  | with_reducible refine r_max2 ?_
  | with_reducible refine r_min2 ?_
  | with_reducible refine c_sp1 ?_
  | with_reducible refine c_sp2 ?_
  | with_reducible refine c_sp3 ?_
  | with_reducible refine c_sp4 ?_
  | with_reducible refine c_sp5 ?_
  | with_reducible refine t_end ?_
  | with_reducible refine o_part_end ?_
  | ((with_reducible refine s_aug (x := ?xx) ?hx ?_); (case hx => rfl))
  | with_reducible refine s_for ?_
  | with_reducible refine i_list ?_
  | with_reducible refine i_tup ?_
  | with_reducible refine i_rng1 ?_
  | with_reducible refine i_rng2 ?_
  | with_reducible refine i_keys ?_
  | with_reducible refine i_items ?_
  | with_reducible refine i_zip2 ?_
  | with_reducible refine i_enum2 ?_
  | ((with_reducible refine i_rng1E ?h1 ?h2 ?_); (case h1 => omega); (case h2 => omega))
  | ((with_reducible refine i_rng2E ?h1 ?_); (case h1 => omega))
  | ((with_reducible refine i_listE (xs := ?xs) ?hs ?_); (case hs => walk_at "sq"))
  | ((with_reducible refine i_tupE (xs := ?xs) ?hs ?_); (case hs => walk_at "sq"))
  | ((with_reducible refine q_isD ?hi ?_); (case hi => first | exact isD_K (by walk_at "rd") | exact isD_T (by walk_at "rd")))
  | with_reducible refine q_ref ?_
  | with_reducible refine e_dnewK ?_
  | with_reducible refine e_dnewT ?_
  | with_reducible refine e_tup ?_
  | with_reducible refine e_lst ?_
  | ((with_reducible refine r_new ?hn ?_); (case hn => exact Nat.le_of_ble_eq_true rfl))
  | with_reducible refine r_fresh fun _ _ => ?_
  | with_reducible refine s_par_end ?_
  | with_reducible refine s_par3_end ?_
  | with_reducible refine e_lc ?_
  | with_reducible refine e_dc ?_
  | with_reducible refine e_dcT ?_
  | with_reducible refine t_tyes ?_
  | with_reducible refine t_tt ?_
  | with_reducible refine t_ff ?_
  | with_reducible refine c_wipe rfl ?_)
local macro_rules | `(tactic| walk_at "S") => `(tactic| repeat' first | walk_at "s" | with_reducible refine s_dput ?_)
local macro_rules | `(tactic| walk_at "T") => `(tactic| repeat' walk_at "s")

/-! ### rows of numbers: neighbours counted -/
theorem zipT_getd {row : List Int} {i : Nat} {x y : Int} (hx : row[i]? = some x) (hy : (row.drop 1)[i]? = some y) : (zipT row)[i]? = some (x, y) := by
  unfold zipT
  rw [List.getElem?_zip_eq_some]
  exact ⟨hx, hy⟩
def countsOf (ps : List P2) : List (P2 × Int) := accs [] (ones ps)
theorem countsOf_snoc (ps : List P2) (p : P2) : countsOf (ps ++ [p]) = put (countsOf ps) p ((look (countsOf ps) p).getD 0 + 1) := by
  unfold countsOf ones accs
  rw [List.map_append, List.foldl_append]
  rfl
theorem keys_len {κ β : Type} (l : List (κ × β)) : (keys l).length = l.length := List.length_map _
theorem countsOf_len (ps : List P2) : (countsOf ps).length ≤ ps.length := by
  have h : ∀ (cs : List (P2 × Int)) (l : List (P2 × Int)), (accs l cs).length ≤ l.length + cs.length := by
    intro cs
    induction cs with
    | nil => intro l; exact Nat.le_refl _
    | cons c cs ih =>
      intro l
      have h1 := ih (acc l c.1 c.2)
      have h2 : (acc l c.1 c.2).length ≤ l.length + 1 := length_put _ _ _
      show (accs (acc l c.1 c.2) cs).length ≤ _
      rw [List.length_cons]
      omega
  have := h (ones ps) []
  unfold countsOf
  unfold ones at this ⊢
  rw [List.length_map] at this
  simpa using this
def sp_row_counts (K : PySem.W.Frag) : Sp := sp1 fun x H Q => ∃ (a : Addr) (row : List Int), x = .ref a ∧ SqT K H a (row.map V.int) ∧ row.length ≤ 100000 ∧
  ∀ t d1 d2 H', Same H H' → H' t = some (.tup [.ref d1, .ref d2]) → H' d1 = some (.dT (encP (counts row))) → H' d2 = some (.dK (encB (trues (nums row)))) → H d1 = none → H d2 = none → Q (.ref t) H'
abbrev n_row_counts : List Str := ["row", "found", "one", "other", "number"]
def t_row_counts (K : PySem.W.Frag) (w : World) : TS :=
  (tSeq (tAsg tDNewT (gName 1))
    (tSeq (tFor (LR.iZip2 true true K (tCons (tVar 0) (tCons (tSl (rSlA K) (tVar 0) (tPart (tC (.int 1))) tNoPart) tNil))) (gTup K 2 (gCons (gName 2) (gCons (gName 3) gNil)))
    (sDPut (tVar 1) (tTup (tCons (tVar 2) (tCons (tVar 3) tNil))) (tOp oAdd (tDGet2 (tVar 1) (tTup (tCons (tVar 2) (tCons (tVar 3) tNil))) (tC (.int 0))) (tC (.int 1)))))
    (tRet (tTup (tCons (tVar 1) (tCons (tDc (iTup K (tVar 0)) (gName 4) tYes (tVar 4) (tC (.bl true)) [4]) tNil))))))
theorem r_row_counts {K : PySem.W.Frag} {w : World} (vs : List V) (H : Hp) (Q : VK) (E : XK) (h : sp_row_counts K vs H Q E) : t_row_counts K w { nx := fun _ H' => Q .non H', rt := Q } (start n_row_counts vs) H := by
  obtain ⟨_, rfl, a, row, rfl, hS, hlen, q⟩ := h
  unfold t_row_counts
  walk_at "S"
  rename_i d hd
  have s0 : Same H (upd H d (.dT [])) := L2.Same.new hd
  refine r_tail (xs := row.map V.int) (by walk_at "sq") fun b H1 s1 hb => ?_
  walk_at "S"
  have hbb : SqT K H1 b ((row.drop 1).map V.int) := by
    rw [List.map_drop]
    exact hb
  have hAB : ∀ i, i < row.length - 1 → ∃ x y, row[i]? = some x ∧ (row.drop 1)[i]? = some y ∧ (row.map V.int)[i]? = some (.int x) ∧ ((row.drop 1).map V.int)[i]? = some (.int y) := fun i hi => by
    obtain ⟨x, e1, e2⟩ := map_int_at (row := row) (i := i) (by omega)
    obtain ⟨y, e3, e4⟩ := map_int_at (row := row.drop 1) (i := i) (by rw [List.length_drop]; omega)
    exact ⟨x, y, e1, e3, e2, e4⟩
  refine i_zip2E (k1 := true) (k2 := true) (xs := row.map V.int) (ys := (row.drop 1).map V.int) (show SqT K H1 a _ by walk_at "sq") (show SqT K H1 b _ from hbb) ?_
  refine for_gen (row.length - 1) (fun i σ H' => ∃ y2 y3, σ = [some (.ref a), some (.ref d), y2, y3, none] ∧ Same H H' ∧ SqT K H' b ((row.drop 1).map V.int) ∧ H' d = some (.dT (encP (countsOf ((zipT row).take i)))))
    ⟨none, none, rfl, s0.trans s1, hbb, (show H1 d = some (HO.dT []) by walk_at "hp")⟩ ?_ ?_ ?_ ?_
  · rintro i σ H' hi ⟨y2, y3, rfl, sm, hB, hd'⟩
    obtain ⟨x, y, _, _, e1, e2⟩ := hAB i hi
    exact ⟨_, _, _, _, sm.sqT hS, hB, e1, e2⟩
  · rintro σ H' ⟨y2, y3, rfl, sm, hB, hd'⟩
    exact ⟨_, _, sm.sqT hS, hB, by simp only [List.length_map, List.length_drop]; omega⟩
  · rintro i σ H' _ _ hi ⟨y2, y3, rfl, sm, hB, hd'⟩ ⟨T, u, v, rfl, hT, rfl, hu, hv⟩
    obtain ⟨x, y, f1, f2, e1, e2⟩ := hAB i hi
    obtain rfl : u = .int x := Option.some.inj ((hu _ (sm.sqT hS)).symm.trans e1)
    obtain rfl : v = .int y := Option.some.inj ((hv _ hB).symm.trans e2)
    refine g_tup (xs := [.int x, .int y]) (by walk_at "sq") rfl ?_
    walk_at "S"
    rename_i p1 h1
    refine p_get2 (f := V.int) (k := (x, y)) (by walk_at "rd") (atP_of (by walk_at "hp")) ?_
    rw [getD_map V.int _ 0]
    walk_at "S"
    rename_i p2 h2
    have hlt : (countsOf ((zipT row).take i)).length < sizeLine := by
      have := countsOf_len ((zipT row).take i)
      rw [List.length_take, zipT_len] at this
      rw [sizeLine_eq]
      omega
    refine p_put (f := V.int) (k := (x, y)) (by walk_at "hp") (atP_of (by walk_at "hp")) hlt ?_
    have ez : (zipT row).take (i + 1) = (zipT row).take i ++ [(x, y)] := by
      rw [List.take_add_one, zipT_getd f1 f2]
      rfl
    refine ⟨some (.int x), some (.int y), rfl, ?_, ?_, ?_⟩
    · exact (((sm.upd hT).upd h1).upd h2).mut hd
    · walk_at "sq"
    · rw [upd_same, ez, countsOf_snoc]
  · rintro σ H' ⟨y2, y3, rfl, sm, hB, hd'⟩
    walk_at "S"
    rename_i d2 hd2
    refine dc_w (w_tup (xs := row.map V.int)) (fun i H2 => Same H' H2 ∧ H2 d2 = some (.dK (encB (trues (dedup (row.take i)))))) ⟨L2.Same.new hd2, upd_same⟩ (fun i H2 _ p => p.1.sqT (sm.sqT hS)) ?_ ?_
    · rintro i H2 x _ hi ⟨s2, e2⟩ ⟨rfl, hx⟩
      obtain ⟨n, en, rfl⟩ := map_int_get hx
      walk_at "S"
      refine q_dcput (f := V.bl) (m := true) (R := fun H5 => Same H' H5 ∧ H5 d2 = some (.dK (encB (trues (dedup (row.take (i + 1))))))) e2 ?_ ?_
      · have h1 : (trues (dedup (row.take i))).length ≤ (row.take i).length := by
          unfold trues
          rw [List.length_map]
          exact len_dedup _
        rw [List.length_take] at h1
        rw [sizeLine_eq]
        omega
      · refine ⟨s2.mut hd2, ?_⟩
        rw [upd_same, List.take_add_one, en, put_trues]
        show _ = some (HO.dK (encB (trues (dedup (row.take i ++ [n])))))
        rw [dedup_snoc]
    · rintro H2 ⟨s2, e2⟩
      rw [List.length_map, List.take_length] at e2
      walk_at "S"
      rename_i t ht
      refine q t d d2 _ ((sm.trans s2).upd ht) upd_same ?_ ?_ hd ?_
      · refine u_old (s2 _ _ ?_) ht
        rw [hd']
        have e0 : (zipT row).take (row.length - 1) = zipT row := List.take_of_length_le (by rw [zipT_len]; exact Nat.le_refl _)
        rw [e0]
        rfl
      · exact u_old e2 ht
      · exact none_of sm hd2
end K15

end
section
set_option Elab.async false
set_option linter.all false
set_option maxRecDepth 100000
set_option maxHeartbeats 4000000
namespace K15
open PySem PySem.Spec PyProof.Rows L2 LW LM
/-! ### steps of a reading, heaps: short tactics -/
local macro_rules | `(tactic| walk_at "ne") => `(tactic| first
  | assumption
  | (apply Ne.symm; assumption)
  | exact ne_none (by assumption) (by assumption)
  | exact (ne_none (by assumption) (by assumption)).symm
  | exact ne_of (by assumption) (by assumption) (by intro z; cases z))
local macro_rules | `(tactic| walk_at "hp") => `(tactic| first
  | assumption
  | with_reducible exact upd_same
  | ((first
      | with_reducible refine u_old ?_ (by assumption)
      | with_reducible refine u_oth (by walk_at "ne") ?_
      | with_reducible refine same_app (by assumption) ?_
      | with_reducible refine kb_app (by assumption) (by walk_at "ne") ?_); walk_at "hp")
  | ((with_reducible refine u_kind ?h (by assumption) ?d); (case h => walk_at "hp"); (case d => (intro z; cases z))))
local macro_rules | `(tactic| walk_at "sq") => `(tactic| first
  | assumption
  | exact SqL.of (by walk_at "hp")
  | exact SqT.of (by walk_at "hp")
  | (with_reducible refine same_sqT (by assumption) ?_; walk_at "sq")
  | (with_reducible refine same_sqL (by assumption) ?_; walk_at "sq")
  | (with_reducible refine new_sqT (by assumption) ?_; walk_at "sq")
  | (with_reducible refine new_sqL (by assumption) ?_; walk_at "sq")
  | ((with_reducible refine mut_sqT (u := ?uu) ?hd ?hm ?_); (case hd => walk_at "hp"); (case hm => exact trivial); walk_at "sq"))
local macro_rules | `(tactic| walk_at "rd") => `(tactic| first
  | assumption
  | exact .inl (by walk_at "hp")
  | exact .inr ⟨_, by walk_at "hp"⟩)
local macro_rules | `(tactic| walk_at "s") => `(tactic| first
  | with_reducible refine s_seq ?_
  | with_reducible refine s_asg ?_
  | with_reducible refine g_name ?_
  | ((with_reducible refine e_var (v := ?vv) ?hv ?_); (case hv => rfl))
  | with_reducible refine e_c ?_
  | with_reducible refine e_op ?_
  | with_reducible refine a_cons ?_
  | with_reducible refine a_nil ?_
  | with_reducible refine e_cb ?_
  | with_reducible refine e_call ?_
  | with_reducible refine e_callK ?_
  | with_reducible refine s_ret ?_
  | with_reducible refine s_retN ?_
  | with_reducible refine s_drop ?_
  | with_reducible refine s_ifs ?_
  | with_reducible refine s_next ?_
  | with_reducible refine s_cont ?_
  | with_reducible refine s_brk ?_
  | with_reducible refine s_par ?_
  | with_reducible refine s_par3 ?_
  | with_reducible refine e_un ?_
  | with_reducible refine e_if ?_
  | with_reducible refine e_andV ?_
  | with_reducible refine e_orV ?_
  | with_reducible refine e_notV ?_
  | with_reducible refine e_dget ?_
  | with_reducible refine e_dget2 ?_
  | with_reducible refine e_din ?_
  | with_reducible refine e_dnotin ?_
  | with_reducible refine e_then ?_
  | with_reducible refine e_bm ?_
  | with_reducible refine e_bm0 ?_
  | with_reducible refine e_sl ?_
  | with_reducible refine o_none ?_
  | with_reducible refine o_part ?_
  | with_reducible refine g_sub ?_
  | with_reducible refine g_nil ?_
  | with_reducible refine g_cons ?_
  | with_reducible refine t_test ?_
  | with_reducible refine t_B ?_
  | with_reducible refine t_and ?_
  | with_reducible refine t_or ?_
  | with_reducible refine t_not ?_
  | ((with_reducible refine r_ixI (ns := ?ns) ?hs ?h0 ?h1 ?_); (case hs => walk_at "sq"); (case h0 => omega); (case h1 => omega))
  | ((with_reducible refine r_ixL (xs := ?xs) (v := ?vv) ?hs ?hi ?_); (case hs => walk_at "sq"); (case hi => rfl))
  | ((with_reducible refine r_ixT (xs := ?xs) (v := ?vv) ?hs ?hi ?_); (case hs => walk_at "sq"); (case hi => rfl))
  | ((with_reducible refine g_setL (xs := ?xs) (j := ?jj) ?hp ?hj ?_); (case hp => walk_at "hp"); (case hj => rfl))
  | ((with_reducible refine r_mul ?hc ?_); (case hc => first | exact .inr (by decide) | exact .inl (by decide) | exact .inl ⟨by omega, by omega⟩ | exact .inr ⟨by omega, by omega⟩))
  | ((with_reducible refine r_mod ?hc ?_); (case hc => first | decide | omega))
  | ((with_reducible refine r_fdivN ?hc ?_); (case hc => exact ⟨by first | decide | omega, by first | decide | omega⟩))
  | ((with_reducible refine r_pow ?hc ?_); (case hc => first | decide | exact ⟨by decide, by decide⟩ | (unfold CPow; decide)))
  | ((with_reducible refine r_lenI (ns := ?ns) ?hs ?_); (case hs => walk_at "sq"))
  | ((with_reducible refine r_lenTI (ns := ?ns) ?hs ?_); (case hs => walk_at "sq"))
  | ((with_reducible refine r_lenL (xs := ?xs) ?hs ?_); (case hs => walk_at "sq"))
  | ((with_reducible refine r_lenT (xs := ?xs) ?hs ?_); (case hs => walk_at "sq"))
  | ((with_reducible refine r_tyL (xs := ?xs) ?hs ?_); (case hs => walk_at "sq"))
  | with_reducible refine r_add ?_
  | with_reducible refine r_sub ?_
  | with_reducible refine r_lt ?_
  | with_reducible refine r_le ?_
  | with_reducible refine r_gt ?_
  | with_reducible refine r_ge ?_
  | with_reducible refine r_eqI ?_
  | with_reducible refine r_neI ?_
  | with_reducible refine r_int ?_
  | with_reducible refine r_intb ?_
  | with_reducible refine r_neg ?_
  | with_reducible refine r_max2 ?_
  | with_reducible refine r_min2 ?_
  | with_reducible refine c_sp1 ?_
  | with_reducible refine c_sp2 ?_
  | with_reducible refine c_sp3 ?_
  | with_reducible refine c_sp4 ?_
  | with_reducible refine c_sp5 ?_
  | with_reducible refine t_end ?_
  | with_reducible refine o_part_end ?_
  | ((with_reducible refine s_aug (x := ?xx) ?hx ?_); (case hx => rfl))
  | with_reducible refine s_for ?_
  | with_reducible refine i_list ?_
  | with_reducible refine i_tup ?_
  | with_reducible refine i_rng1 ?_
  | with_reducible refine i_rng2 ?_
  | with_reducible refine i_keys ?_
  | with_reducible refine i_items ?_
  | with_reducible refine i_zip2 ?_
  | with_reducible refine i_enum2 ?_
  | ((with_reducible refine i_rng1E ?h1 ?h2 ?_); (case h1 => omega); (case h2 => omega))
  | ((with_reducible refine i_rng2E ?h1 ?_); (case h1 => omega))
  | ((with_reducible refine i_listE (xs := ?xs) ?hs ?_); (case hs => walk_at "sq"))
  | ((with_reducible refine i_tupE (xs := ?xs) ?hs ?_); (case hs => walk_at "sq"))
  | ((with_reducible refine q_isD ?hi ?_); (case hi => first | exact isD_K (by walk_at "rd") | exact isD_T (by walk_at "rd")))
  | with_reducible refine q_ref ?_
  | with_reducible refine e_dnewK ?_
  | with_reducible refine e_dnewT ?_
  | with_reducible refine e_tup ?_
  | with_reducible refine e_lst ?_
  | ((with_reducible refine r_new ?hn ?_); (case hn => exact Nat.le_of_ble_eq_true rfl))
  | with_reducible refine r_fresh fun _ _ => ?_
  | with_reducible refine s_par_end ?_
  | with_reducible refine s_par3_end ?_
  | with_reducible refine e_lc ?_
  | with_reducible refine e_dc ?_
  | with_reducible refine e_dcT ?_
  | with_reducible refine t_tyes ?_
  | with_reducible refine t_tt ?_
  | with_reducible refine t_ff ?_
  | with_reducible refine c_wipe rfl ?_)
local macro_rules | `(tactic| walk_at "S") => `(tactic| repeat' first | walk_at "s" | with_reducible refine s_dput ?_)
local macro_rules | `(tactic| walk_at "T") => `(tactic| repeat' walk_at "s")

theorem c_row_counts {K : PySem.W.Frag} {H : Hp} {r : Addr} {row : List Int} {Q : VK} {E : XK} (hS : SqT K H r (row.map V.int)) (hl : row.length ≤ 100000)
    (h : ∀ t d1 d2 H', Same H H' → H' t = some (.tup [.ref d1, .ref d2]) → H' d1 = some (.dT (encP (counts row))) → H' d2 = some (.dK (encB (trues (nums row)))) → Q (.ref t) H') : sp_row_counts K ([.ref r] ++ []) H Q E :=
  ⟨_, rfl, r, row, rfl, hS, hl, fun t d1 d2 H' a b c d _ _ => h t d1 d2 H' a b c d⟩
theorem c_left_numbers {K : PySem.W.Frag} {H : Hp} {d1 d2 : Addr} {row : List Int} {Q : VK} {E : XK} (h1 : H d1 = some (.dT (encP (counts row)))) (h2 : H d2 = some (.dK (encB (trues (nums row))))) (hl : row.length ≤ 100000)
    (h : ∀ (t : Addr) H', Same H H' → H' t = some (.tup ((leftNums row).map V.int)) → Q (.ref t) H') : sp_left_numbers K ([.ref d1, .ref d2] ++ []) H Q E :=
  ⟨_, _, rfl, d1, d2, row, rfl, rfl, h1, h2, hl, h⟩
theorem c_row_pairsN {K : PySem.W.Frag} {H : Hp} {r lf : Addr} {row ls : List Int} {us : Int} {Q : VK} {E : XK} (hr : H r = some (.tup (row.map V.int))) (hlf : SqT K H lf (ls.map V.int)) (hl : row.length ≤ 100000)
    (h : ∀ (t t1 t2 : Addr) (bs : List Addr) H', Same H H' → H' t = some (.tup [.ref t1, .ref t2, .int (us + ((LM.pairsOf row (inL ls)).length : Nat))]) → H' t1 = some (.tup ((prow (LM.pairsOf row (inL ls)) us row).map V.int)) → H' t2 = some (.tup (bs.map V.ref)) → LS.AtPs H' bs (LM.pairsOf row (inL ls)) → Q (.ref t) H') :
    sp_row_pairs K ([.ref r, .ref lf, .int us] ++ []) H Q E := ⟨_, _, _, rfl, r, lf, row, ls, us, rfl, rfl, rfl, hr, hlf, hl, h⟩
theorem c_row_pairs {K : PySem.W.Frag} {H : Hp} {r lf : Addr} {row ls : List Int} {us : Int} {Q : VK} {E : XK} (hr : H r = some (.tup (row.map V.int))) (hlf : SqT K H lf (ls.map V.int)) (hl : row.length ≤ 100000)
    (h : ∀ (t t1 t2 : Addr) (bs : List Addr) (n : Int) H', Same H H' → H' t = some (.tup [.ref t1, .ref t2, .int n]) → H' t1 = some (.tup ((prow (LM.pairsOf row (inL ls)) us row).map V.int)) → H' t2 = some (.tup (bs.map V.ref)) → LS.AtPs H' bs (LM.pairsOf row (inL ls)) → Q (.ref t) H') :
    sp_row_pairs K ([.ref r, .ref lf, .int us] ++ []) H Q E := c_row_pairsN hr hlf hl fun t t1 t2 bs H' => h t t1 t2 bs _ H'
def sp_sides_of (K : PySem.W.Frag) : Sp := sp1 fun x H Q => ∃ (r : Addr) (row : List Int), x = .ref r ∧ SqT K H r (row.map V.int) ∧ row.length ≤ 100000 ∧
  ∀ (t : Addr) H', Same H H' → H' t = some (.tup ((leftNums row).map V.int)) → Q (.ref t) H'
abbrev n_sides_of : List Str := ["row", "counts", "numbers"]
def t_sides_of (K : PySem.W.Frag) (w : World) : TS :=
  (tSeq (tAsg (tCall (sp_row_counts K) [] E0 (tCons (tVar 0) tNil)) (gTup K 2 (gCons (gName 1) (gCons (gName 2) gNil))))
    (tRet (tCall (sp_left_numbers K) [] E0 (tCons (tVar 1) (tCons (tVar 2) tNil)))))
theorem r_sides_of {K : PySem.W.Frag} {w : World} (vs : List V) (H : Hp) (Q : VK) (E : XK) (h : sp_sides_of K vs H Q E) : t_sides_of K w { nx := fun _ H' => Q .non H', rt := Q } (start n_sides_of vs) H := by
  obtain ⟨_, rfl, r, row, rfl, hS, hl, q⟩ := h
  unfold t_sides_of
  walk_at "T"
  refine c_row_counts hS hl fun t d1 d2 H1 s1 e e1 e2 => ?_
  refine g_tup (xs := [.ref d1, .ref d2]) (SqT.of e) rfl ?_
  walk_at "T"
  refine c_left_numbers e1 e2 hl fun t H2 s2 e3 => ?_
  exact q t H2 (s1.trans s2) e3
end K15

end
section
set_option Elab.async false
set_option linter.all false
set_option maxRecDepth 100000
set_option maxHeartbeats 4000000
namespace K15
open PySem PySem.Spec PyProof.Rows L2 LW LM
/-! ### steps of a reading, heaps: short tactics -/
local macro_rules | `(tactic| walk_at "ne") => `(tactic| first
  | assumption
  | (apply Ne.symm; assumption)
  | exact ne_none (by assumption) (by assumption)
  | exact (ne_none (by assumption) (by assumption)).symm
  | exact ne_of (by assumption) (by assumption) (by intro z; cases z))
local macro_rules | `(tactic| walk_at "hp") => `(tactic| first
  | assumption
  | with_reducible exact upd_same
  | ((first
      | with_reducible refine u_old ?_ (by assumption)
      | with_reducible refine u_oth (by walk_at "ne") ?_
      | with_reducible refine same_app (by assumption) ?_
      | with_reducible refine kb_app (by assumption) (by walk_at "ne") ?_); walk_at "hp")
  | ((with_reducible refine u_kind ?h (by assumption) ?d); (case h => walk_at "hp"); (case d => (intro z; cases z))))
local macro_rules | `(tactic| walk_at "sq") => `(tactic| first
  | assumption
  | exact SqL.of (by walk_at "hp")
  | exact SqT.of (by walk_at "hp")
  | (with_reducible refine same_sqT (by assumption) ?_; walk_at "sq")
  | (with_reducible refine same_sqL (by assumption) ?_; walk_at "sq")
  | (with_reducible refine new_sqT (by assumption) ?_; walk_at "sq")
  | (with_reducible refine new_sqL (by assumption) ?_; walk_at "sq")
  | ((with_reducible refine mut_sqT (u := ?uu) ?hd ?hm ?_); (case hd => walk_at "hp"); (case hm => exact trivial); walk_at "sq"))
local macro_rules | `(tactic| walk_at "rd") => `(tactic| first
  | assumption
  | exact .inl (by walk_at "hp")
  | exact .inr ⟨_, by walk_at "hp"⟩)
local macro_rules | `(tactic| walk_at "s") => `(tactic| first
  | with_reducible refine s_seq ?_
  | with_reducible refine s_asg ?_
  | with_reducible refine g_name ?_
  | ((with_reducible refine e_var (v := ?vv) ?hv ?_); (case hv => rfl))
  | with_reducible refine e_c ?_
  | with_reducible refine e_op ?_
  | with_reducible refine a_cons ?_
  | with_reducible refine a_nil ?_
  | with_reducible refine e_cb ?_
  | with_reducible refine e_call ?_
  | with_reducible refine e_callK ?_
  | with_reducible refine s_ret ?_
  | with_reducible refine s_retN ?_
  | with_reducible refine s_drop ?_
  | with_reducible refine s_ifs ?_
  | with_reducible refine s_next ?_
  | with_reducible refine s_cont ?_
  | with_reducible refine s_brk ?_
  | with_reducible refine s_par ?_
  | with_reducible refine s_par3 ?_
  | with_reducible refine e_un ?_
  | with_reducible refine e_if ?_
  | with_reducible refine e_andV ?_
  | with_reducible refine e_orV ?_
  | with_reducible refine e_notV ?_
  | with_reducible refine e_dget ?_
  | with_reducible refine e_dget2 ?_
  | with_reducible refine e_din ?_
  | with_reducible refine e_dnotin ?_
  | with_reducible refine e_then ?_
  | with_reducible refine e_bm ?_
  | with_reducible refine e_bm0 ?_
  | with_reducible refine e_sl ?_
  | with_reducible refine o_none ?_
  | with_reducible refine o_part ?_
  | with_reducible refine g_sub ?_
  | with_reducible refine g_nil ?_
  | with_reducible refine g_cons ?_
  | with_reducible refine t_test ?_
  | with_reducible refine t_B ?_
  | with_reducible refine t_and ?_
  | with_reducible refine t_or ?_
  | with_reducible refine t_not ?_
  | ((with_reducible refine r_ixI (ns := ?ns) ?hs ?h0 ?h1 ?_); (case hs => walk_at "sq"); (case h0 => omega); (case h1 => omega))
  | ((with_reducible refine r_ixL (xs := ?xs) (v := ?vv) ?hs ?hi ?_); (case hs => walk_at "sq"); (case hi => rfl))
  | ((with_reducible refine r_ixT (xs := ?xs) (v := ?vv) ?hs ?hi ?_); (case hs => walk_at "sq"); (case hi => rfl))
  | ((with_reducible refine g_setL (xs := ?xs) (j := ?jj) ?hp ?hj ?_); (case hp => walk_at "hp"); (case hj => rfl))
  | ((with_reducible refine r_mul ?hc ?_); (case hc => first | exact .inr (by decide) | exact .inl (by decide) | exact .inl ⟨by omega, by omega⟩ | exact .inr ⟨by omega, by omega⟩))
  | ((with_reducible refine r_mod ?hc ?_); (case hc => first | decide | omega))
  | ((with_reducible refine r_fdivN ?hc ?_); (case hc => exact ⟨by first | decide | omega, by first | decide | omega⟩))
  | ((with_reducible refine r_pow ?hc ?_); (case hc => first | decide | exact ⟨by decide, by decide⟩ | (unfold CPow; decide)))
  | ((with_reducible refine r_lenI (ns := ?ns) ?hs ?_); (case hs => walk_at "sq"))
  | ((with_reducible refine r_lenTI (ns := ?ns) ?hs ?_); (case hs => walk_at "sq"))
  | ((with_reducible refine r_lenL (xs := ?xs) ?hs ?_); (case hs => walk_at "sq"))
  | ((with_reducible refine r_lenT (xs := ?xs) ?hs ?_); (case hs => walk_at "sq"))
  | ((with_reducible refine r_tyL (xs := ?xs) ?hs ?_); (case hs => walk_at "sq"))
  | with_reducible refine r_add ?_
  | with_reducible refine r_sub ?_
  | with_reducible refine r_lt ?_
  | with_reducible refine r_le ?_
  | with_reducible refine r_gt ?_
  | with_reducible refine r_ge ?_
  | with_reducible refine r_eqI ?_
  | with_reducible refine r_neI ?_
  | with_reducible refine r_int ?_
  | with_reducible refine r_intb ?_
  | with_reducible refine r_neg ?_
  | with_reducible refine r_max2 ?_
  | with_reducible refine r_min2 ?_
  | with_reducible refine c_sp1 ?_
  | with_reducible refine c_sp2 ?_
  | with_reducible refine c_sp3 ?_
  | with_reducible refine c_sp4 ?_
  | with_reducible refine c_sp5 ?_
  | with_reducible refine t_end ?_
  | with_reducible refine o_part_end ?_
  | ((with_reducible refine s_aug (x := ?xx) ?hx ?_); (case hx => rfl))
  | with_reducible refine s_for ?_
  | with_reducible refine i_list ?_
  | with_reducible refine i_tup ?_
  | with_reducible refine i_rng1 ?_
  | with_reducible refine i_rng2 ?_
  | with_reducible refine i_keys ?_
  | with_reducible refine i_items ?_
  | with_reducible refine i_zip2 ?_
  | with_reducible refine i_enum2 ?_
  | ((with_reducible refine i_rng1E ?h1 ?h2 ?_); (case h1 => omega); (case h2 => omega))
  | ((with_reducible refine i_rng2E ?h1 ?_); (case h1 => omega))
  | ((with_reducible refine i_listE (xs := ?xs) ?hs ?_); (case hs => walk_at "sq"))
  | ((with_reducible refine i_tupE (xs := ?xs) ?hs ?_); (case hs => walk_at "sq"))
  | ((with_reducible refine q_isD ?hi ?_); (case hi => first | exact isD_K (by walk_at "rd") | exact isD_T (by walk_at "rd")))
  | with_reducible refine q_ref ?_
  | with_reducible refine e_dnewK ?_
  | with_reducible refine e_dnewT ?_
  | with_reducible refine e_tup ?_
  | with_reducible refine e_lst ?_
  | ((with_reducible refine r_new ?hn ?_); (case hn => exact Nat.le_of_ble_eq_true rfl))
  | with_reducible refine r_fresh fun _ _ => ?_
  | with_reducible refine s_par_end ?_
  | with_reducible refine s_par3_end ?_
  | with_reducible refine e_lc ?_
  | with_reducible refine e_dc ?_
  | with_reducible refine e_dcT ?_
  | with_reducible refine t_tyes ?_
  | with_reducible refine t_tt ?_
  | with_reducible refine t_ff ?_
  | with_reducible refine c_wipe rfl ?_)
local macro_rules | `(tactic| walk_at "S") => `(tactic| repeat' first | walk_at "s" | with_reducible refine s_dput ?_)
local macro_rules | `(tactic| walk_at "T") => `(tactic| repeat' walk_at "s")

theorem atPs_mut {H : Hp} {f : Addr} {bs : List Addr} {ps : List P2} {xs : List V} {o : HO} (hf : H f = some (.lst xs)) (h : LS.AtPs H bs ps) : LS.AtPs (upd H f o) bs ps := by
  induction h with
  | nil => exact .nil
  | cons r _ ih => exact .cons (u_oth (ne_of (show H _ = some _ from r) hf fun z => nomatch z) r) ih
theorem atPs_snoc {H : Hp} {bs : List Addr} {ps : List P2} {b : Addr} {p : P2} (h : LS.AtPs H bs ps) (hb : LS.AtP H b p) : LS.AtPs H (bs ++ [b]) (ps ++ [p]) := by
  induction h with
  | nil => exact .cons hb .nil
  | cons r _ ih => exact .cons r ih
theorem atPs_last {H : Hp} {bs : List Addr} {b : Addr} {rs : List P2} (h : LS.AtPs H (bs ++ [b]) rs) : ∃ ps p, rs = ps ++ [p] ∧ LS.AtPs H bs ps ∧ LS.AtP H b p := by
  induction bs generalizing rs with
  | nil =>
    cases h with
    | cons r t =>
      cases t
      exact ⟨[], _, rfl, .nil, r⟩
  | cons c bs ih =>
    cases h with
    | cons r t =>
      obtain ⟨ps, p, e, h1, h2⟩ := ih t
      exact ⟨_ :: ps, p, by rw [e]; rfl, .cons r h1, h2⟩
theorem t_truL {K : PySem.W.Frag} {H : Hp} {p : Addr} {xs : List V} {R : Bool → Prop} (hs : SqL K H p xs) (h : R (!xs.isEmpty)) : ∃ k, TruV K (.ref p) H k ∧ R k := ⟨_, .inl ⟨xs, hs, rfl⟩, h⟩
theorem ix_last {n : Nat} : ixN (n + 1) (-1) = some n := by
  unfold ixN
  rw [if_neg (by decide), if_pos (by omega)]
  congr 1
  omega
theorem at_lastV {xs : List V} {v : V} : atI (xs ++ [v]) (-1) = some v := by
  unfold atI
  rw [List.length_append, List.length_singleton, ix_last]
  show (xs ++ [v])[xs.length]? = some v
  rw [List.getElem?_append_right (Nat.le_refl _), Nat.sub_self]
  rfl
theorem set_last {xs : List V} {v u : V} : (xs ++ [v]).set xs.length u = xs ++ [u] := by
  rw [List.set_append_right _ _ (Nat.le_refl _), Nat.sub_self]
  rfl
def sp_blocks_of (K : PySem.W.Frag) : Sp := sp1 fun x H Q => ∃ (r : Addr) (row : List Int), x = .ref r ∧ SqT K H r (row.map V.int) ∧ row.length ≤ 100000 ∧
  ∀ (f : Addr) (bs : List Addr) H', Same H H' → H' f = some (.lst (bs.map V.ref)) → LS.AtPs H' bs (runsOf row) → Q (.ref f) H'
theorem c_blocks_of {K : PySem.W.Frag} {H : Hp} {r : Addr} {row : List Int} {Q : VK} {E : XK} (hS : SqT K H r (row.map V.int)) (hl : row.length ≤ 100000) (h : ∀ (f : Addr) (bs : List Addr) H', Same H H' → H' f = some (.lst (bs.map V.ref)) → LS.AtPs H' bs (runsOf row) → Q (.ref f) H') :
    sp_blocks_of K ([.ref r] ++ []) H Q E := ⟨_, rfl, r, row, rfl, hS, hl, h⟩
abbrev n_blocks_of : List Str := ["row", "found", "number"]
def t_blocks_of (K : PySem.W.Frag) (w : World) : TS :=
  (tSeq (tAsg (tLst tNil) (gName 1))
    (tSeq (tFor (iTup K (tVar 0)) (gName 2)
    (tIfS (tAnd (oTru K (tVar 1)) (tTest (tOp rEq (tOp (rIxT K) (tOp (rIxL K) (tVar 1) (tUn oNeg (tC (.int 1)))) (tC (.int 0))) (tVar 2)))) (tAsg (tTup (tCons (tVar 2) (tCons (tOp oAdd (tOp (rIxT K) (tOp (rIxL K) (tVar 1) (tUn oNeg (tC (.int 1)))) (tC (.int 1))) (tC (.int 1))) tNil))) (gSub (tVar 1) (tUn oNeg (tC (.int 1))) rSetL)) (tDrop (tBM K "list" rAppend (tVar 1) (tCons (tTup (tCons (tVar 2) (tCons (tC (.int 1)) tNil))) tNil)))))
    (tRet (tVar 1))))
theorem r_blocks_of {K : PySem.W.Frag} {w : World} (vs : List V) (H : Hp) (Q : VK) (E : XK) (h : sp_blocks_of K vs H Q E) : t_blocks_of K w { nx := fun _ H' => Q .non H', rt := Q } (start n_blocks_of vs) H := by
  obtain ⟨_, rfl, r, row, rfl, hS, hlen, q⟩ := h
  unfold t_blocks_of
  walk_at "T"
  rename_i f hf
  refine for_w (w_tup (xs := row.map V.int)) (fun i σ H' => ∃ (y2 : Option V) (bs : List Addr), σ = [some (.ref r), some (.ref f), y2] ∧ Same H H' ∧ H' f = some (.lst (bs.map V.ref)) ∧ LS.AtPs H' bs (runsOf (row.take i)))
    ⟨none, [], rfl, L2.Same.new hf, upd_same, .nil⟩ ?_ ?_ ?_
  · rintro i σ H' _ ⟨y2, bs, rfl, sm, _⟩
    exact sm.sqT hS
  · rintro i σ _ x H' hi ⟨y2, bs, rfl, sm, h', hat⟩ ⟨rfl, hx⟩
    obtain ⟨n, en, rfl⟩ := map_int_get hx
    rw [List.length_map] at hi
    have hbl : bs.length ≤ i := by
      have h1 := atPs_len hat
      have h2 := runs_len (row.take i)
      rw [List.length_take] at h2
      omega
    rw [take_snoc en, runs_snoc]
    generalize runsOf (row.take i) = rs at hat
    have new : ∀ p, H' p = none → (∃ (y2' : Option V) (bs' : List Addr), [some (V.ref r), some (.ref f), some (.int n)] = [some (.ref r), some (.ref f), y2'] ∧ Same H (upd (upd H' p (.tup [.int n, .int 1])) f (.lst (bs.map V.ref ++ [.ref p]))) ∧ upd (upd H' p (.tup [.int n, .int 1])) f (.lst (bs.map V.ref ++ [.ref p])) f = some (.lst (bs'.map V.ref)) ∧ LS.AtPs (upd (upd H' p (.tup [.int n, .int 1])) f (.lst (bs.map V.ref ++ [.ref p]))) bs' (rs ++ [(n, 1)])) := fun p hp => by
      refine ⟨_, bs ++ [p], rfl, (sm.upd hp).mut hf, ?_, ?_⟩
      · rw [upd_same, List.map_append]
        rfl
      · exact atPs_mut (u_old h' hp) (atPs_snoc (atPs_same (L2.Same.new hp) hat) (atP_of upd_same))
    walk_at "T"
    refine t_truL (SqL.of h') ?_
    rcases List.eq_nil_or_concat bs with rfl | ⟨bs0, b, rfl⟩
    · cases hat
      rw [push_nil]
      show if false = true then _ else _
      walk_at "T"
      rename_i p hp
      refine r_app (u_old h' hp) (by show 0 < sizeLine; rw [sizeLine_eq]; omega) ?_
      walk_at "T"
      exact new p hp
    · rw [List.concat_eq_append] at hat h' new hbl ⊢
      obtain ⟨rs0, ⟨m, c⟩, rfl, hat0, hb⟩ := atPs_last hat
      rw [push_last]
      have hb' : H' b = some (.tup [.int m, .int c]) := hb
      have h'' : H' f = some (.lst (bs0.map V.ref ++ [.ref b])) := by rw [h', List.map_append]; rfl
      have hne : (!((bs0 ++ [b]).map V.ref).isEmpty) = true := by
        rw [List.map_append]
        cases bs0 <;> rfl
      rw [hne]
      walk_at "T"
      refine r_ixL (SqL.of h'') at_lastV ?_
      walk_at "T"
      refine t_iteD (fun e => ?_) (fun e => ?_)
      · rw [if_pos e]
        walk_at "T"
        refine r_ixL (SqL.of h'') at_lastV ?_
        walk_at "T"
        rename_i p hp
        refine g_setL (j := bs0.length) (u_old h'' hp) ?_ ?_
        · rw [List.length_append, List.length_map]
          exact ix_last
        · walk_at "T"
          have es : (bs0.map V.ref ++ [V.ref b]).set bs0.length (.ref p) = (bs0 ++ [p]).map V.ref := by
            have := set_last (xs := bs0.map V.ref) (v := .ref b) (u := .ref p)
            rw [List.length_map] at this
            rw [this, List.map_append]
            rfl
          refine ⟨_, bs0 ++ [p], rfl, (sm.upd hp).mut hf, ?_, ?_⟩
          · rw [upd_same, es]
          · exact atPs_mut (u_old h'' hp) (atPs_snoc (atPs_same (L2.Same.new hp) hat0) (atP_of upd_same))
      · rw [if_neg e]
        walk_at "T"
        rename_i p hp
        refine r_app (u_old h' hp) (by rw [List.length_map, sizeLine_eq]; omega) ?_
        walk_at "T"
        exact new p hp
  · rintro σ H' ⟨y2, bs, rfl, sm, h', hat⟩
    rw [List.length_map, List.take_length] at hat
    walk_at "T"
    exact q f bs H' sm h' hat
end K15

end
section
set_option Elab.async false
set_option linter.all false
set_option maxRecDepth 100000
set_option maxHeartbeats 4000000
namespace K15
open PySem PySem.Spec PyProof.Rows L2 LW LM
/-! ### steps of a reading, heaps: short tactics -/
local macro_rules | `(tactic| walk_at "ne") => `(tactic| first
  | assumption
  | (apply Ne.symm; assumption)
  | exact ne_none (by assumption) (by assumption)
  | exact (ne_none (by assumption) (by assumption)).symm
  | exact ne_of (by assumption) (by assumption) (by intro z; cases z))
local macro_rules | `(tactic| walk_at "hp") => `(tactic| first
  | assumption
  | with_reducible exact upd_same
  | ((first
      | with_reducible refine u_old ?_ (by assumption)
      | with_reducible refine u_oth (by walk_at "ne") ?_
      | with_reducible refine same_app (by assumption) ?_
      | with_reducible refine kb_app (by assumption) (by walk_at "ne") ?_); walk_at "hp")
  | ((with_reducible refine u_kind ?h (by assumption) ?d); (case h => walk_at "hp"); (case d => (intro z; cases z))))
local macro_rules | `(tactic| walk_at "sq") => `(tactic| first
  | assumption
  | exact SqL.of (by walk_at "hp")
  | exact SqT.of (by walk_at "hp")
  | (with_reducible refine same_sqT (by assumption) ?_; walk_at "sq")
  | (with_reducible refine same_sqL (by assumption) ?_; walk_at "sq")
  | (with_reducible refine new_sqT (by assumption) ?_; walk_at "sq")
  | (with_reducible refine new_sqL (by assumption) ?_; walk_at "sq")
  | ((with_reducible refine mut_sqT (u := ?uu) ?hd ?hm ?_); (case hd => walk_at "hp"); (case hm => exact trivial); walk_at "sq"))
local macro_rules | `(tactic| walk_at "rd") => `(tactic| first
  | assumption
  | exact .inl (by walk_at "hp")
  | exact .inr ⟨_, by walk_at "hp"⟩)
local macro_rules | `(tactic| walk_at "s") => `(tactic| first
  | with_reducible refine s_seq ?_
  | with_reducible refine s_asg ?_
  | with_reducible refine g_name ?_
  | ((with_reducible refine e_var (v := ?vv) ?hv ?_); (case hv => rfl))
  | with_reducible refine e_c ?_
  | with_reducible refine e_op ?_
  | with_reducible refine a_cons ?_
  | with_reducible refine a_nil ?_
  | with_reducible refine e_cb ?_
  | with_reducible refine e_call ?_
  | with_reducible refine e_callK ?_
  | with_reducible refine s_ret ?_
  | with_reducible refine s_retN ?_
  | with_reducible refine s_drop ?_
  | with_reducible refine s_ifs ?_
  | with_reducible refine s_next ?_
  | with_reducible refine s_cont ?_
  | with_reducible refine s_brk ?_
  | with_reducible refine s_par ?_
  | with_reducible refine s_par3 ?_
  | with_reducible refine e_un ?_
  | with_reducible refine e_if ?_
  | with_reducible refine e_andV ?_
  | with_reducible refine e_orV ?_
  | with_reducible refine e_notV ?_
  | with_reducible refine e_dget ?_
  | with_reducible refine e_dget2 ?_
  | with_reducible refine e_din ?_
  | with_reducible refine e_dnotin ?_
  | with_reducible refine e_then ?_
  | with_reducible refine e_bm ?_
  | with_reducible refine e_bm0 ?_
  | with_reducible refine e_sl ?_
  | with_reducible refine o_none ?_
  | with_reducible refine o_part ?_
  | with_reducible refine g_sub ?_
  | with_reducible refine g_nil ?_
  | with_reducible refine g_cons ?_
  | with_reducible refine t_test ?_
  | with_reducible refine t_B ?_
  | with_reducible refine t_and ?_
  | with_reducible refine t_or ?_
  | with_reducible refine t_not ?_
  | ((with_reducible refine r_ixI (ns := ?ns) ?hs ?h0 ?h1 ?_); (case hs => walk_at "sq"); (case h0 => omega); (case h1 => omega))
  | ((with_reducible refine r_ixL (xs := ?xs) (v := ?vv) ?hs ?hi ?_); (case hs => walk_at "sq"); (case hi => rfl))
  | ((with_reducible refine r_ixT (xs := ?xs) (v := ?vv) ?hs ?hi ?_); (case hs => walk_at "sq"); (case hi => rfl))
  | ((with_reducible refine g_setL (xs := ?xs) (j := ?jj) ?hp ?hj ?_); (case hp => walk_at "hp"); (case hj => rfl))
  | ((with_reducible refine r_mul ?hc ?_); (case hc => first | exact .inr (by decide) | exact .inl (by decide) | exact .inl ⟨by omega, by omega⟩ | exact .inr ⟨by omega, by omega⟩))
  | ((with_reducible refine r_mod ?hc ?_); (case hc => first | decide | omega))
  | ((with_reducible refine r_fdivN ?hc ?_); (case hc => exact ⟨by first | decide | omega, by first | decide | omega⟩))
  | ((with_reducible refine r_pow ?hc ?_); (case hc => first | decide | exact ⟨by decide, by decide⟩ | (unfold CPow; decide)))
  | ((with_reducible refine r_lenI (ns := ?ns) ?hs ?_); (case hs => walk_at "sq"))
  | ((with_reducible refine r_lenTI (ns := ?ns) ?hs ?_); (case hs => walk_at "sq"))
  | ((with_reducible refine r_lenL (xs := ?xs) ?hs ?_); (case hs => walk_at "sq"))
  | ((with_reducible refine r_lenT (xs := ?xs) ?hs ?_); (case hs => walk_at "sq"))
  | ((with_reducible refine r_tyL (xs := ?xs) ?hs ?_); (case hs => walk_at "sq"))
  | with_reducible refine r_add ?_
  | with_reducible refine r_sub ?_
  | with_reducible refine r_lt ?_
  | with_reducible refine r_le ?_
  | with_reducible refine r_gt ?_
  | with_reducible refine r_ge ?_
  | with_reducible refine r_eqI ?_
  | with_reducible refine r_neI ?_
  | with_reducible refine r_int ?_
  | with_reducible refine r_intb ?_
  | with_reducible refine r_neg ?_
  | with_reducible refine r_max2 ?_
  | with_reducible refine r_min2 ?_
  | with_reducible refine c_sp1 ?_
  | with_reducible refine c_sp2 ?_
  | with_reducible refine c_sp3 ?_
  | with_reducible refine c_sp4 ?_
  | with_reducible refine c_sp5 ?_
  | with_reducible refine t_end ?_
  | with_reducible refine o_part_end ?_
  | ((with_reducible refine s_aug (x := ?xx) ?hx ?_); (case hx => rfl))
  | with_reducible refine s_for ?_
  | with_reducible refine i_list ?_
  | with_reducible refine i_tup ?_
  | with_reducible refine i_rng1 ?_
  | with_reducible refine i_rng2 ?_
  | with_reducible refine i_keys ?_
  | with_reducible refine i_items ?_
  | with_reducible refine i_zip2 ?_
  | with_reducible refine i_enum2 ?_
  | ((with_reducible refine i_rng1E ?h1 ?h2 ?_); (case h1 => omega); (case h2 => omega))
  | ((with_reducible refine i_rng2E ?h1 ?_); (case h1 => omega))
  | ((with_reducible refine i_listE (xs := ?xs) ?hs ?_); (case hs => walk_at "sq"))
  | ((with_reducible refine i_tupE (xs := ?xs) ?hs ?_); (case hs => walk_at "sq"))
  | ((with_reducible refine q_isD ?hi ?_); (case hi => first | exact isD_K (by walk_at "rd") | exact isD_T (by walk_at "rd")))
  | with_reducible refine q_ref ?_
  | with_reducible refine e_dnewK ?_
  | with_reducible refine e_dnewT ?_
  | with_reducible refine e_tup ?_
  | with_reducible refine e_lst ?_
  | ((with_reducible refine r_new ?hn ?_); (case hn => exact Nat.le_of_ble_eq_true rfl))
  | with_reducible refine r_fresh fun _ _ => ?_
  | with_reducible refine s_par_end ?_
  | with_reducible refine s_par3_end ?_
  | with_reducible refine e_lc ?_
  | with_reducible refine e_dc ?_
  | with_reducible refine e_dcT ?_
  | with_reducible refine t_tyes ?_
  | with_reducible refine t_tt ?_
  | with_reducible refine t_ff ?_
  | with_reducible refine c_wipe rfl ?_)
local macro_rules | `(tactic| walk_at "S") => `(tactic| repeat' first | walk_at "s" | with_reducible refine s_dput ?_)
local macro_rules | `(tactic| walk_at "T") => `(tactic| repeat' walk_at "s")

def sp_row_blocks (K : PySem.W.Frag) : Sp := sp2 fun x y H Q => ∃ (r : Addr) (row : List Int) (us : Int), x = .ref r ∧ y = .int us ∧ SqT K H r (row.map V.int) ∧ row.length ≤ 100000 ∧
  ∀ (t t1 t2 : Addr) (bs : List Addr) H', Same H H' → H' t = some (.tup [.ref t1, .ref t2, .int (us + ((blocksOf row).length : Nat))]) → H' t1 = some (.tup ((blockRow row us).map V.int)) → H' t2 = some (.tup (bs.map V.ref)) → LS.AtPs H' bs (blocksOf row) → Q (.ref t) H'
theorem c_row_blocks {K : PySem.W.Frag} {H : Hp} {r : Addr} {row : List Int} {us : Int} {Q : VK} {E : XK} (hS : SqT K H r (row.map V.int)) (hl : row.length ≤ 100000)
    (h : ∀ (t t1 t2 : Addr) (bs : List Addr) H', Same H H' → H' t = some (.tup [.ref t1, .ref t2, .int (us + ((blocksOf row).length : Nat))]) → H' t1 = some (.tup ((blockRow row us).map V.int)) → H' t2 = some (.tup (bs.map V.ref)) → LS.AtPs H' bs (blocksOf row) → Q (.ref t) H') :
    sp_row_blocks K ([.ref r, .int us] ++ []) H Q E := ⟨_, _, rfl, r, row, us, rfl, rfl, hS, hl, h⟩
abbrev n_row_blocks : List Str := ["row", "used", "runs", "blocks", "numbers", "at", "run"]
def t_row_blocks (K : PySem.W.Frag) (w : World) : TS :=
  (tSeq (tAsg (tCall (sp_blocks_of K) [] E0 (tCons (tVar 0) tNil)) (gName 2))
    (tSeq (tAsg (tThen (tCB LS.rSortDP (tCons (LD.tDcT (iList K (tVar 2)) (gName 6) (tTest (tOp oGt (tOp (rIxT K) (tVar 6) (tC (.int 1))) (tC (.int 1)))) (tVar 6) (tC (.bl true)) [6]) tNil)) (kTup K)) (gName 3))
    (tSeq (tAsg (LD.tDcT (LR.iEnum2 true K (tCons (tVar 3) tNil)) (gTup K 2 (gCons (gName 5) (gCons (gName 6) gNil))) tYes (tVar 6) (tOp oAdd (tVar 1) (tVar 5)) [5, 6]) (gName 4))
    (tRet (tTup (tCons (tThen (tLc (iList K (tVar 2)) (gName 6) tYes (tDGet2 (tVar 4) (tVar 6) (tOp (rIxT K) (tVar 6) (tC (.int 0)))) [6]) (kTup K)) (tCons (tVar 3) (tCons (tOp oAdd (tVar 1) (tCB (oLen K) (tCons (tVar 3) tNil))) tNil))))))))
theorem filter_take_snoc {rs : List P2} {i : Nat} {p : P2} (P : P2 → Bool) (h : rs[i]? = some p) : (rs.take (i + 1)).filter P = (rs.take i).filter P ++ if P p = true then [p] else [] := by
  rw [take_snoc h, List.filter_append, List.filter_cons]
  rfl
theorem map_ref_get {bs : List Addr} {i : Nat} {v : V} (h : (bs.map V.ref)[i]? = some v) : ∃ b, bs[i]? = some b ∧ v = .ref b := by
  rw [List.getElem?_map] at h
  cases e : bs[i]? with
  | none => rw [e] at h; cases h
  | some b => rw [e] at h; exact ⟨b, rfl, (Option.some.inj h).symm⟩
theorem atPs_mutT {H : Hp} {f : Addr} {bs : List Addr} {ps : List P2} {u o : HO} (hf : H f = some u) (hu : Mut (some u)) (h : LS.AtPs H bs ps) : LS.AtPs (upd H f o) bs ps := by
  induction h with
  | nil => exact .nil
  | cons r _ ih =>
    refine .cons (u_oth (fun e => ?_) r) ih
    subst e
    have r' : H _ = some (.tup _) := r
    rw [hf] at r'
    cases r'
    exact hu
theorem r_row_blocks {K : PySem.W.Frag} {w : World} (vs : List V) (H : Hp) (Q : VK) (E : XK) (h : sp_row_blocks K vs H Q E) : t_row_blocks K w { nx := fun _ H' => Q .non H', rt := Q } (start n_row_blocks vs) H := by
  obtain ⟨_, _, rfl, r, row, us, rfl, rfl, hS, hlen, q⟩ := h
  unfold t_row_blocks
  walk_at "T"
  refine c_blocks_of hS hlen fun f rb H1 s1 e1 a1 => ?_
  have hrl := atPs_len a1
  have hrn := runs_len row
  have hbd : blocksOf row = sortP (dedup ((runsOf row).filter fun r => decide (1 < r.2))) := rfl
  have hmb : ∀ r, r ∈ blocksOf row ↔ r ∈ runsOf row ∧ 1 < r.2 := fun r => mem_blocks
  have hbr : blockRow row us = (runsOf row).map fun r => if 1 < r.2 then numOf (blocksOf row) us r else r.1 := rfl
  have hnd := blocks_nodup row
  have hbl : (blocksOf row).length ≤ row.length := by
    rw [hbd, (sortP_perm _).length_eq]
    exact Nat.le_trans (len_dedup _) (Nat.le_trans (List.length_filter_le _ _) hrn)
  generalize runsOf row = rs at a1 hrl hrn hbd hmb hbr
  walk_at "T"
  rename_i D hD
  refine dcT_w (w_list (xs := rb.map V.ref)) (fun i H' => Same H1 H' ∧ H' D = some (.dT (encPB (trues (dedup ((rs.take i).filter fun r => decide (1 < r.2))))))) ⟨L2.Same.new hD, upd_same⟩ (fun i H' _ z => SqL.of (z.1 _ _ e1)) ?_ ?_
  · rintro i _ x H' hi ⟨s2, e2⟩ ⟨rfl, hx⟩
    obtain ⟨b, eb, rfl⟩ := map_ref_get hx
    obtain ⟨⟨m, c⟩, ep, hb⟩ := atPs_get a1 eb
    have hb2 : H' b = some (.tup [.int m, .int c]) := s2 _ _ hb
    have hi' : i < rs.length := (List.getElem?_eq_some_iff.mp ep).1
    rw [filter_take_snoc _ ep]
    have hlt : (trues (dedup ((rs.take i).filter fun r => decide (1 < r.2)))).length < sizeLine := by
      unfold trues
      rw [List.length_map]
      have h1 := len_dedup ((rs.take i).filter fun r => decide (1 < r.2))
      have h2 := List.length_filter_le (fun r : P2 => decide (1 < r.2)) (rs.take i)
      rw [List.length_take] at h2
      rw [sizeLine_eq]
      omega
    walk_at "T"
    refine t_iteD (fun e => ?_) (fun e => ?_)
    · walk_at "T"
      refine q_dcputP (f := V.bl) (n := (m, c)) (m := true) (R := fun H5 => Same H1 H5 ∧ H5 D = some (.dT (encPB (trues (dedup ((rs.take i).filter (fun r => decide (1 < r.2)) ++ if decide (1 < c) = true then [(m, c)] else [])))))) hb2 e2 hlt ?_
      refine ⟨s2.mut hD, ?_⟩
      rw [upd_same, put_trues, if_pos (decide_eq_true e), dedup_snoc]
    · refine ⟨s2, ?_⟩
      rw [e2, if_neg (show ¬ decide (1 < ((m, c) : P2).2) = true by rw [decide_eq_false e]; decide), List.append_nil]
  · rintro H2 ⟨s2, e2⟩
    rw [List.length_map, hrl, List.take_length] at e2
    walk_at "T"
    refine r_sortDP (f := V.bl) (.inl e2) fun p cs hp hcs => ?_
    rw [keys_trues, ← hbd] at hcs
    generalize blocksOf row = ps at hcs hmb hbr hnd hbl q hbd
    have hcl := atPs_len hcs
    walk_at "T"
    refine r_tupL (xs := cs.map V.ref) (by walk_at "sq") fun t2 ht2 => ?_
    have s3 : Same H1 (upd (upd H2 p (.lst (cs.map V.ref))) t2 (.tup (cs.map V.ref))) := (s2.upd hp).upd ht2
    have a3 : LS.AtPs (upd (upd H2 p (.lst (cs.map V.ref))) t2 (.tup (cs.map V.ref))) cs ps := atPs_same ((L2.Same.new hp).upd ht2) hcs
    have e3 : upd (upd H2 p (.lst (cs.map V.ref))) t2 (.tup (cs.map V.ref)) t2 = some (.tup (cs.map V.ref)) := upd_same
    generalize upd (upd H2 p (.lst (cs.map V.ref))) t2 (.tup (cs.map V.ref)) = H3 at s3 a3 e3
    walk_at "T"
    refine i_enum2E (k := true) (xs := cs.map V.ref) (show SqT K H3 t2 _ from SqT.of e3) ?_
    walk_at "T"
    rename_i N hN
    refine dcT_w (w_enum2 (k := true) (xs := cs.map V.ref)) (fun i H4 => Same H3 H4 ∧ H4 N = some (.dT (encP ((numTab ps us).take i)))) ⟨L2.Same.new hN, upd_same⟩ (fun i H4 _ z => SqT.of (z.1 _ _ e3)) ?_ ?_
    · rintro i H4 _ _ hi ⟨s4, e4⟩ ⟨T, u, rfl, hT, rfl, hu⟩
      obtain ⟨c, ec, rfl⟩ := map_ref_get hu
      obtain ⟨pr, epr, hat⟩ := atPs_get a3 ec
      have hat3 : LS.AtP (upd H4 T (.tup [.int (i : Nat), .ref c])) c pr := u_old (s4 _ _ hat) hT
      refine g_tup (xs := [.int (i : Nat), .ref c]) (by walk_at "sq") rfl ?_
      walk_at "T"
      refine q_dcputP (f := V.int) (m := us + (i : Nat)) (R := fun H5 => Same H3 H5 ∧ H5 N = some (.dT (encP ((numTab ps us).take (i + 1))))) hat3 (u_old e4 hT) ?_ ?_
      · rw [List.length_take, sizeLine_eq]
        have : i < ps.length := (List.getElem?_eq_some_iff.mp epr).1
        omega
      · refine ⟨(s4.upd hT).mut hN, ?_⟩
        rw [upd_same, put_numTab hnd us epr]
    · rintro H4 ⟨s4, e4⟩
      have hcm : (cs.map V.ref).length = (numTab ps us).length := by
        rw [List.length_map, hcl, numTab_len]
      rw [hcm, List.take_length] at e4
      have s14 := s3.trans s4
      have f4 := s14 _ _ e1
      have a4 : LS.AtPs H4 rb rs := atPs_same s14 a1
      walk_at "T"
      rename_i l hl
      refine lcp_w (w_list (xs := rb.map V.ref)) (fun _ => true) (fun i => V.int ((fun r : P2 => if 1 < r.2 then numOf ps us r else r.1) (rs.getD i (0, 0)))) (by rw [List.length_map]; omega) hl (fun H6 s6 => SqL.of (s6 _ _ f4)) ?_ ?_ ?_
      · rintro i H6 x _ ⟨rfl, _⟩
        exact Same.refl _
      · rintro i _ x H6 Rt Rf hi s6 ⟨rfl, hx⟩ kt kf
        obtain ⟨b, eb, rfl⟩ := map_ref_get hx
        obtain ⟨⟨m, c⟩, ep, hb⟩ := atPs_get a4 eb
        have hb6 : H6 b = some (.tup [.int m, .int c]) := s6 _ _ hb
        rw [getD_get ep] at kt
        walk_at "T"
        refine p_get2 (f := V.int) (k := (m, c)) (.inl (s6 _ _ e4)) hb6 ?_
        rw [getD_map V.int _ m, look_numTab hnd]
        have hin : (m, c) ∈ ps ↔ 1 < c := ⟨fun z => ((hmb _).mp z).2, fun z => (hmb _).mpr ⟨mem_of_get ep, z⟩⟩
        have e : (if (m, c) ∈ ps then some (numOf ps us (m, c)) else none).getD m = if 1 < ((m, c) : P2).2 then numOf ps us (m, c) else ((m, c) : P2).1 := by
          by_cases z : 1 < c
          · rw [if_pos (hin.mpr z), if_pos z]
            rfl
          · rw [if_neg fun y => z (hin.mp y), if_neg z]
            rfl
        rw [e]
        exact kt _ (Same.refl _) rfl
      · rintro H6 s6 h6
        have eg := given_filter rs (fun _ => true) (fun r : P2 => V.int (if 1 < r.2 then numOf ps us r else r.1)) (fun _ => true) (fun i => V.int ((fun r : P2 => if 1 < r.2 then numOf ps us r else r.1) (rs.getD i (0, 0)))) fun i p ex => by
          rw [getD_get ex]
          exact ⟨rfl, fun _ => rfl⟩
        rw [List.length_map, hrl, eg, List.filter_eq_self.mpr fun _ _ => rfl] at h6
        have e7 : rs.map (fun r : P2 => V.int (if 1 < r.2 then numOf ps us r else r.1)) = (blockRow row us).map V.int := by
          rw [hbr, List.map_map]
          rfl
        rw [e7] at h6
        have f6 := (s4.trans s6) _ _ e3
        walk_at "T"
        refine r_tupLI (ns := blockRow row us) (SqL.of h6) fun t1 ht1 => ?_
        walk_at "T"
        rename_i t ht
        have hcl' : ((cs.map V.ref).length : Int) = (ps.length : Nat) := by
          rw [List.length_map, hcl]
        rw [hcl']
        exact q t t1 t2 cs _ (((s1.trans (s14.trans s6)).upd ht1).upd ht) upd_same (u_old upd_same ht) (u_old (u_old f6 ht1) ht) (atPs_same (((s4.trans s6).upd ht1).upd ht) a3)
end K15

end
section
set_option Elab.async false
set_option linter.all false
set_option maxRecDepth 100000
set_option maxHeartbeats 4000000
namespace K15
open PySem PySem.Spec PyProof.Rows L2 LW LM
/-! ### steps of a reading, heaps: short tactics -/
local macro_rules | `(tactic| walk_at "ne") => `(tactic| first
  | assumption
  | (apply Ne.symm; assumption)
  | exact ne_none (by assumption) (by assumption)
  | exact (ne_none (by assumption) (by assumption)).symm
  | exact ne_of (by assumption) (by assumption) (by intro z; cases z))
local macro_rules | `(tactic| walk_at "hp") => `(tactic| first
  | assumption
  | with_reducible exact upd_same
  | ((first
      | with_reducible refine u_old ?_ (by assumption)
      | with_reducible refine u_oth (by walk_at "ne") ?_
      | with_reducible refine same_app (by assumption) ?_
      | with_reducible refine kb_app (by assumption) (by walk_at "ne") ?_); walk_at "hp")
  | ((with_reducible refine u_kind ?h (by assumption) ?d); (case h => walk_at "hp"); (case d => (intro z; cases z))))
local macro_rules | `(tactic| walk_at "sq") => `(tactic| first
  | assumption
  | exact SqL.of (by walk_at "hp")
  | exact SqT.of (by walk_at "hp")
  | (with_reducible refine same_sqT (by assumption) ?_; walk_at "sq")
  | (with_reducible refine same_sqL (by assumption) ?_; walk_at "sq")
  | (with_reducible refine new_sqT (by assumption) ?_; walk_at "sq")
  | (with_reducible refine new_sqL (by assumption) ?_; walk_at "sq")
  | ((with_reducible refine mut_sqT (u := ?uu) ?hd ?hm ?_); (case hd => walk_at "hp"); (case hm => exact trivial); walk_at "sq"))
local macro_rules | `(tactic| walk_at "rd") => `(tactic| first
  | assumption
  | exact .inl (by walk_at "hp")
  | exact .inr ⟨_, by walk_at "hp"⟩)
local macro_rules | `(tactic| walk_at "s") => `(tactic| first
  | with_reducible refine s_seq ?_
  | with_reducible refine s_asg ?_
  | with_reducible refine g_name ?_
  | ((with_reducible refine e_var (v := ?vv) ?hv ?_); (case hv => rfl))
  | with_reducible refine e_c ?_
  | with_reducible refine e_op ?_
  | with_reducible refine a_cons ?_
  | with_reducible refine a_nil ?_
  | with_reducible refine e_cb ?_
  | with_reducible refine e_call ?_
  | with_reducible refine e_callK ?_
  | with_reducible refine s_ret ?_
  | with_reducible refine s_retN ?_
  | with_reducible refine s_drop ?_
  | with_reducible refine s_ifs ?_
  | with_reducible refine s_next ?_
  | with_reducible refine s_cont ?_
  | with_reducible refine s_brk ?_
  | with_reducible refine s_par ?_
  | with_reducible refine s_par3 ?_
  | with_reducible refine e_un ?_
  | with_reducible refine e_if ?_
  | with_reducible refine e_andV ?_
  | with_reducible refine e_orV ?_
  | with_reducible refine e_notV ?_
  | with_reducible refine e_dget ?_
  | with_reducible refine e_dget2 ?_
  | with_reducible refine e_din ?_
  | with_reducible refine e_dnotin ?_
  | with_reducible refine e_then ?_
  | with_reducible refine e_bm ?_
  | with_reducible refine e_bm0 ?_
  | with_reducible refine e_sl ?_
  | with_reducible refine o_none ?_
  | with_reducible refine o_part ?_
  | with_reducible refine g_sub ?_
  | with_reducible refine g_nil ?_
  | with_reducible refine g_cons ?_
  | with_reducible refine t_test ?_
  | with_reducible refine t_B ?_
  | with_reducible refine t_and ?_
  | with_reducible refine t_or ?_
  | with_reducible refine t_not ?_
  | ((with_reducible refine r_ixI (ns := ?ns) ?hs ?h0 ?h1 ?_); (case hs => walk_at "sq"); (case h0 => omega); (case h1 => omega))
  | ((with_reducible refine r_ixL (xs := ?xs) (v := ?vv) ?hs ?hi ?_); (case hs => walk_at "sq"); (case hi => rfl))
  | ((with_reducible refine r_ixT (xs := ?xs) (v := ?vv) ?hs ?hi ?_); (case hs => walk_at "sq"); (case hi => rfl))
  | ((with_reducible refine g_setL (xs := ?xs) (j := ?jj) ?hp ?hj ?_); (case hp => walk_at "hp"); (case hj => rfl))
  | ((with_reducible refine r_mul ?hc ?_); (case hc => first | exact .inr (by decide) | exact .inl (by decide) | exact .inl ⟨by omega, by omega⟩ | exact .inr ⟨by omega, by omega⟩))
  | ((with_reducible refine r_mod ?hc ?_); (case hc => first | decide | omega))
  | ((with_reducible refine r_fdivN ?hc ?_); (case hc => exact ⟨by first | decide | omega, by first | decide | omega⟩))
  | ((with_reducible refine r_pow ?hc ?_); (case hc => first | decide | exact ⟨by decide, by decide⟩ | (unfold CPow; decide)))
  | ((with_reducible refine r_lenI (ns := ?ns) ?hs ?_); (case hs => walk_at "sq"))
  | ((with_reducible refine r_lenTI (ns := ?ns) ?hs ?_); (case hs => walk_at "sq"))
  | ((with_reducible refine r_lenL (xs := ?xs) ?hs ?_); (case hs => walk_at "sq"))
  | ((with_reducible refine r_lenT (xs := ?xs) ?hs ?_); (case hs => walk_at "sq"))
  | ((with_reducible refine r_tyL (xs := ?xs) ?hs ?_); (case hs => walk_at "sq"))
  | with_reducible refine r_add ?_
  | with_reducible refine r_sub ?_
  | with_reducible refine r_lt ?_
  | with_reducible refine r_le ?_
  | with_reducible refine r_gt ?_
  | with_reducible refine r_ge ?_
  | with_reducible refine r_eqI ?_
  | with_reducible refine r_neI ?_
  | with_reducible refine r_int ?_
  | with_reducible refine r_intb ?_
  | with_reducible refine r_neg ?_
  | with_reducible refine r_max2 ?_
  | with_reducible refine r_min2 ?_
  | with_reducible refine c_sp1 ?_
  | with_reducible refine c_sp2 ?_
  | with_reducible refine c_sp3 ?_
  | with_reducible refine c_sp4 ?_
  | with_reducible refine c_sp5 ?_
  | with_reducible refine t_end ?_
  | with_reducible refine o_part_end ?_
  | ((with_reducible refine s_aug (x := ?xx) ?hx ?_); (case hx => rfl))
  | with_reducible refine s_for ?_
  | with_reducible refine i_list ?_
  | with_reducible refine i_tup ?_
  | with_reducible refine i_rng1 ?_
  | with_reducible refine i_rng2 ?_
  | with_reducible refine i_keys ?_
  | with_reducible refine i_items ?_
  | with_reducible refine i_zip2 ?_
  | with_reducible refine i_enum2 ?_
  | ((with_reducible refine i_rng1E ?h1 ?h2 ?_); (case h1 => omega); (case h2 => omega))
  | ((with_reducible refine i_rng2E ?h1 ?_); (case h1 => omega))
  | ((with_reducible refine i_listE (xs := ?xs) ?hs ?_); (case hs => walk_at "sq"))
  | ((with_reducible refine i_tupE (xs := ?xs) ?hs ?_); (case hs => walk_at "sq"))
  | ((with_reducible refine q_isD ?hi ?_); (case hi => first | exact isD_K (by walk_at "rd") | exact isD_T (by walk_at "rd")))
  | with_reducible refine q_ref ?_
  | with_reducible refine e_dnewK ?_
  | with_reducible refine e_dnewT ?_
  | with_reducible refine e_tup ?_
  | with_reducible refine e_lst ?_
  | ((with_reducible refine r_new ?hn ?_); (case hn => exact Nat.le_of_ble_eq_true rfl))
  | with_reducible refine r_fresh fun _ _ => ?_
  | with_reducible refine s_par_end ?_
  | with_reducible refine s_par3_end ?_
  | with_reducible refine e_lc ?_
  | with_reducible refine e_dc ?_
  | with_reducible refine e_dcT ?_
  | with_reducible refine t_tyes ?_
  | with_reducible refine t_tt ?_
  | with_reducible refine t_ff ?_
  | with_reducible refine c_wipe rfl ?_)
local macro_rules | `(tactic| walk_at "S") => `(tactic| repeat' first | walk_at "s" | with_reducible refine s_dput ?_)
local macro_rules | `(tactic| walk_at "T") => `(tactic| repeat' walk_at "s")

/-! ### pairs as data -/
def dP (p : P2) : PyData := .tuple [.int p.1, .int p.2]
theorem dp_pair {K : PySem.W.Frag} {H : Hp} {b : Addr} {p : P2} (h : LS.AtP H b p) : Dp K H (.ref b) (dP p) := .tup (SqT.of (show H b = some (.tup [.int p.1, .int p.2]) from h)) (.cons (.int _) (.cons (.int _) .nil))
theorem dp_pairs {K : PySem.W.Frag} {H : Hp} {bs : List Addr} {ps : List P2} (h : LS.AtPs H bs ps) : DpAll K H (bs.map V.ref) (ps.map dP) := by
  induction h with
  | nil => exact .nil
  | cons r _ ih => exact .cons (dp_pair r) ih
theorem eqv_pair (p q : P2) : PyData.eqv (dP p) (dP q) = decide (p = q) := by
  show ((p.1 == q.1) && ((p.2 == q.2) && true)) = decide (p = q)
  by_cases h : p = q
  · subst h
    simp
  · rw [decide_eq_false h]
    by_cases h1 : p.1 = q.1
    · have h2 : ¬ p.2 = q.2 := fun z => h (Prod.ext h1 z)
      simp [h2]
    · simp [h1]
theorem lay_pairs : ∀ ps : List P2, PyData.canLayAll0 (ps.map dP) = true
  | [] => rfl
  | p :: ps => by
    show (PyData.canLay0 (dP p) && PyData.canLayAll0 (ps.map dP)) = true
    rw [lay_pairs ps]
    rfl
theorem depth_pairs : ∀ ps : List P2, PyData.depthAll (ps.map dP) ≤ 1
  | [] => Nat.zero_le _
  | p :: ps => by
    show max (PyData.depth (dP p)) (PyData.depthAll (ps.map dP)) ≤ 1
    exact Nat.max_le.mpr ⟨Nat.le_refl _, depth_pairs ps⟩
theorem shaped_pairs (ps : List P2) : SeqAt.shaped (.list (ps.map dP)) = true := by
  unfold SeqAt.shaped
  have h := depth_pairs ps
  rw [show PyData.canLay0 (.list (ps.map dP)) = PyData.canLayAll0 (ps.map dP) from rfl, lay_pairs ps, Bool.true_and, decide_eq_true_eq]
  show PyData.depthAll (ps.map dP) + 1 ≤ 64
  omega
theorem shaped_pair (p : P2) : SeqAt.shaped (dP p) = true := rfl
/-- pairs.index(q) -/
theorem r_indexP {K : PySem.W.Frag} {H : Hp} {l b : Addr} {cs : List Addr} {ps : List P2} {q : P2} {Q : VK} (hl : H l = some (.lst (cs.map V.ref))) (hc : LS.AtPs H cs ps) (hb : LS.AtP H b q) (hin : q ∈ ps) (h : Q (.int (ps.idxOf q : Nat)) H) : rIndexD K (.ref l) [.ref b] H Q := by
  have hi := List.idxOf_lt_length_of_mem hin
  refine ⟨l, .ref b, dP q, ps.map dP, ps.idxOf q, dP q, rfl, rfl, .lst (SqL.of hl) (dp_pairs hc), dp_pair hb, shaped_pairs ps, shaped_pair q, ?_, by rw [eqv_pair, decide_eq_true rfl], fun m z' hm hz => ?_, h⟩
  · rw [List.getElem?_map, List.getElem?_eq_getElem hi, List.getElem_idxOf hi]
    rfl
  · rw [List.getElem?_map] at hz
    cases e : ps[m]? with
    | none => rw [e] at hz; cases hz
    | some p =>
      rw [e] at hz
      obtain rfl := Option.some.inj hz
      rw [eqv_pair, decide_eq_false_iff_not]
      intro z
      subst z
      have h1 : m < ps.length := (List.getElem?_eq_some_iff.mp e).1
      have h2 := List.not_of_lt_findIdx (p := (· == p)) (xs := ps) (i := m) hm
      rw [(List.getElem?_eq_some_iff.mp e).2] at h2
      simp at h2
def sp_pressed_runs (K : PySem.W.Frag) : Sp := sp2 fun x y H Q => ∃ (r : Addr) (row : List Int) (us : Int), x = .ref r ∧ y = .int us ∧ SqL K H r (row.map V.int) ∧ row.length ≤ 126 ∧ (∀ n ∈ row, 0 ≤ n) ∧
  ∀ (t l t2 : Addr) (bs : List Addr) H', Same H H' → H' t = some (.lst [.ref l, .ref t2]) → H' l = some (.lst ((blockRow row us).map V.int)) → H' t2 = some (.tup (bs.map V.ref)) → LS.AtPs H' bs (blocksOf row) → Q (.ref t) H'
theorem c_pressed_runs {K : PySem.W.Frag} {H : Hp} {r : Addr} {row : List Int} {us : Int} {Q : VK} {E : XK} (hS : SqL K H r (row.map V.int)) (hl : row.length ≤ 126) (h0 : ∀ n ∈ row, 0 ≤ n)
    (h : ∀ (t l t2 : Addr) (bs : List Addr) H', Same H H' → H' t = some (.lst [.ref l, .ref t2]) → H' l = some (.lst ((blockRow row us).map V.int)) → H' t2 = some (.tup (bs.map V.ref)) → LS.AtPs H' bs (blocksOf row) → Q (.ref t) H') :
    sp_pressed_runs K ([.ref r, .int us] ++ []) H Q E := ⟨_, _, rfl, r, row, us, rfl, rfl, hS, hl, h0, h⟩
abbrev n__law_pressed_runs : List Str := ["row", "used", "runs", "number", "run", "pairs", "told"]
def t__law_pressed_runs (K : PySem.W.Frag) (w : World) : TS :=
  (tSeq (tAsg (tLst tNil) (gName 2))
    (tSeq (tFor (iList K (tVar 0)) (gName 3)
    (tIfS (tAnd (tTest (tOp oGt (tCB (oLen K) (tCons (tVar 2) tNil)) (tC (.int 0)))) (tTest (tOp rEq (tOp (rIxT K) (tOp (rIxL K) (tVar 2) (tUn oNeg (tC (.int 1)))) (tC (.int 0))) (tVar 3)))) (tAsg (tTup (tCons (tVar 3) (tCons (tOp oAdd (tOp (rIxT K) (tOp (rIxL K) (tVar 2) (tUn oNeg (tC (.int 1)))) (tC (.int 1))) (tC (.int 1))) tNil))) (gSub (tVar 2) (tUn oNeg (tC (.int 1))) rSetL)) (tDrop (tBM K "list" rAppend (tVar 2) (tCons (tTup (tCons (tVar 3) (tCons (tC (.int 1)) tNil))) tNil)))))
    (tSeq (tAsg (LX.tSortSetP K (tLc (iList K (tVar 2)) (gName 4) (tTest (tOp oGe (tOp (rIxT K) (tVar 4) (tC (.int 1))) (tC (.int 2)))) (tVar 4) [4])) (gName 5))
    (tSeq (tAsg (tLst tNil) (gName 6))
    (tSeq (tFor (iList K (tVar 2)) (gName 4)
    (tIfS (tTest (tOp oGe (tOp (rIxT K) (tVar 4) (tC (.int 1))) (tC (.int 2)))) (tDrop (tBM K "list" rAppend (tVar 6) (tCons (tOp oAdd (tVar 1) (tBM K "list" (rIndexD K) (tVar 5) (tCons (tVar 4) tNil))) tNil))) (tDrop (tBM K "list" rAppend (tVar 6) (tCons (tOp (rIxT K) (tVar 4) (tC (.int 0))) tNil)))))
    (tRet (tLst (tCons (tVar 6) (tCons (tThen (tVar 5) (kTup K)) tNil)))))))))
theorem r_pressed_runs {K : PySem.W.Frag} {w : World} (vs : List V) (H : Hp) (Q : VK) (E : XK) (h : sp_pressed_runs K vs H Q E) : t__law_pressed_runs K w { nx := fun _ H' => Q .non H', rt := Q } (start n__law_pressed_runs vs) H := by
  obtain ⟨_, _, rfl, r, row, us, rfl, rfl, hS, hlen, hpos, q⟩ := h
  unfold t__law_pressed_runs
  walk_at "T"
  rename_i f hf
  refine for_w (w_list (xs := row.map V.int)) (fun i σ H' => ∃ (y3 : Option V) (bs : List Addr), σ = [some (.ref r), some (.int us), some (.ref f), y3, none, none, none] ∧ Same H H' ∧ H' f = some (.lst (bs.map V.ref)) ∧ LS.AtPs H' bs (runsOf (row.take i)))
    ⟨none, [], rfl, L2.Same.new hf, upd_same, .nil⟩ ?_ ?_ ?_
  · rintro i σ H' _ ⟨y3, bs, rfl, sm, _⟩
    exact sm.seq hS
  · rintro i σ _ x H' hi ⟨y3, bs, rfl, sm, h', hat⟩ ⟨rfl, hx⟩
    obtain ⟨n, en, rfl⟩ := map_int_get hx
    rw [List.length_map] at hi
    have hbl : bs.length ≤ i := by
      have h1 := atPs_len hat
      have h2 := runs_len (row.take i)
      rw [List.length_take] at h2
      omega
    rw [take_snoc en, runs_snoc]
    generalize runsOf (row.take i) = rs at hat
    have new : ∀ p, H' p = none → (∃ (y3' : Option V) (bs' : List Addr), [some (V.ref r), some (.int us), some (.ref f), some (.int n), none, none, none] = [some (.ref r), some (.int us), some (.ref f), y3', none, none, none] ∧ Same H (upd (upd H' p (.tup [.int n, .int 1])) f (.lst (bs.map V.ref ++ [.ref p]))) ∧ upd (upd H' p (.tup [.int n, .int 1])) f (.lst (bs.map V.ref ++ [.ref p])) f = some (.lst (bs'.map V.ref)) ∧ LS.AtPs (upd (upd H' p (.tup [.int n, .int 1])) f (.lst (bs.map V.ref ++ [.ref p]))) bs' (rs ++ [(n, 1)])) := fun p hp => by
      refine ⟨_, bs ++ [p], rfl, (sm.upd hp).mut hf, ?_, ?_⟩
      · rw [upd_same, List.map_append]
        rfl
      · exact atPs_mut (u_old h' hp) (atPs_snoc (atPs_same (L2.Same.new hp) hat) (atP_of upd_same))
    walk_at "T"
    rcases List.eq_nil_or_concat bs with rfl | ⟨bs0, b, rfl⟩
    · cases hat
      rw [push_nil]
      refine t_iteD (fun e => absurd e (by decide)) (fun _ => ?_)
      walk_at "T"
      rename_i p hp
      refine r_app (u_old h' hp) (by show 0 < sizeLine; rw [sizeLine_eq]; omega) ?_
      walk_at "T"
      exact new p hp
    · rw [List.concat_eq_append] at hat h' new hbl ⊢
      obtain ⟨rs0, ⟨m, c⟩, rfl, hat0, hb⟩ := atPs_last hat
      rw [push_last]
      have hb' : H' b = some (.tup [.int m, .int c]) := hb
      have h'' : H' f = some (.lst (bs0.map V.ref ++ [.ref b])) := by rw [h', List.map_append]; rfl
      have hgt : (0 : Int) < (((bs0 ++ [b]).map V.ref).length : Nat) := by
        rw [List.length_map, List.length_append, List.length_singleton]
        omega
      refine t_iteD (fun _ => ?_) (fun e => absurd hgt e)
      walk_at "T"
      refine r_ixL (SqL.of h'') at_lastV ?_
      walk_at "T"
      refine t_iteD (fun e => ?_) (fun e => ?_)
      · rw [if_pos e]
        walk_at "T"
        refine r_ixL (SqL.of h'') at_lastV ?_
        walk_at "T"
        rename_i p hp
        refine g_setL (j := bs0.length) (u_old h'' hp) ?_ ?_
        · rw [List.length_append, List.length_map]
          exact ix_last
        · walk_at "T"
          have es : (bs0.map V.ref ++ [V.ref b]).set bs0.length (.ref p) = (bs0 ++ [p]).map V.ref := by
            have := set_last (xs := bs0.map V.ref) (v := .ref b) (u := .ref p)
            rw [List.length_map] at this
            rw [this, List.map_append]
            rfl
          refine ⟨_, bs0 ++ [p], rfl, (sm.upd hp).mut hf, ?_, ?_⟩
          · rw [upd_same, es]
          · exact atPs_mut (u_old h'' hp) (atPs_snoc (atPs_same (L2.Same.new hp) hat0) (atP_of upd_same))
      · rw [if_neg e]
        walk_at "T"
        rename_i p hp
        refine r_app (u_old h' hp) (by rw [List.length_map, sizeLine_eq]; omega) ?_
        walk_at "T"
        exact new p hp
  · rintro σ H1 ⟨y3, rb, rfl, s1, e1, a1⟩
    rw [List.length_map, List.take_length] at a1
    have hrl := atPs_len a1
    have hrn := runs_len row
    have htwo := runs_two row
    have hrm : ∀ r ∈ runsOf row, 0 ≤ r.1 ∧ 1 ≤ r.2 := fun r hr => ⟨hpos _ (runs_mem hr), runs_pos hr⟩
    have hbd : blocksOf row = sortP (dedup ((runsOf row).filter fun r => decide (1 < r.2))) := rfl
    have hmb : ∀ r, r ∈ blocksOf row ↔ r ∈ runsOf row ∧ 1 < r.2 := fun r => mem_blocks
    have hbr : blockRow row us = (runsOf row).map fun r => if 1 < r.2 then numOf (blocksOf row) us r else r.1 := rfl
    have h64 : ((runsOf row).filter fun r => decide (1 < r.2)).length < 64 := by omega
    generalize runsOf row = rs at a1 hrl hrn htwo hrm hbd hmb hbr h64
    walk_at "T"
    unfold LX.tSortSetP
    walk_at "T"
    rename_i D hD
    refine lc_w (w_list (xs := rb.map V.ref)) (fun i H' => Same H1 H' ∧ ∃ cs : List Addr, H' D = some (.lst (cs.map V.ref)) ∧ LS.AtPs H' cs ((rs.take i).filter fun r => decide (1 < r.2)) ∧ cs.length ≤ i) ⟨L2.Same.new hD, [], upd_same, .nil, Nat.le_refl _⟩ (fun i H' _ z => SqL.of (z.1 _ _ e1)) ?_ ?_
    · rintro i _ x H' hi ⟨s2, cs, e2, a2, hcl⟩ ⟨rfl, hx⟩
      obtain ⟨b, eb, rfl⟩ := map_ref_get hx
      obtain ⟨⟨m, c⟩, ep, hb⟩ := atPs_get a1 eb
      have hb2 : H' b = some (.tup [.int m, .int c]) := s2 _ _ hb
      rw [List.length_map] at hi
      rw [filter_take_snoc _ ep]
      walk_at "T"
      refine t_iteD (fun e => ?_) (fun e => ?_)
      · walk_at "T"
        refine ⟨_, e2, by rw [List.length_map, sizeLine_eq]; omega, s2.mut hD, cs ++ [b], ?_, ?_, ?_⟩
        · rw [upd_same, List.map_append]
          rfl
        · rw [if_pos (show decide (1 < ((m, c) : P2).2) = true from decide_eq_true (by show (1 : Int) < c; omega))]
          exact atPs_mut e2 (atPs_snoc a2 hb2)
        · rw [List.length_append, List.length_singleton]
          omega
      · refine ⟨s2, cs, e2, ?_, by omega⟩
        rw [if_neg (show ¬ decide (1 < ((m, c) : P2).2) = true by rw [decide_eq_true_eq]; show ¬ (1 : Int) < c; omega), List.append_nil]
        exact a2
    · rintro H2 ⟨s2, cs, e2, a2, _⟩
      rw [List.length_map, hrl, List.take_length] at a2
      obtain ⟨B1, hB1⟩ := bound_of (rs.map (·.1))
      obtain ⟨B2, hB2⟩ := bound_of (rs.map (·.2))
      refine ⟨D, cs, _, max B1 B2, rfl, SqL.of e2, a2, h64, fun p hp => ?_, fun p cs' H3 s3 e3 a3 => ?_⟩
      · have hm := (List.mem_filter.mp hp).1
        have h1 := hrm p hm
        have h2 := hB1 p.1 (List.mem_map_of_mem hm)
        have h3 := hB2 p.2 (List.mem_map_of_mem hm)
        exact ⟨⟨h1.1, by omega⟩, by omega, by omega⟩
      rw [← hbd] at a3
      have hcl := atPs_len a3
      have s13 := s2.trans s3
      have f3 := s13 _ _ e1
      have b3 : LS.AtPs H3 rb rs := atPs_same s13 a1
      generalize blocksOf row = ps at a3 hmb hbr q hcl
      walk_at "T"
      rename_i l hl
      refine for_w (w_list (xs := rb.map V.ref)) (fun i σ H' => ∃ (y4 : Option V), σ = [some (.ref r), some (.int us), some (.ref f), y3, y4, some (.ref p), some (.ref l)] ∧ Same H3 H' ∧ H' l = some (.lst (((rs.take i).map fun r => if 1 < r.2 then numOf ps us r else r.1).map V.int)))
        ⟨none, rfl, L2.Same.new hl, upd_same⟩ ?_ ?_ ?_
      · rintro i σ H' _ ⟨y4, rfl, sm, _⟩
        exact SqL.of (sm _ _ f3)
      · rintro i σ _ x H' hi ⟨y4, rfl, sm, h'⟩ ⟨rfl, hx⟩
        obtain ⟨b, eb, rfl⟩ := map_ref_get hx
        obtain ⟨⟨m, c⟩, ep, hb⟩ := atPs_get b3 eb
        have hb2 : H' b = some (.tup [.int m, .int c]) := sm _ _ hb
        rw [List.length_map] at hi
        have hz : ((rs.take i).map fun r => if 1 < r.2 then numOf ps us r else r.1).length < 10000000 := by
          rw [List.length_map, List.length_take]
          omega
        have en : (rs.take (i + 1)).map (fun r => if 1 < r.2 then numOf ps us r else r.1) = (rs.take i).map (fun r => if 1 < r.2 then numOf ps us r else r.1) ++ [if 1 < c then numOf ps us (m, c) else m] := by
          rw [take_snoc ep, List.map_append]
          rfl
        rw [en]
        walk_at "T"
        refine t_iteD (fun e => ?_) (fun e => ?_)
        · have hc : 1 < c := by omega
          rw [if_pos hc]
          walk_at "T"
          refine r_indexP (q := (m, c)) (sm _ _ e3) (atPs_same sm a3) hb2 ((hmb _).mpr ⟨mem_of_get ep, hc⟩) ?_
          walk_at "T"
          refine r_appI h' hz ?_
          walk_at "T"
          exact ⟨_, rfl, sm.mut hl, upd_same⟩
        · have hc : ¬ 1 < c := by omega
          rw [if_neg hc]
          walk_at "T"
          refine r_appI h' hz ?_
          walk_at "T"
          exact ⟨_, rfl, sm.mut hl, upd_same⟩
      · rintro σ H4 ⟨y4, rfl, s4, h4⟩
        rw [List.length_map, hrl, List.take_length, ← hbr] at h4
        have p4 := s4 _ _ e3
        walk_at "T"
        refine r_tupL (xs := cs'.map V.ref) (SqL.of p4) fun t2 ht2 => ?_
        walk_at "T"
        rename_i t ht
        exact q t l t2 cs' _ (((s1.trans (s13.trans s4)).upd ht2).upd ht) upd_same (u_old (u_old h4 ht2) ht) (u_old upd_same ht) (atPs_same ((s4.upd ht2).upd ht) a3)
end K15

end
section
set_option Elab.async false
set_option linter.all false
set_option maxRecDepth 100000
set_option maxHeartbeats 4000000
namespace K15
open PySem PySem.Spec PyProof.Rows L2 LW LM
/-! ### steps of a reading, heaps: short tactics -/
local macro_rules | `(tactic| walk_at "ne") => `(tactic| first
  | assumption
  | (apply Ne.symm; assumption)
  | exact ne_none (by assumption) (by assumption)
  | exact (ne_none (by assumption) (by assumption)).symm
  | exact ne_of (by assumption) (by assumption) (by intro z; cases z))
local macro_rules | `(tactic| walk_at "hp") => `(tactic| first
  | assumption
  | with_reducible exact upd_same
  | ((first
      | with_reducible refine u_old ?_ (by assumption)
      | with_reducible refine u_oth (by walk_at "ne") ?_
      | with_reducible refine same_app (by assumption) ?_
      | with_reducible refine kb_app (by assumption) (by walk_at "ne") ?_); walk_at "hp")
  | ((with_reducible refine u_kind ?h (by assumption) ?d); (case h => walk_at "hp"); (case d => (intro z; cases z))))
local macro_rules | `(tactic| walk_at "sq") => `(tactic| first
  | assumption
  | exact SqL.of (by walk_at "hp")
  | exact SqT.of (by walk_at "hp")
  | (with_reducible refine same_sqT (by assumption) ?_; walk_at "sq")
  | (with_reducible refine same_sqL (by assumption) ?_; walk_at "sq")
  | (with_reducible refine new_sqT (by assumption) ?_; walk_at "sq")
  | (with_reducible refine new_sqL (by assumption) ?_; walk_at "sq")
  | ((with_reducible refine mut_sqT (u := ?uu) ?hd ?hm ?_); (case hd => walk_at "hp"); (case hm => exact trivial); walk_at "sq"))
local macro_rules | `(tactic| walk_at "rd") => `(tactic| first
  | assumption
  | exact .inl (by walk_at "hp")
  | exact .inr ⟨_, by walk_at "hp"⟩)
local macro_rules | `(tactic| walk_at "s") => `(tactic| first
  | with_reducible refine s_seq ?_
  | with_reducible refine s_asg ?_
  | with_reducible refine g_name ?_
  | ((with_reducible refine e_var (v := ?vv) ?hv ?_); (case hv => rfl))
  | with_reducible refine e_c ?_
  | with_reducible refine e_op ?_
  | with_reducible refine a_cons ?_
  | with_reducible refine a_nil ?_
  | with_reducible refine e_cb ?_
  | with_reducible refine e_call ?_
  | with_reducible refine e_callK ?_
  | with_reducible refine s_ret ?_
  | with_reducible refine s_retN ?_
  | with_reducible refine s_drop ?_
  | with_reducible refine s_ifs ?_
  | with_reducible refine s_next ?_
  | with_reducible refine s_cont ?_
  | with_reducible refine s_brk ?_
  | with_reducible refine s_par ?_
  | with_reducible refine s_par3 ?_
  | with_reducible refine e_un ?_
  | with_reducible refine e_if ?_
  | with_reducible refine e_andV ?_
  | with_reducible refine e_orV ?_
  | with_reducible refine e_notV ?_
  | with_reducible refine e_dget ?_
  | with_reducible refine e_dget2 ?_
  | with_reducible refine e_din ?_
  | with_reducible refine e_dnotin ?_
  | with_reducible refine e_then ?_
  | with_reducible refine e_bm ?_
  | with_reducible refine e_bm0 ?_
  | with_reducible refine e_sl ?_
  | with_reducible refine o_none ?_
  | with_reducible refine o_part ?_
  | with_reducible refine g_sub ?_
  | with_reducible refine g_nil ?_
  | with_reducible refine g_cons ?_
  | with_reducible refine t_test ?_
  | with_reducible refine t_B ?_
  | with_reducible refine t_and ?_
  | with_reducible refine t_or ?_
  | with_reducible refine t_not ?_
  | ((with_reducible refine r_ixI (ns := ?ns) ?hs ?h0 ?h1 ?_); (case hs => walk_at "sq"); (case h0 => omega); (case h1 => omega))
  | ((with_reducible refine r_ixL (xs := ?xs) (v := ?vv) ?hs ?hi ?_); (case hs => walk_at "sq"); (case hi => rfl))
  | ((with_reducible refine r_ixT (xs := ?xs) (v := ?vv) ?hs ?hi ?_); (case hs => walk_at "sq"); (case hi => rfl))
  | ((with_reducible refine g_setL (xs := ?xs) (j := ?jj) ?hp ?hj ?_); (case hp => walk_at "hp"); (case hj => rfl))
  | ((with_reducible refine r_mul ?hc ?_); (case hc => first | exact .inr (by decide) | exact .inl (by decide) | exact .inl ⟨by omega, by omega⟩ | exact .inr ⟨by omega, by omega⟩))
  | ((with_reducible refine r_mod ?hc ?_); (case hc => first | decide | omega))
  | ((with_reducible refine r_fdivN ?hc ?_); (case hc => exact ⟨by first | decide | omega, by first | decide | omega⟩))
  | ((with_reducible refine r_pow ?hc ?_); (case hc => first | decide | exact ⟨by decide, by decide⟩ | (unfold CPow; decide)))
  | ((with_reducible refine r_lenI (ns := ?ns) ?hs ?_); (case hs => walk_at "sq"))
  | ((with_reducible refine r_lenTI (ns := ?ns) ?hs ?_); (case hs => walk_at "sq"))
  | ((with_reducible refine r_lenL (xs := ?xs) ?hs ?_); (case hs => walk_at "sq"))
  | ((with_reducible refine r_lenT (xs := ?xs) ?hs ?_); (case hs => walk_at "sq"))
  | ((with_reducible refine r_tyL (xs := ?xs) ?hs ?_); (case hs => walk_at "sq"))
  | with_reducible refine r_add ?_
  | with_reducible refine r_sub ?_
  | with_reducible refine r_lt ?_
  | with_reducible refine r_le ?_
  | with_reducible refine r_gt ?_
  | with_reducible refine r_ge ?_
  | with_reducible refine r_eqI ?_
  | with_reducible refine r_neI ?_
  | with_reducible refine r_int ?_
  | with_reducible refine r_intb ?_
  | with_reducible refine r_neg ?_
  | with_reducible refine r_max2 ?_
  | with_reducible refine r_min2 ?_
  | with_reducible refine c_sp1 ?_
  | with_reducible refine c_sp2 ?_
  | with_reducible refine c_sp3 ?_
  | with_reducible refine c_sp4 ?_
  | with_reducible refine c_sp5 ?_
  | with_reducible refine t_end ?_
  | with_reducible refine o_part_end ?_
  | ((with_reducible refine s_aug (x := ?xx) ?hx ?_); (case hx => rfl))
  | with_reducible refine s_for ?_
  | with_reducible refine i_list ?_
  | with_reducible refine i_tup ?_
  | with_reducible refine i_rng1 ?_
  | with_reducible refine i_rng2 ?_
  | with_reducible refine i_keys ?_
  | with_reducible refine i_items ?_
  | with_reducible refine i_zip2 ?_
  | with_reducible refine i_enum2 ?_
  | ((with_reducible refine i_rng1E ?h1 ?h2 ?_); (case h1 => omega); (case h2 => omega))
  | ((with_reducible refine i_rng2E ?h1 ?_); (case h1 => omega))
  | ((with_reducible refine i_listE (xs := ?xs) ?hs ?_); (case hs => walk_at "sq"))
  | ((with_reducible refine i_tupE (xs := ?xs) ?hs ?_); (case hs => walk_at "sq"))
  | ((with_reducible refine q_isD ?hi ?_); (case hi => first | exact isD_K (by walk_at "rd") | exact isD_T (by walk_at "rd")))
  | with_reducible refine q_ref ?_
  | with_reducible refine e_dnewK ?_
  | with_reducible refine e_dnewT ?_
  | with_reducible refine e_tup ?_
  | with_reducible refine e_lst ?_
  | ((with_reducible refine r_new ?hn ?_); (case hn => exact Nat.le_of_ble_eq_true rfl))
  | with_reducible refine r_fresh fun _ _ => ?_
  | with_reducible refine s_par_end ?_
  | with_reducible refine s_par3_end ?_
  | with_reducible refine e_lc ?_
  | with_reducible refine e_dc ?_
  | with_reducible refine e_dcT ?_
  | with_reducible refine t_tyes ?_
  | with_reducible refine t_tt ?_
  | with_reducible refine t_ff ?_
  | with_reducible refine c_wipe rfl ?_)
local macro_rules | `(tactic| walk_at "S") => `(tactic| repeat' first | walk_at "s" | with_reducible refine s_dput ?_)
local macro_rules | `(tactic| walk_at "T") => `(tactic| repeat' walk_at "s")

theorem isK_two (lf : Int → Bool) : ∀ row : List Int, 2 * ((zipT row).filter (isK lf)).length ≤ row.length ∧ (∀ a r, row = a :: r → lf a = false → 2 * ((zipT row).filter (isK lf)).length ≤ r.length)
  | [] => ⟨Nat.le_refl _, fun _ _ e => nomatch e⟩
  | [a] => ⟨Nat.zero_le _, fun _ _ _ _ => Nat.zero_le _⟩
  | a :: b :: r => by
    have ih := isK_two lf (b :: r)
    have e : (zipT (a :: b :: r)).filter (isK lf) = if isK lf (a, b) = true then (a, b) :: (zipT (b :: r)).filter (isK lf) else (zipT (b :: r)).filter (isK lf) := by
      show ((a, b) :: zipT (b :: r)).filter (isK lf) = _
      rw [List.filter_cons]
    rw [e]
    by_cases h : isK lf (a, b) = true
    · rw [if_pos h]
      have h2 := h
      unfold isK at h2
      simp only [Bool.and_eq_true, Bool.not_eq_true'] at h2
      have h3 := ih.2 b r rfl h2.2
      refine ⟨?_, fun a' r' e' ha => ?_⟩
      · simp only [List.length_cons]
        omega
      · cases e'
        rw [h2.1] at ha
        cases ha
    · rw [if_neg h]
      have h3 := ih.1
      simp only [List.length_cons] at h3 ⊢
      refine ⟨by omega, fun a' r' e' _ => ?_⟩
      cases e'
      simp only [List.length_cons]
      omega
/-- row[at:at + 2] of a list of ints -/
theorem r_twoL {K : PySem.W.Frag} {H : Hp} {a : Addr} {ns : List Int} {at' : Nat} {hi : Int} {Q : VK} (hs : SqL K H a (ns.map V.int)) (ha : at' ≤ ns.length) (ehi : hi = (at' : Int) + 2)
    (h : ∀ p, H p = none → Q (.ref p) (upd H p (.lst (((ns.drop at').take 2).map V.int)))) : rSlL K (.ref a) (some (at' : Int)) (some hi) H Q := by
  have hl : (ns.map V.int).length = ns.length := List.length_map _
  have e1 : HT.sIx (ns.map V.int).length 0 (some (at' : Int)) = min at' ns.length := by
    rw [HT.sIx_nat, hl]
  have e2 : HT.sIx (ns.map V.int).length (ns.map V.int).length (some hi) = min (at' + 2) ns.length := by
    have : hi = ((at' + 2 : Nat) : Int) := by omega
    rw [this, HT.sIx_nat, hl]
  have m1 : min at' ns.length = at' := by omega
  have ec : cutV (ns.map V.int) (some (at' : Int)) (some hi) = ((ns.drop at').take 2).map V.int := by
    unfold cutV
    rw [e1, e2, m1, List.map_take, List.map_drop]
    by_cases h2 : at' + 2 ≤ ns.length
    · rw [show min (at' + 2) ns.length - at' = 2 by omega]
    · rw [List.take_of_length_le (by rw [List.length_drop, hl]; omega), List.take_of_length_le (by rw [List.length_drop, hl]; omega)]
  exact ⟨a, _, rfl, hs, fun p hp => by rw [ec]; exact h p hp⟩
theorem dp_ints {K : PySem.W.Frag} {H : Hp} : ∀ ns : List Int, DpAll K H (ns.map V.int) (ns.map PyData.int)
  | [] => .nil
  | n :: ns => .cons (.int n) (dp_ints ns)
theorem any_pair (ps : List P2) (x y : Int) : (ps.map dP).any (fun z => PyData.eqv z (.tuple [.int x, .int y])) = decide ((x, y) ∈ ps) := by
  rw [List.any_map]
  induction ps with
  | nil => rfl
  | cons p ps ih =>
    rw [List.any_cons, ih]
    show (PyData.eqv (dP p) (dP (x, y)) || decide ((x, y) ∈ ps)) = decide ((x, y) ∈ p :: ps)
    rw [eqv_pair]
    by_cases h : p = (x, y)
    · subst h
      simp
    · have h' : ¬ (x, y) = p := fun z => h z.symm
      simp [h, h']
theorem any_one (ps : List P2) (x : Int) : (ps.map dP).any (fun z => PyData.eqv z (.tuple [.int x])) = false := by
  rw [List.any_map, List.any_eq_false]
  intro p _
  show ¬ ((p.1 == x) && false) = true
  rw [Bool.and_false]
  decide
/-- tuple in pairs -/
theorem r_inPairs {K : PySem.W.Frag} {H : Hp} {l b : Addr} {cs : List Addr} {ps : List P2} {ns : List Int} {Q : VK} (hl : H l = some (.lst (cs.map V.ref))) (hc : LS.AtPs H cs ps) (hb : H b = some (.tup (ns.map V.int))) (hn : ns.length ≤ 2) (h : Q (.bl ((ps.map dP).any fun z => PyData.eqv z (.tuple (ns.map PyData.int)))) H) : rInD K (.ref b) (.ref l) H Q := by
  refine ⟨.tuple (ns.map PyData.int), ps.map dP, .tup (SqT.of hb) (dp_ints ns), .lst (SqL.of hl) (dp_pairs hc), ?_, shaped_pairs ps, h⟩
  match ns, hn with
  | [], _ => rfl
  | [_], _ => rfl
  | [_, _], _ => rfl
def sp_pressed_pairs (K : PySem.W.Frag) : Sp := sp3 fun x y z H Q => ∃ (r lf : Addr) (row ls : List Int) (us : Int), x = .ref r ∧ y = .ref lf ∧ z = .int us ∧ SqL K H r (row.map V.int) ∧ SqT K H lf (ls.map V.int) ∧ row.length ≤ 126 ∧ (∀ n ∈ row, 0 ≤ n) ∧ 0 < row.length ∧
  ∀ (t l t2 : Addr) (bs : List Addr) H', Same H H' → H' t = some (.lst [.ref l, .ref t2]) → H' l = some (.lst ((prow (LM.pairsOf row (inL ls)) us row).map V.int)) → H' t2 = some (.tup (bs.map V.ref)) → LS.AtPs H' bs (LM.pairsOf row (inL ls)) → Q (.ref t) H'
theorem c_pressed_pairs {K : PySem.W.Frag} {H : Hp} {r lf : Addr} {row ls : List Int} {us : Int} {Q : VK} {E : XK} (hS : SqL K H r (row.map V.int)) (hT : SqT K H lf (ls.map V.int)) (hl : row.length ≤ 126) (h0 : ∀ n ∈ row, 0 ≤ n) (h1 : 0 < row.length)
    (h : ∀ (t l t2 : Addr) (bs : List Addr) H', Same H H' → H' t = some (.lst [.ref l, .ref t2]) → H' l = some (.lst ((prow (LM.pairsOf row (inL ls)) us row).map V.int)) → H' t2 = some (.tup (bs.map V.ref)) → LS.AtPs H' bs (LM.pairsOf row (inL ls)) → Q (.ref t) H') :
    sp_pressed_pairs K ([.ref r, .ref lf, .int us] ++ []) H Q E := ⟨_, _, _, rfl, r, lf, row, ls, us, rfl, rfl, rfl, hS, hT, hl, h0, h1, h⟩
abbrev n__law_pressed_pairs : List Str := ["row", "lefts", "used", "pairs", "told", "at", "k"]
def t__law_pressed_pairs (K : PySem.W.Frag) (w : World) : TS :=
  (tSeq (tAsg (LX.tSortSetP K (tLc (iRng1 (tCons (tOp oSub (tCB (oLen K) (tCons (tVar 0) tNil)) (tC (.int 1))) tNil)) (gName 6) (tAnd (tTest (tOp (rIn K false) (tOp (rIxL K) (tVar 0) (tVar 6)) (tVar 1))) (tTest (tOp (rIn K true) (tOp (rIxL K) (tVar 0) (tOp oAdd (tVar 6) (tC (.int 1)))) (tVar 1)))) (tTup (tCons (tOp (rIxL K) (tVar 0) (tVar 6)) (tCons (tOp (rIxL K) (tVar 0) (tOp oAdd (tVar 6) (tC (.int 1)))) tNil))) [6])) (gName 3))
    (tSeq (tAsg (tLst tNil) (gName 4))
    (tSeq (tAsg (tC (.int 0)) (gName 5))
    (tSeq (tWhile (tTest (tOp oLt (tVar 5) (tCB (oLen K) (tCons (tVar 0) tNil)))) (tIfS (tTest (tOp (rInD K) (tThen (tSl (rSlL K) (tVar 0) (tPart (tVar 5)) (tPart (tOp oAdd (tVar 5) (tC (.int 2))))) (kTup K)) (tVar 3))) (tSeq (tDrop (tBM K "list" rAppend (tVar 4) (tCons (tOp oAdd (tVar 2) (tBM K "list" (rIndexD K) (tVar 3) (tCons (tTup (tCons (tOp (rIxL K) (tVar 0) (tVar 5)) (tCons (tOp (rIxL K) (tVar 0) (tOp oAdd (tVar 5) (tC (.int 1)))) tNil))) tNil))) tNil)))
    (tAsg (tOp oAdd (tVar 5) (tC (.int 2))) (gName 5))) (tSeq (tDrop (tBM K "list" rAppend (tVar 4) (tCons (tOp (rIxL K) (tVar 0) (tVar 5)) tNil)))
    (tAsg (tOp oAdd (tVar 5) (tC (.int 1))) (gName 5)))))
    (tRet (tLst (tCons (tVar 4) (tCons (tThen (tVar 3) (kTup K)) tNil))))))))
theorem r_pressed_pairs {K : PySem.W.Frag} {w : World} (vs : List V) (H : Hp) (Q : VK) (E : XK) (h : sp_pressed_pairs K vs H Q E) : t__law_pressed_pairs K w { nx := fun _ H' => Q .non H', rt := Q } (start n__law_pressed_pairs vs) H := by
  obtain ⟨_, _, _, rfl, r, lf, row, ls, us, rfl, rfl, rfl, hS, hT, hlen, hpos, hl0, q⟩ := h
  unfold t__law_pressed_pairs
  walk_at "T"
  unfold LX.tSortSetP
  walk_at "T"
  rename_i D hD
  have hn : (↑row.length - 1 : Int).toNat = row.length - 1 := by omega
  rw [hn]
  refine lc_w (w_rng (lo := 0) (n := row.length - 1)) (fun i H' => Same H H' ∧ ∃ cs : List Addr, H' D = some (.lst (cs.map V.ref)) ∧ LS.AtPs H' cs (((zipT row).take i).filter (isK (inL ls))) ∧ cs.length ≤ i) ⟨L2.Same.new hD, [], upd_same, .nil, Nat.le_refl _⟩ (fun _ _ _ _ => trivial) ?_ ?_
  · rintro i _ x H' hi ⟨s2, cs, e2, a2, hcl⟩ ⟨rfl, rfl⟩
    obtain ⟨x, ex, _⟩ := map_int_at (row := row) (i := i) (by omega)
    obtain ⟨y, ey, _⟩ := map_int_at (row := row) (i := i + 1) (by omega)
    have g1 : row.getD (0 + (i : Int)).toNat 0 = x := getD_of ex (by omega)
    have g2 : row.getD (0 + (i : Int) + 1).toNat 0 = y := getD_of ey (by omega)
    have ez : ((zipT row).take (i + 1)).filter (isK (inL ls)) = ((zipT row).take i).filter (isK (inL ls)) ++ if (inL ls x && !inL ls y) = true then [(x, y)] else [] := by
      rw [take_snoc (zipT_get ex ey), List.filter_append, List.filter_cons]
      rfl
    have hS2 := s2.seq hS
    have hT2 := s2.sqT hT
    have no : (inL ls x && !inL ls y) = false → Same H H' ∧ ∃ cs : List Addr, H' D = some (.lst (cs.map V.ref)) ∧ LS.AtPs H' cs (((zipT row).take (i + 1)).filter (isK (inL ls))) ∧ cs.length ≤ i + 1 := fun e => by
      refine ⟨s2, cs, e2, ?_, by omega⟩
      rw [ez, e, if_neg Bool.false_ne_true, List.append_nil]
      exact a2
    walk_at "T"
    rw [g1]
    refine r_inTI (ls := ls) hT2 ?_
    walk_at "T"
    refine t_ite (fun e1 => ?_) (fun e1 => ?_)
    · walk_at "T"
      rw [g2]
      refine r_ninTI (ls := ls) hT2 ?_
      walk_at "T"
      refine t_ite (fun e3 => ?_) (fun e3 => ?_)
      · walk_at "T"
        rename_i p hp
        rw [g1, g2]
        refine ⟨_, u_old e2 hp, by rw [List.length_map, sizeLine_eq]; omega, (s2.upd hp).mut hD, cs ++ [p], ?_, ?_, ?_⟩
        · rw [upd_same, List.map_append]
          rfl
        · rw [ez, e1, e3]
          exact atPs_mut (u_old e2 hp) (atPs_snoc (atPs_same (L2.Same.new hp) a2) (atP_of upd_same))
        · rw [List.length_append, List.length_singleton]
          omega
      · exact no (by rw [e3, Bool.and_false])
    · walk_at "T"
      exact no (by rw [e1, Bool.false_and])
  · rintro H2 ⟨s2, cs, e2, a2, _⟩
    have e0 : (zipT row).take (row.length - 1) = zipT row := List.take_of_length_le (by rw [zipT_len]; exact Nat.le_refl _)
    rw [e0] at a2
    have htwo := (isK_two (inL ls) row).1
    obtain ⟨B, hB⟩ := bound_of row
    refine ⟨D, cs, _, B, rfl, SqL.of e2, a2, by omega, fun p hp => ?_, fun p cs' H3 s3 e3 a3 => ?_⟩
    · have hm := List.of_mem_zip (List.mem_filter.mp hp).1
      have hm2 := List.mem_of_mem_drop hm.2
      exact ⟨⟨hpos _ hm.1, hB _ hm.1⟩, hpos _ hm2, hB _ hm2⟩
    have a3' : LS.AtPs H3 cs' (LM.pairsOf row (inL ls)) := a3
    have hpnd := pairs_nodup row (inL ls)
    generalize LM.pairsOf row (inL ls) = ps at a3' hpnd q
    have s13 := s2.trans s3
    walk_at "T"
    rename_i l hl
    refine ⟨fun m σ H4 => ∃ (at' : Nat) (fl : List Int), σ = [some (.ref r), some (.ref lf), some (.int us), some (.ref p), some (.ref l), some (.int (at' : Int)), none] ∧ m = row.length - at' ∧ at' ≤ row.length ∧ Same H3 H4 ∧ H4 l = some (.lst (fl.map V.int)) ∧ fl.length ≤ at' ∧ fl ++ prow ps us (row.drop at') = prow ps us row,
      ⟨row.length, 0, [], rfl, rfl, Nat.zero_le _, L2.Same.new hl, upd_same, Nat.le_refl _, rfl⟩, ?_⟩
    rintro m σ H4 ⟨at', fl, rfl, rfl, hat, s4, h4, hfl, hpr⟩
    have hS4 := (s13.trans s4).seq hS
    walk_at "T"
    refine t_iteD (fun hlt => ?_) (fun hlt => ?_)
    · have hlt' : at' < row.length := by omega
      obtain ⟨x, ex, _⟩ := map_int_at (row := row) (i := at') hlt'
      have edx : row.drop at' = x :: row.drop (at' + 1) := by
        rw [← (List.getElem?_eq_some_iff.mp ex).2, ← List.drop_eq_getElem_cons hlt']
      refine ⟨fun σ' H5 => ∃ (a' : Nat) (fl' : List Int), σ' = [some (.ref r), some (.ref lf), some (.int us), some (.ref p), some (.ref l), some (.int (a' : Int)), none] ∧ at' < a' ∧ a' ≤ row.length ∧ Same H3 H5 ∧ H5 l = some (.lst (fl'.map V.int)) ∧ fl'.length ≤ a' ∧ fl' ++ prow ps us (row.drop a') = prow ps us row, ?_, ?_⟩
      · rintro σ' H5 ⟨a', fl', rfl, h1, h2, h3, h4, h5, h6⟩
        exact ⟨row.length - a', by omega, a', fl', rfl, rfl, h2, h3, h4, h5, h6⟩
      walk_at "T"
      refine r_twoL (ns := row) hS4 hat rfl fun c hc => ?_
      refine r_tupLI (ns := (row.drop at').take 2) (SqL.of upd_same) fun b hb => ?_
      walk_at "T"
      have s5 : Same H4 (upd (upd H4 c (.lst (((row.drop at').take 2).map V.int))) b (.tup (((row.drop at').take 2).map V.int))) := (L2.Same.new hc).upd hb
      refine r_inPairs (ps := ps) (ns := (row.drop at').take 2) ((s4.trans s5) _ _ e3) (atPs_same (s4.trans s5) a3') upd_same (by rw [List.length_take]; omega) ?_
      have l5 := s5 _ _ h4
      have s35 := s4.trans s5
      have p5 := s35 _ _ e3
      have a5 := atPs_same s35 a3'
      have hS5 := s5.seq hS4
      generalize upd (upd H4 c (.lst (((row.drop at').take 2).map V.int))) b (.tup (((row.drop at').take 2).map V.int)) = H5 at l5 s35 p5 a5 hS5
      walk_at "T"
      refine t_ite (fun e => ?_) (fun e => ?_)
      · obtain ⟨y, ey, hin⟩ : ∃ y, row[at' + 1]? = some y ∧ (x, y) ∈ ps := by
          cases ey : row[at' + 1]? with
          | none =>
            have e6 : (row.drop at').take 2 = [x] := by
              rw [edx, List.drop_eq_nil_of_le (List.getElem?_eq_none_iff.mp ey)]
              rfl
            rw [e6] at e
            have := any_one ps x
            rw [show ([x].map PyData.int) = [PyData.int x] from rfl, this] at e
            cases e
          | some y =>
            have h2 : at' + 1 < row.length := (List.getElem?_eq_some_iff.mp ey).1
            have e6 : (row.drop at').take 2 = [x, y] := by
              rw [edx, List.drop_eq_getElem_cons h2, (List.getElem?_eq_some_iff.mp ey).2]
              rfl
            rw [e6] at e
            have := any_pair ps x y
            rw [show ([x, y].map PyData.int) = [PyData.int x, PyData.int y] from rfl, this] at e
            exact ⟨y, rfl, of_decide_eq_true e⟩
        have h2 : at' + 1 < row.length := (List.getElem?_eq_some_iff.mp ey).1
        have g1 : row.getD (at' : Int).toNat 0 = x := getD_of ex rfl
        have g2 : row.getD ((at' : Int) + 1).toNat 0 = y := getD_of ey (by omega)
        walk_at "T"
        rename_i u hu
        rw [g1, g2]
        refine r_indexP (q := (x, y)) (u_old p5 hu) (atPs_same (L2.Same.new hu) a5) (atP_of upd_same) hin ?_
        walk_at "T"
        refine r_appI (u_old l5 hu) (by omega) ?_
        walk_at "T"
        refine ⟨at' + 2, fl ++ [numOf ps us (x, y)], rfl, by omega, by omega, (s35.upd hu).mut hl, upd_same, ?_, ?_⟩
        · rw [List.length_append, List.length_singleton]
          omega
        · rw [← hpr, edx, List.drop_eq_getElem_cons h2, (List.getElem?_eq_some_iff.mp ey).2, List.append_assoc]
          show _ = fl ++ (if (x, y) ∈ ps then numOf ps us (x, y) :: prow ps us (row.drop (at' + 1 + 1)) else _)
          rw [if_pos hin]
          rfl
      · have he : prow ps us (row.drop at') = x :: prow ps us (row.drop (at' + 1)) := by
          rw [edx]
          cases ey : row[at' + 1]? with
          | none =>
            rw [List.drop_eq_nil_of_le (List.getElem?_eq_none_iff.mp ey)]
            rfl
          | some y =>
            have h2 : at' + 1 < row.length := (List.getElem?_eq_some_iff.mp ey).1
            have e6 : (row.drop at').take 2 = [x, y] := by
              rw [edx, List.drop_eq_getElem_cons h2, (List.getElem?_eq_some_iff.mp ey).2]
              rfl
            rw [e6] at e
            have := any_pair ps x y
            rw [show ([x, y].map PyData.int) = [PyData.int x, PyData.int y] from rfl, this] at e
            rw [List.drop_eq_getElem_cons h2, (List.getElem?_eq_some_iff.mp ey).2]
            show (if (x, y) ∈ ps then _ else x :: prow ps us (y :: row.drop (at' + 1 + 1))) = _
            rw [if_neg (of_decide_eq_false e)]
        have g1 : row.getD (at' : Int).toNat 0 = x := getD_of ex rfl
        walk_at "T"
        rw [g1]
        refine r_appI l5 (by omega) ?_
        walk_at "T"
        refine ⟨at' + 1, fl ++ [x], rfl, by omega, by omega, s35.mut hl, upd_same, ?_, ?_⟩
        · rw [List.length_append, List.length_singleton]
          omega
        · rw [← hpr, he, List.append_assoc]
          rfl
    · have hlast : at' = row.length := by omega
      subst hlast
      rw [List.drop_length] at hpr
      have hfin : fl = prow ps us row := by
        rw [← hpr]
        exact (List.append_nil _).symm
      have p4 := s4 _ _ e3
      walk_at "T"
      refine r_tupL (xs := cs'.map V.ref) (SqL.of p4) fun t2 ht2 => ?_
      walk_at "T"
      rename_i t ht
      refine q t l t2 cs' _ (((s13.trans s4).upd ht2).upd ht) upd_same ?_ (u_old upd_same ht) (atPs_same ((s4.upd ht2).upd ht) a3')
      rw [← hfin]
      exact u_old (u_old h4 ht2) ht
end K15

end
section
set_option Elab.async false
set_option linter.all false
set_option maxRecDepth 100000
set_option maxHeartbeats 4000000
namespace K15
open PySem PySem.Spec PyProof.Rows L2 LW LM
/-! ### steps of a reading, heaps: short tactics -/
local macro_rules | `(tactic| walk_at "ne") => `(tactic| first
  | assumption
  | (apply Ne.symm; assumption)
  | exact ne_none (by assumption) (by assumption)
  | exact (ne_none (by assumption) (by assumption)).symm
  | exact ne_of (by assumption) (by assumption) (by intro z; cases z))
local macro_rules | `(tactic| walk_at "hp") => `(tactic| first
  | assumption
  | with_reducible exact upd_same
  | ((first
      | with_reducible refine u_old ?_ (by assumption)
      | with_reducible refine u_oth (by walk_at "ne") ?_
      | with_reducible refine same_app (by assumption) ?_
      | with_reducible refine kb_app (by assumption) (by walk_at "ne") ?_); walk_at "hp")
  | ((with_reducible refine u_kind ?h (by assumption) ?d); (case h => walk_at "hp"); (case d => (intro z; cases z))))
local macro_rules | `(tactic| walk_at "sq") => `(tactic| first
  | assumption
  | exact SqL.of (by walk_at "hp")
  | exact SqT.of (by walk_at "hp")
  | (with_reducible refine same_sqT (by assumption) ?_; walk_at "sq")
  | (with_reducible refine same_sqL (by assumption) ?_; walk_at "sq")
  | (with_reducible refine new_sqT (by assumption) ?_; walk_at "sq")
  | (with_reducible refine new_sqL (by assumption) ?_; walk_at "sq")
  | ((with_reducible refine mut_sqT (u := ?uu) ?hd ?hm ?_); (case hd => walk_at "hp"); (case hm => exact trivial); walk_at "sq"))
local macro_rules | `(tactic| walk_at "rd") => `(tactic| first
  | assumption
  | exact .inl (by walk_at "hp")
  | exact .inr ⟨_, by walk_at "hp"⟩)
local macro_rules | `(tactic| walk_at "s") => `(tactic| first
  | with_reducible refine s_seq ?_
  | with_reducible refine s_asg ?_
  | with_reducible refine g_name ?_
  | ((with_reducible refine e_var (v := ?vv) ?hv ?_); (case hv => rfl))
  | with_reducible refine e_c ?_
  | with_reducible refine e_op ?_
  | with_reducible refine a_cons ?_
  | with_reducible refine a_nil ?_
  | with_reducible refine e_cb ?_
  | with_reducible refine e_call ?_
  | with_reducible refine e_callK ?_
  | with_reducible refine s_ret ?_
  | with_reducible refine s_retN ?_
  | with_reducible refine s_drop ?_
  | with_reducible refine s_ifs ?_
  | with_reducible refine s_next ?_
  | with_reducible refine s_cont ?_
  | with_reducible refine s_brk ?_
  | with_reducible refine s_par ?_
  | with_reducible refine s_par3 ?_
  | with_reducible refine e_un ?_
  | with_reducible refine e_if ?_
  | with_reducible refine e_andV ?_
  | with_reducible refine e_orV ?_
  | with_reducible refine e_notV ?_
  | with_reducible refine e_dget ?_
  | with_reducible refine e_dget2 ?_
  | with_reducible refine e_din ?_
  | with_reducible refine e_dnotin ?_
  | with_reducible refine e_then ?_
  | with_reducible refine e_bm ?_
  | with_reducible refine e_bm0 ?_
  | with_reducible refine e_sl ?_
  | with_reducible refine o_none ?_
  | with_reducible refine o_part ?_
  | with_reducible refine g_sub ?_
  | with_reducible refine g_nil ?_
  | with_reducible refine g_cons ?_
  | with_reducible refine t_test ?_
  | with_reducible refine t_B ?_
  | with_reducible refine t_and ?_
  | with_reducible refine t_or ?_
  | with_reducible refine t_not ?_
  | ((with_reducible refine r_ixI (ns := ?ns) ?hs ?h0 ?h1 ?_); (case hs => walk_at "sq"); (case h0 => omega); (case h1 => omega))
  | ((with_reducible refine r_ixL (xs := ?xs) (v := ?vv) ?hs ?hi ?_); (case hs => walk_at "sq"); (case hi => rfl))
  | ((with_reducible refine r_ixT (xs := ?xs) (v := ?vv) ?hs ?hi ?_); (case hs => walk_at "sq"); (case hi => rfl))
  | ((with_reducible refine g_setL (xs := ?xs) (j := ?jj) ?hp ?hj ?_); (case hp => walk_at "hp"); (case hj => rfl))
  | ((with_reducible refine r_mul ?hc ?_); (case hc => first | exact .inr (by decide) | exact .inl (by decide) | exact .inl ⟨by omega, by omega⟩ | exact .inr ⟨by omega, by omega⟩))
  | ((with_reducible refine r_mod ?hc ?_); (case hc => first | decide | omega))
  | ((with_reducible refine r_fdivN ?hc ?_); (case hc => exact ⟨by first | decide | omega, by first | decide | omega⟩))
  | ((with_reducible refine r_pow ?hc ?_); (case hc => first | decide | exact ⟨by decide, by decide⟩ | (unfold CPow; decide)))
  | ((with_reducible refine r_lenI (ns := ?ns) ?hs ?_); (case hs => walk_at "sq"))
  | ((with_reducible refine r_lenTI (ns := ?ns) ?hs ?_); (case hs => walk_at "sq"))
  | ((with_reducible refine r_lenL (xs := ?xs) ?hs ?_); (case hs => walk_at "sq"))
  | ((with_reducible refine r_lenT (xs := ?xs) ?hs ?_); (case hs => walk_at "sq"))
  | ((with_reducible refine r_tyL (xs := ?xs) ?hs ?_); (case hs => walk_at "sq"))
  | with_reducible refine r_add ?_
  | with_reducible refine r_sub ?_
  | with_reducible refine r_lt ?_
  | with_reducible refine r_le ?_
  | with_reducible refine r_gt ?_
  | with_reducible refine r_ge ?_
  | with_reducible refine r_eqI ?_
  | with_reducible refine r_neI ?_
  | with_reducible refine r_int ?_
  | with_reducible refine r_intb ?_
  | with_reducible refine r_neg ?_
  | with_reducible refine r_max2 ?_
  | with_reducible refine r_min2 ?_
  | with_reducible refine c_sp1 ?_
  | with_reducible refine c_sp2 ?_
  | with_reducible refine c_sp3 ?_
  | with_reducible refine c_sp4 ?_
  | with_reducible refine c_sp5 ?_
  | with_reducible refine t_end ?_
  | with_reducible refine o_part_end ?_
  | ((with_reducible refine s_aug (x := ?xx) ?hx ?_); (case hx => rfl))
  | with_reducible refine s_for ?_
  | with_reducible refine i_list ?_
  | with_reducible refine i_tup ?_
  | with_reducible refine i_rng1 ?_
  | with_reducible refine i_rng2 ?_
  | with_reducible refine i_keys ?_
  | with_reducible refine i_items ?_
  | with_reducible refine i_zip2 ?_
  | with_reducible refine i_enum2 ?_
  | ((with_reducible refine i_rng1E ?h1 ?h2 ?_); (case h1 => omega); (case h2 => omega))
  | ((with_reducible refine i_rng2E ?h1 ?_); (case h1 => omega))
  | ((with_reducible refine i_listE (xs := ?xs) ?hs ?_); (case hs => walk_at "sq"))
  | ((with_reducible refine i_tupE (xs := ?xs) ?hs ?_); (case hs => walk_at "sq"))
  | ((with_reducible refine q_isD ?hi ?_); (case hi => first | exact isD_K (by walk_at "rd") | exact isD_T (by walk_at "rd")))
  | with_reducible refine q_ref ?_
  | with_reducible refine e_dnewK ?_
  | with_reducible refine e_dnewT ?_
  | with_reducible refine e_tup ?_
  | with_reducible refine e_lst ?_
  | ((with_reducible refine r_new ?hn ?_); (case hn => exact Nat.le_of_ble_eq_true rfl))
  | with_reducible refine r_fresh fun _ _ => ?_
  | with_reducible refine s_par_end ?_
  | with_reducible refine s_par3_end ?_
  | with_reducible refine e_lc ?_
  | with_reducible refine e_dc ?_
  | with_reducible refine e_dcT ?_
  | with_reducible refine t_tyes ?_
  | with_reducible refine t_tt ?_
  | with_reducible refine t_ff ?_
  | with_reducible refine c_wipe rfl ?_)
local macro_rules | `(tactic| walk_at "S") => `(tactic| repeat' first | walk_at "s" | with_reducible refine s_dput ?_)
local macro_rules | `(tactic| walk_at "T") => `(tactic| repeat' walk_at "s")

theorem rk_setI {K : PySem.W.Frag} {w : World} {H : Hp} {l : Addr} {ns : List Int} {Q : VK} (hs : SqL K H l (ns.map V.int)) (hn : ns.length + 1 < 4096) (h : ∀ p c, H p = none → c ≤ ns.length → Q (.ref p) (upd H p (SetO w p (fun j => decide (j ∈ ns)) c))) : LS.rSetI K w [.ref l] H Q :=
  ⟨l, ns, rfl, .inl hs, hn, h⟩
theorem rk_sortSet {w : World} {H : Hp} {a : Addr} {ns : List Int} {c : Nat} {Q : VK} (ha : H a = some (SetO w a (fun j => decide (j ∈ ns)) c)) (hc : c ≤ ns.length) (hn : ns.length + 1 < 4096) (h : ∀ p, H p = none → Q (.ref p) (upd H p (.lst ((sortI (dedup ns)).map V.int)))) : LS.rSortSet w [.ref a] H Q :=
  ⟨a, ns, c, rfl, ha, hc, hn, h⟩
/-! ### a matrix of ints: lists at ws -/
structure MatAt (H0 H : Hp) (ws : List Addr) (m : Nat) (w : Nat → Nat → Int) : Prop where
  row : ∀ j a, ws[j]? = some a → H a = some (.lst (((List.range m).map fun i => w j i).map V.int))
  nd : ws.Nodup
  fresh : ∀ a ∈ ws, H0 a = none
  same : Same H0 H
theorem MatAt.go {H0 H H' : Hp} {ws : List Addr} {m : Nat} {w : Nat → Nat → Int} (M : MatAt H0 H ws m w) (s : Same H H') : MatAt H0 H' ws m w := ⟨fun j a e => s _ _ (M.row j a e), M.nd, M.fresh, M.same.trans s⟩
theorem MatAt.put {H0 H : Hp} {ws : List Addr} {m : Nat} {w : Nat → Nat → Int} (M : MatAt H0 H ws m w) {j i : Nat} {a : Addr} (hj : ws[j]? = some a) (hi : i < m) (v : Int) :
    MatAt H0 (upd H a (.lst ((((List.range m).map fun i => w j i).set i v).map V.int))) ws m fun j' i' => if j' = j ∧ i' = i then v else w j' i' := by
  refine ⟨fun j' b e => ?_, M.nd, M.fresh, M.same.mut (M.fresh a (mem_of_get hj))⟩
  by_cases h : b = a
  · subst h
    have hjj : j' = j := by
      have l1 := (List.getElem?_eq_some_iff.mp e).1
      have l2 := (List.getElem?_eq_some_iff.mp hj).1
      by_cases z : j' = j
      · exact z
      · exfalso
        rcases Nat.lt_or_gt_of_ne z with z | z
        · exact (List.pairwise_iff_getElem.mp M.nd) j' j l1 l2 z (by rw [(List.getElem?_eq_some_iff.mp e).2, (List.getElem?_eq_some_iff.mp hj).2])
        · exact (List.pairwise_iff_getElem.mp M.nd) j j' l2 l1 z (by rw [(List.getElem?_eq_some_iff.mp e).2, (List.getElem?_eq_some_iff.mp hj).2])
    subst hjj
    rw [upd_same]
    congr 3
    apply List.ext_getElem?
    intro k
    rw [List.getElem?_set, List.getElem?_map, List.getElem?_map]
    by_cases hk : k < m
    · rw [List.getElem?_range hk]
      by_cases hki : i = k
      · subst hki
        simp [hk]
      · have : ¬ k = i := fun z => hki z.symm
        simp [hki, this]
    · rw [List.getElem?_eq_none (by rw [List.length_range]; omega)]
      by_cases hki : i = k
      · omega
      · simp [hki]
  · rw [upd_ne h]
    have hjj : j' ≠ j := fun z => by
      subst z
      rw [hj] at e
      exact h (Option.some.inj e).symm
    rw [M.row j' b e]
    congr 3
    apply List.map_congr_left
    intro k _
    simp [hjj]
theorem MatAt.mut {H0 H : Hp} {ws : List Addr} {m : Nat} {w : Nat → Nat → Int} {p : Addr} {o : HO} (M : MatAt H0 H ws m w) (h0 : H0 p = none) (hp : ∀ a ∈ ws, a ≠ p) : MatAt H0 (upd H p o) ws m w :=
  ⟨fun j a e => u_oth (hp a (mem_of_get e)) (M.row j a e), M.nd, M.fresh, M.same.mut h0⟩
theorem MatAt.congr {H0 H : Hp} {ws : List Addr} {m : Nat} {w w' : Nat → Nat → Int} (M : MatAt H0 H ws m w) (h : ∀ j i, j < ws.length → i < m → w j i = w' j i) : MatAt H0 H ws m w' := by
  refine ⟨fun j a e => ?_, M.nd, M.fresh, M.same⟩
  rw [M.row j a e]
  congr 3
  apply List.map_congr_left
  intro i hi
  exact h j i (List.getElem?_eq_some_iff.mp e).1 (List.mem_range.mp hi)
theorem row_getD (m : Nat) (f : Nat → Int) {i : Nat} (h : i < m) : ((List.range m).map f).getD i 0 = f i := by
  rw [List.getD_eq_getElem?_getD, List.getElem?_map, List.getElem?_range h]
  rfl
theorem s_matInc {K : PySem.W.Frag} {H0 H : Hp} {ws : List Addr} {m : Nat} {w : Nat → Nat → Int} {De : Ends} {σ : L2.St} {D a : Addr} {i j x y : Nat} (hD : H D = some (.lst (ws.map V.ref))) (M : MatAt H0 H ws m w) (hne : ∀ a ∈ ws, a ≠ D)
    (h5 : σ[5]? = some (some (.ref D))) (hi : σ[i]? = some (some (.int (x : Int)))) (hj : σ[j]? = some (some (.int (y : Int)))) (hx : ws[x]? = some a) (hy : y < m)
    (k : ∀ H', H' D = some (.lst (ws.map V.ref)) → (MatAt H0 H' ws m fun j' i' => if j' = x ∧ i' = y then w x y + 1 else w j' i') → De.nx σ H') :
    tAsg (tOp oAdd (tOp (rIxL K) (tOp (rIxL K) (tVar 5) (tVar i)) (tVar j)) (tC (.int 1))) (gSub (tOp (rIxL K) (tVar 5) (tVar i)) (tVar j) rSetL) De σ H := by
  have hxw : atI (ws.map V.ref) (x : Int) = some (.ref a) := atI_nat (by rw [List.getElem?_map, hx]; rfl)
  have hr := M.row x a hx
  have hl : ((List.range m).map fun i => w x i).length = m := by rw [List.length_map, List.length_range]
  refine s_asg ?_
  refine e_op ?_
  refine e_op ?_
  refine e_op ?_
  refine e_var h5 ?_
  refine e_var hi ?_
  refine r_ixL (SqL.of hD) hxw ?_
  refine e_var hj ?_
  refine r_ixI (SqL.of hr) (by omega) (by rw [hl]; omega) ?_
  rw [Int.toNat_natCast, row_getD m _ hy]
  refine e_c ?_
  refine r_add ?_
  refine g_sub ?_
  refine e_op ?_
  refine e_var h5 ?_
  refine e_var hi ?_
  refine r_ixL (SqL.of hD) hxw ?_
  refine e_var hj ?_
  refine g_setI hr (by omega) (by rw [hl]; omega) ?_
  rw [Int.toNat_natCast]
  have haD := hne a (mem_of_get hx)
  exact k _ (u_oth haD.symm hD) (M.put hx hy _)
theorem wmat_snoc (cs : List P2) (x y u v : Int) : wmat (cs ++ [(x, y)]) u v = wmat cs u v + (if x = u ∧ y = v then 1 else 0) + (if x = v ∧ y = u then 1 else 0) := by
  unfold wmat ones
  rw [List.map_append]
  show S _ (_ ++ [((x, y), 1)]) + S _ (_ ++ [((x, y), 1)]) = _
  rw [S_snoc, S_snoc]
  have h1 : (if decide ((x, y) = (u, v)) = true then (1 : Int) else 0) = if x = u ∧ y = v then 1 else 0 := by
    simp only [decide_eq_true_eq, Prod.mk.injEq]
  have h2 : (if decide ((x, y) = (v, u)) = true then (1 : Int) else 0) = if x = v ∧ y = u then 1 else 0 := by
    simp only [decide_eq_true_eq, Prod.mk.injEq]
  rw [h1, h2]
  omega
theorem sum_succ (f : Nat → Int) (j : Nat) : ((List.range (j + 1)).map f).sum = ((List.range j).map f).sum + f j := by
  rw [List.range_succ, List.map_append, List.sum_append]
  show _ + (f j + 0) = _
  rw [Int.add_zero]
theorem turn_step (A : Int) (a b : Bool) : A + (if a = true then 1 else 0) - (if b = true then 1 else 0) = A + ((LM.b2i a - LM.b2i b) + 0) := by
  cases a <;> cases b <;> simp [LM.b2i] <;> omega
theorem r_eqB {a b : Bool} {H : Hp} {Q : VK} (h : Q (.bl (decide (a = b))) H) : rEq (.bl a) (.bl b) H Q := ⟨rfl, by
  have e : decide (V.bl a = V.bl b) = decide (a = b) := by
    cases a <;> cases b <;> rfl
  rw [e]
  exact h⟩
def sp_mleft (K : PySem.W.Frag) : Sp := sp1 fun x H Q => ∃ (r : Addr) (row : List Int), x = .ref r ∧ SqL K H r (row.map V.int) ∧ 0 < row.length ∧ row.length ≤ 1000 ∧
  ∀ (t : Addr) H', Same H H' → H' t = some (.tup ((leftNums row).map V.int)) → Q (.ref t) H'
theorem c_mleft {K : PySem.W.Frag} {H : Hp} {r : Addr} {row : List Int} {Q : VK} {E : XK} (hS : SqL K H r (row.map V.int)) (h0 : 0 < row.length) (hl : row.length ≤ 1000)
    (h : ∀ (t : Addr) H', Same H H' → H' t = some (.tup ((leftNums row).map V.int)) → Q (.ref t) H') : sp_mleft K ([.ref r] ++ []) H Q E := ⟨_, rfl, r, row, rfl, hS, h0, hl, h⟩
abbrev n__law_left_numbers : List Str := ["row", "numbers", "place", "k", "j", "weights", "a", "b", "right", "far", "near", "turn", "number"]
def t__law_left_numbers (K : PySem.W.Frag) (w : World) : TS :=
  (tSeq (tAsg (tCB (LS.rSortSet w) (tCons (tCB (LS.rSetI K w) (tCons (tVar 0) tNil)) tNil)) (gName 1))
    (tSeq (tAsg tDNewK (gName 2))
    (tSeq (tFor (iRng1 (tCons (tCB (oLen K) (tCons (tVar 1) tNil)) tNil)) (gName 3)
    (sDPut (tVar 2) (tOp (rIxL K) (tVar 1) (tVar 3)) (tVar 3)))
    (tSeq (tAsg (tLc (iList K (tVar 1)) (gName 3) tYes (tLc (iList K (tVar 1)) (gName 4) tYes (tC (.int 0)) [4]) [3]) (gName 5))
    (tSeq (tFor (iRng1 (tCons (tOp oSub (tCB (oLen K) (tCons (tVar 0) tNil)) (tC (.int 1))) tNil)) (gName 3)
    (tSeq (tPar 6 7 (tCons (tDGet (tVar 2) (tOp (rIxL K) (tVar 0) (tVar 3))) (tCons (tDGet (tVar 2) (tOp (rIxL K) (tVar 0) (tOp oAdd (tVar 3) (tC (.int 1))))) tNil)))
    (tSeq (tAsg (tOp oAdd (tOp (rIxL K) (tOp (rIxL K) (tVar 5) (tVar 6)) (tVar 7)) (tC (.int 1))) (gSub (tOp (rIxL K) (tVar 5) (tVar 6)) (tVar 7) rSetL))
    (tAsg (tOp oAdd (tOp (rIxL K) (tOp (rIxL K) (tVar 5) (tVar 7)) (tVar 6)) (tC (.int 1))) (gSub (tOp (rIxL K) (tVar 5) (tVar 7)) (tVar 6) rSetL)))))
    (tSeq (tAsg (tLst tNil) (gName 8))
    (tSeq (tFor (iRng1 (tCons (tCB (oLen K) (tCons (tVar 1) tNil)) tNil)) (gName 3)
    (tSeq (tAsg (tTup (tCons (tC (.int 0)) (tCons (tC (.int 0)) tNil))) (gTup K 2 (gCons (gName 9) (gCons (gName 10) gNil))))
    (tSeq (tFor (iRng1 (tCons (tVar 3) tNil)) (gName 4)
    (tIfS (tB (tOp (rIxL K) (tVar 8) (tVar 4))) (tAsg (tOp oAdd (tVar 9) (tOp (rIxL K) (tOp (rIxL K) (tVar 5) (tVar 3)) (tVar 4))) (gName 9)) (tAsg (tOp oAdd (tVar 10) (tOp (rIxL K) (tOp (rIxL K) (tVar 5) (tVar 3)) (tVar 4))) (gName 10))))
    (tDrop (tBM K "list" rAppend (tVar 8) (tCons (tOp oLt (tVar 9) (tVar 10)) tNil))))))
    (tSeq (tAsg (tC (.int 0)) (gName 11))
    (tSeq (tFor (iRng1 (tCons (tOp oSub (tCB (oLen K) (tCons (tVar 0) tNil)) (tC (.int 1))) tNil)) (gName 3)
    (tAsg (tOp oSub (tOp oAdd (tVar 11) (tCB oInt (tCons (tOp (rIxL K) (tVar 8) (tDGet (tVar 2) (tOp (rIxL K) (tVar 0) (tVar 3)))) tNil))) (tCB oInt (tCons (tOp (rIxL K) (tVar 8) (tDGet (tVar 2) (tOp (rIxL K) (tVar 0) (tOp oAdd (tVar 3) (tC (.int 1)))))) tNil))) (gName 11)))
    (tRet (tThen (tLc (iList K (tVar 1)) (gName 12) (tTest (tOp rEq (tOp (rIxL K) (tVar 8) (tDGet (tVar 2) (tVar 12))) (tOp oGt (tVar 11) (tC (.int 0))))) (tVar 12) [12]) (kTup K))))))))))))
theorem r_mleft {K : PySem.W.Frag} {w : World} (vs : List V) (H : Hp) (Q : VK) (E : XK) (h : sp_mleft K vs H Q E) : t__law_left_numbers K w { nx := fun _ H' => Q .non H', rt := Q } (start n__law_left_numbers vs) H := by
  obtain ⟨_, rfl, r, row, rfl, hS, h0, hlen, q⟩ := h
  unfold t__law_left_numbers
  walk_at "T"
  refine rk_setI (ns := row) (by walk_at "sq") (by omega) fun p c hp hc => ?_
  walk_at "T"
  refine rk_sortSet (ns := row) (c := c) upd_same hc (by omega) fun n hn => ?_
  have s1 : Same H (upd (upd H p (SetO w p (fun j => decide (j ∈ row)) c)) n (.lst ((sortI (dedup row)).map V.int))) := (L2.Same.new hp).upd hn
  have e1 : upd (upd H p (SetO w p (fun j => decide (j ∈ row)) c)) n (.lst ((sortI (dedup row)).map V.int)) n = some (.lst ((sortI (nums row)).map V.int)) := upd_same
  generalize upd (upd H p (SetO w p (fun j => decide (j ∈ row)) c)) n (.lst ((sortI (dedup row)).map V.int)) = H1 at s1 e1
  have hnd : (sortI (nums row)).Nodup := (sortI_perm _).nodup_iff.mpr (nodup_dedup _)
  have hmr : ∀ x, x ∈ sortI (nums row) ↔ x ∈ row := fun x => ((sortI_perm _).mem_iff).trans mem_dedup
  have hml : (sortI (nums row)).length ≤ 1000 := by
    rw [(sortI_perm _).length_eq]
    exact Nat.le_trans (len_dedup row) hlen
  have hlm := left_mat row
  have hoR : ∀ x, onR row x = (rights (wmat (zipT row)) (sortI (nums row)) (sortI (nums row)).length).getD ((sortI (nums row)).idxOf x) false := fun x => rfl
  generalize sortI (nums row) = srt at e1 hnd hmr hml hlm hoR
  walk_at "T"
  rename_i d hd
  refine for_w (w_rng (lo := 0) (n := srt.length)) (fun i σ H' => ∃ (y3 : Option V) (tab : List (Int × Int)), σ = [some (.ref r), some (.ref n), some (.ref d), y3, none, none, none, none, none, none, none, none, none] ∧ Same H1 H' ∧ H' d = some (.dK (encI tab)) ∧ tab.length ≤ i ∧ ∀ j, j < i → look tab (srt.getD j 0) = some (j : Int))
    ⟨none, [], rfl, L2.Same.new hd, upd_same, Nat.le_refl _, fun _ z => absurd z (Nat.not_lt_zero _)⟩ (fun _ _ _ _ _ => trivial) ?_ ?_
  · rintro i σ _ x H' hi ⟨y3, tab, rfl, sm, ed, htl, htab⟩ ⟨rfl, rfl⟩
    have en := sm _ _ e1
    walk_at "S"
    rw [show (0 + (i : Int)).toNat = i by omega]
    refine k_put (f := V.int) ed (by rw [sizeLine_eq]; omega) ?_
    refine ⟨_, _, rfl, sm.mut hd, upd_same, ?_, fun j hj => ?_⟩
    · have := length_put tab (srt.getD i 0) (0 + (i : Int))
      omega
    · rw [look_put]
      by_cases h : j = i
      · subst h
        rw [if_pos rfl, Int.zero_add]
      · rw [if_neg (nodup_getD hnd (show j < i by omega) hi)]
        exact htab j (by omega)
  · rintro σ H2 ⟨y3, tab, rfl, s2, ed, htl, htab⟩
    have hidx : ∀ x, x ∈ row → ∃ j, j < srt.length ∧ srt.getD j 0 = x ∧ look tab x = some (j : Int) ∧ srt.idxOf x = j := fun x hx => by
      have hm := (hmr x).mpr hx
      have hi := List.idxOf_lt_length_of_mem hm
      have e : srt.getD (srt.idxOf x) 0 = x := by
        rw [List.getD_eq_getElem?_getD, List.getElem?_eq_getElem hi, List.getElem_idxOf hi]
        rfl
      exact ⟨_, hi, e, by have := htab _ hi; rw [e] at this; exact this, rfl⟩
    have e2 := s2 _ _ e1
    walk_at "T"
    rename_i D hD
    refine lc_w (w_list (xs := srt.map V.int)) (fun i H' => ∃ ws : List Addr, H' D = some (.lst (ws.map V.ref)) ∧ ws.length = i ∧ (∀ a ∈ ws, a ≠ D) ∧ MatAt H2 H' ws srt.length fun _ _ => 0) ⟨[], upd_same, rfl, (fun _ z => nomatch z), (fun _ _ e => nomatch e), List.nodup_nil, (fun _ z => nomatch z), L2.Same.new hD⟩ (fun i H' _ z => by
      obtain ⟨ws, _, _, _, M⟩ := z
      exact SqL.of (M.same _ _ e2)) ?_ ?_
    · rintro i _ x H' hi ⟨ws, eD, hwl, hne, M⟩ ⟨rfl, hx⟩
      obtain ⟨z, ez, rfl⟩ := map_int_get hx
      rw [List.length_map] at hi
      have en := M.same _ _ e2
      walk_at "T"
      rename_i a ha
      refine lcp_w (w_list (xs := srt.map V.int)) (fun _ => true) (fun _ => V.int 0) (by rw [List.length_map]; omega) ha (fun H6 s6 => SqL.of (s6 _ _ en)) ?_ ?_ ?_
      · rintro j H6 y _ ⟨rfl, _⟩
        exact Same.refl _
      · rintro j _ y H6 Rt Rf hj s6 ⟨rfl, hy⟩ kt kf
        walk_at "T"
        exact kt _ (Same.refl _) rfl
      · rintro H6 s6 h6
        have eD6 := s6 _ _ eD
        have naD : a ≠ D := (ne_none ha eD).symm
        have haw : a ∉ ws := fun z => by
          obtain ⟨j, hj⟩ := List.getElem?_of_mem z
          exact ne_none ha (M.row j a hj) rfl
        have M6 := (M.go s6).mut (p := D) (o := .lst (ws.map V.ref ++ [.ref a])) hD hne
        refine ⟨_, eD6, by rw [List.length_map, sizeLine_eq]; omega, ws ++ [a], ?_, ?_, ?_, ?_⟩
        · rw [upd_same, List.map_append]
          rfl
        · rw [List.length_append, hwl]
          rfl
        · intro b hb
          rcases List.mem_append.mp hb with hb | hb
          · exact hne b hb
          · rw [List.mem_singleton.mp hb]
            exact naD
        · refine ⟨fun j b e => ?_, ?_, fun b hb => ?_, M6.same⟩
          · by_cases hj : j < ws.length
            · rw [List.getElem?_append_left hj] at e
              exact M6.row j b e
            · rw [List.getElem?_append_right (by omega)] at e
              have hb : b = a := by
                cases hk : j - ws.length with
                | zero =>
                  rw [hk] at e
                  exact (Option.some.inj e).symm
                | succ k =>
                  rw [hk] at e
                  cases e
              subst hb
              rw [upd_ne naD, h6]
              congr 2
              have : ∀ k, given (fun _ => true) (fun _ => V.int 0) k = ((List.range k).map fun _ => (0 : Int)).map V.int := by
                intro k
                induction k with
                | zero => rfl
                | succ k ih =>
                  show given (fun _ => true) (fun _ => V.int 0) k ++ [V.int 0] = _
                  rw [ih, List.range_succ, List.map_append, List.map_append]
                  rfl
              rw [this, List.length_map]
          · refine List.nodup_append.mpr ⟨M.nd, List.pairwise_singleton _ a, fun x hx y hy e => ?_⟩
            rw [List.mem_singleton.mp hy] at e
            exact haw (e ▸ hx)
          · rcases List.mem_append.mp hb with hb | hb
            · exact M.fresh b hb
            · rw [List.mem_singleton.mp hb]
              exact none_of M.same ha
    · rintro H3 ⟨ws, eD, hwl, hne, M⟩
      rw [List.length_map] at hwl
      have hws : ∀ j, j < srt.length → ∃ a, ws[j]? = some a := fun j hj => ⟨ws[j]'(by omega), List.getElem?_eq_getElem (by omega)⟩
      have hS3 := ((s1.trans s2).trans M.same).seq hS
      walk_at "T"
      have hn' : (↑row.length - 1 : Int).toNat = row.length - 1 := by omega
      rw [hn']
      have M0 : MatAt H2 H3 ws srt.length fun j i => wmat ((zipT row).take 0) (srt.getD j 0) (srt.getD i 0) := M
      refine for_w (w_rng (lo := 0) (n := row.length - 1)) (fun k σ H' => ∃ (y3 y6 y7 : Option V), σ = [some (.ref r), some (.ref n), some (.ref d), y3, none, some (.ref D), y6, y7, none, none, none, none, none] ∧ H' D = some (.lst (ws.map V.ref)) ∧ MatAt H2 H' ws srt.length fun j i => wmat ((zipT row).take k) (srt.getD j 0) (srt.getD i 0))
        ⟨_, none, none, rfl, eD, M0⟩ (fun _ _ _ _ _ => trivial) ?_ ?_
      · rintro k σ _ x H' hk ⟨y3, y6, y7, rfl, eD', M'⟩ ⟨rfl, rfl⟩
        have hS' := ((s1.trans s2).trans M'.same).seq hS
        have ed' := M'.same _ _ ed
        obtain ⟨x, ex, _⟩ := map_int_at (row := row) (i := k) (by omega)
        obtain ⟨y, ey, _⟩ := map_int_at (row := row) (i := k + 1) (by omega)
        obtain ⟨jx, hjx, gx, lx, _⟩ := hidx x (mem_of_get ex)
        obtain ⟨jy, hjy, gy, ly, _⟩ := hidx y (mem_of_get ey)
        obtain ⟨ax, hax⟩ := hws jx hjx
        obtain ⟨ay, hay⟩ := hws jy hjy
        walk_at "T"
        rw [getD_of ex (by omega)]
        refine k_get (f := V.int) (.inl ed') lx ?_
        walk_at "T"
        rw [getD_of ey (by omega)]
        refine k_get (f := V.int) (.inl ed') ly ?_
        walk_at "s"
        walk_at "s"
        walk_at "s"
        with_reducible refine s_matInc (x := jx) (y := jy) eD' M' hne ?v5 ?v6 ?v7 hax hjy fun H5 eD5 M5 => ?_
        case v5 => rfl
        case v6 => rfl
        case v7 => rfl
        with_reducible refine s_matInc (x := jy) (y := jx) eD5 M5 hne ?v5 ?v6 ?v7 hay hjx fun H6 eD6 M6 => ?_
        case v5 => rfl
        case v6 => rfl
        case v7 => rfl
        refine ⟨_, _, _, rfl, eD6, M6.congr fun j i hj hi => ?_⟩
        rw [hwl] at hj
        rw [take_snoc (zipT_get ex ey), wmat_snoc]
        have gj : ∀ {j' : Nat} {z : Int} {jz : Nat}, j' < srt.length → jz < srt.length → srt.getD jz 0 = z → (z = srt.getD j' 0 ↔ j' = jz) := fun {j' z jz} h1 h2 h3 => by
          constructor
          · intro e
            rcases Nat.lt_trichotomy j' jz with l | l | l
            · exact absurd (e.symm.trans h3.symm) (nodup_getD hnd l h2)
            · exact l
            · exact absurd (h3.trans e) (nodup_getD hnd l h1)
          · intro e
            subst e
            exact h3.symm
        have b1 := gj hj hjx gx
        have b2 := gj hi hjy gy
        have b3 := gj hi hjx gx
        have b4 := gj hj hjy gy
        have c1 : (x = srt.getD j 0 ∧ y = srt.getD i 0) ↔ (j = jx ∧ i = jy) := by rw [b1, b2]
        have c2 : (x = srt.getD i 0 ∧ y = srt.getD j 0) ↔ (j = jy ∧ i = jx) := by rw [b3, b4]; exact ⟨fun z => ⟨z.2, z.1⟩, fun z => ⟨z.2, z.1⟩⟩
        simp only [c1, c2]
        by_cases z1 : j = jx ∧ i = jy
        · by_cases z2 : j = jy ∧ i = jx
          · obtain ⟨rfl, rfl⟩ := z1
            obtain ⟨z3, _⟩ := z2
            subst z3
            simp
          · rw [if_neg z2, if_pos z1, if_pos z1, if_neg z2, z1.1, z1.2]
            omega
        · by_cases z2 : j = jy ∧ i = jx
          · have z4 : ¬ (jy = jx ∧ jx = jy) := fun z => z1 ⟨z2.1.trans z.1, z2.2.trans z.2⟩
            rw [if_pos z2, if_neg z4, if_neg z1, if_pos z2, z2.1, z2.2]
            omega
          · rw [if_neg z2, if_neg z1, if_neg z1, if_neg z2]
            omega
      · rintro σ H4 ⟨y3, y6, y7, rfl, eD4, M4⟩
        have e4 := M4.same _ _ e2
        have ed4 := M4.same _ _ ed
        have hS4 := ((s1.trans s2).trans M4.same).seq hS
        have hz : (zipT row).take (row.length - 1) = zipT row := List.take_of_length_le (by rw [zipT_len]; omega)
        rw [hz] at M4
        generalize hwm : wmat (zipT row) = wm at M4 hoR
        walk_at "T"
        rename_i R hR
        refine for_w (w_rng (lo := 0) (n := srt.length)) (fun k σ H' => ∃ (v3 v4 v9 v10 : Option V), σ = [some (.ref r), some (.ref n), some (.ref d), v3, v4, some (.ref D), y6, y7, some (.ref R), v9, v10, none, none] ∧ Same H4 H' ∧ H' R = some (.lst ((rights wm srt k).map V.bl)))
          ⟨_, _, _, _, rfl, Same.new hR, upd_same⟩ (fun _ _ _ _ _ => trivial) ?_ ?_
        · rintro k σ _ x H' hk ⟨v3, v4, v9, v10, rfl, s', eR⟩ ⟨rfl, rfl⟩
          obtain ⟨ak, hak⟩ := hws k hk
          have hxw : atI (ws.map V.ref) (0 + (k : Int)) = some (.ref ak) := by
            rw [Int.zero_add]
            exact atI_nat (by rw [List.getElem?_map, hak]; rfl)
          have hrk := M4.row k ak hak
          walk_at "T"
          rename_i t ht
          refine g_tup (SqT.of upd_same) rfl ?_
          walk_at "T"
          rw [show (0 + (k : Int)).toNat = k by omega]
          refine for_w (w_rng (lo := 0) (n := k)) (fun j σ H6 => ∃ (v4 : Option V), σ = [some (.ref r), some (.ref n), some (.ref d), some (.int (0 + (k : Int))), v4, some (.ref D), y6, y7, some (.ref R), 
            some (.int ((List.range j).map fun i => if (rights wm srt k).getD i false = true then wm (srt.getD k 0) (srt.getD i 0) else 0).sum), some (.int ((List.range j).map fun i => if (rights wm srt k).getD i false = true then 0 else wm (srt.getD k 0) (srt.getD i 0)).sum), none, none] ∧ H6 = upd H' t (.tup [.int 0, .int 0]))
            ⟨_, rfl, rfl⟩ (fun _ _ _ _ _ => trivial) ?_ ?_
          · rintro j σ _ x H6 hj ⟨v4, rfl, rfl⟩ ⟨rfl, rfl⟩
            have hrl : (rights wm srt k).length = k := rights_len wm srt k
            have hwl' : ((List.range srt.length).map fun i => wm (srt.getD k 0) (srt.getD i 0)).length = srt.length := by rw [List.length_map, List.length_range]
            obtain ⟨b, hb⟩ : ∃ b, (rights wm srt k)[j]? = some b := ⟨_, List.getElem?_eq_getElem (by omega)⟩
            have hbd : (rights wm srt k).getD j false = b := by
              rw [List.getD_eq_getElem?_getD, hb]
              rfl
            have hbt : atI ((rights wm srt k).map V.bl) (0 + (j : Int)) = some (.bl b) := by
              rw [Int.zero_add]
              exact atI_nat (by rw [List.getElem?_map, hb]; rfl)
            have eD6 := u_old (w := HO.tup [.int 0, .int 0]) (s' _ _ eD4) ht
            have er6 := u_old (w := HO.tup [.int 0, .int 0]) (s' _ _ hrk) ht
            walk_at "T"
            refine r_ixL (SqL.of (by walk_at "hp")) hbt ?_
            walk_at "T"
            have hyk : (0 : Int) ≤ 0 + (j : Int) := by omega
            have hyl : (0 + (j : Int)) < (((List.range srt.length).map fun i => wm (srt.getD k 0) (srt.getD i 0)).length : Int) := by rw [hwl']; omega
            have hyv : ((List.range srt.length).map fun i => wm (srt.getD k 0) (srt.getD i 0)).getD (0 + (j : Int)).toNat 0 = wm (srt.getD k 0) (srt.getD j 0) := by
              rw [show (0 + (j : Int)).toNat = j by omega, row_getD _ _ (by omega)]
            refine t_ite (fun hbT => ?_) (fun hbF => ?_)
            · walk_at "T"
              refine r_ixL (SqL.of eD6) hxw ?_
              walk_at "T"
              rw [hyv]
              refine ⟨some (.int (0 + (j : Int))), ?_, rfl⟩
              rw [sum_succ, sum_succ, hbd, hbT, if_pos rfl, if_pos rfl, Int.add_zero]
              rfl
            · walk_at "T"
              refine r_ixL (SqL.of eD6) hxw ?_
              walk_at "T"
              rw [hyv]
              refine ⟨some (.int (0 + (j : Int))), ?_, rfl⟩
              rw [sum_succ, sum_succ, hbd, hbF, if_neg Bool.false_ne_true, if_neg Bool.false_ne_true, Int.add_zero]
              rfl
          · rintro σ H6 ⟨v4, rfl, rfl⟩
            walk_at "T"
            refine r_app (u_old eR ht) (by rw [List.length_map, rights_len, sizeLine_eq]; omega) ?_
            refine ⟨_, _, _, _, rfl, (s'.trans (Same.new ht)).mut hR, ?_⟩
            rw [upd_same]
            show _ = some (HO.lst (List.map V.bl (rights wm srt k ++ _)))
            rw [List.map_append]
            rfl
        · rintro σ H5 ⟨v3, v4, v9, v10, rfl, s5, eR⟩
          have hRl : (rights wm srt srt.length).length = srt.length := rights_len wm srt _
          have ed5 := s5 _ _ ed4
          have e5 := s5 _ _ e4
          have hS5 := s5.seq hS4
          have hq : ∀ x, x ∈ row → ∃ j : Nat, look tab x = some (j : Int) ∧ atI ((rights wm srt srt.length).map V.bl) (j : Int) = some (.bl (onR row x)) := fun x hx => by
            obtain ⟨j, hj, _, lj, ij⟩ := hidx x hx
            refine ⟨j, lj, atI_nat ?_⟩
            rw [hoR, ij, List.getElem?_map, List.getD_eq_getElem?_getD, List.getElem?_eq_getElem (by omega)]
            rfl
          walk_at "T"
          rw [hn']
          refine for_w (w_rng (lo := 0) (n := row.length - 1)) (fun k σ H6 => ∃ v3 : Option V, σ = [some (.ref r), some (.ref n), some (.ref d), v3, v4, some (.ref D), y6, y7, some (.ref R), v9, v10, some (.int (((zipT row).take k).map fun p : P2 => LM.b2i (onR row p.1) - LM.b2i (onR row p.2)).sum), none] ∧ H6 = H5)
            ⟨_, rfl, rfl⟩ (fun _ _ _ _ _ => trivial) ?_ ?_
          · rintro k σ _ x H6 hk ⟨v3, rfl, rfl⟩ ⟨rfl, rfl⟩
            obtain ⟨x, ex, _⟩ := map_int_at (row := row) (i := k) (by omega)
            obtain ⟨y, ey, _⟩ := map_int_at (row := row) (i := k + 1) (by omega)
            obtain ⟨jx, lx, rx⟩ := hq x (mem_of_get ex)
            obtain ⟨jy, ly, ry⟩ := hq y (mem_of_get ey)
            walk_at "T"
            rw [getD_of ex (by omega)]
            refine k_get (f := V.int) (.inl ed5) lx ?_
            refine r_ixL (SqL.of eR) rx ?_
            walk_at "T"
            rw [getD_of ey (by omega)]
            refine k_get (f := V.int) (.inl ed5) ly ?_
            refine r_ixL (SqL.of eR) ry ?_
            walk_at "T"
            refine ⟨some (.int (0 + (k : Int))), ?_, rfl⟩
            rw [take_snoc (zipT_get ex ey), List.map_append, List.sum_append]
            rw [turn_step]
            rfl
          · rintro σ H6 ⟨v3, rfl, rfl⟩
            rw [hz]
            have htn : ((zipT row).map fun p : P2 => LM.b2i (onR row p.1) - LM.b2i (onR row p.2)).sum = turnOf row := rfl
            rw [htn]
            walk_at "T"
            rename_i f hf
            refine lcp_w (w_list (xs := srt.map V.int)) (fun i => decide (onR row (srt.getD i 0) = decide (0 < turnOf row))) (fun i => V.int (srt.getD i 0)) (by rw [List.length_map]; omega) hf (fun H7 s7 => SqL.of (s7 _ _ e5)) ?_ ?_ ?_
            · rintro i H7 x _ ⟨rfl, _⟩
              exact Same.refl _
            · rintro i _ x H7 Rt Rf hi s7 ⟨rfl, hx⟩ kt kf
              obtain ⟨x, ex, rfl⟩ := map_int_get hx
              rw [getD_get ex] at kt kf
              obtain ⟨j, lj, rj⟩ := hq x ((hmr x).mp (mem_of_get ex))
              walk_at "T"
              refine k_get (f := V.int) (.inl (s7 _ _ ed5)) lj ?_
              refine r_ixL (SqL.of (s7 _ _ eR)) rj ?_
              walk_at "T"
              refine r_eqB ?_
              walk_at "T"
              refine t_iteD (fun e => ?_) (fun e => ?_)
              · walk_at "T"
                exact kt _ (Same.refl _) (decide_eq_true e)
              · exact kf _ (Same.refl _) (decide_eq_false e)
            · rintro H7 s7 h7
              have eg := given_filter srt (fun x => decide (onR row x = decide (0 < turnOf row))) V.int (fun i => decide (onR row (srt.getD i 0) = decide (0 < turnOf row))) (fun i => V.int (srt.getD i 0)) fun i x ex => by
                rw [getD_get ex]
                exact ⟨rfl, fun _ => rfl⟩
              rw [List.length_map, eg] at h7
              walk_at "T"
              refine r_tupLI (ns := srt.filter fun x => decide (onR row x = decide (0 < turnOf row))) (SqL.of h7) fun t ht => ?_
              have sall : Same H H6 := (((s1.trans s2).trans M4.same).trans s5)
              refine q t _ ((sall.trans s7).upd ht) ?_
              rw [upd_same, hlm]
end K15

end
section
set_option Elab.async false
set_option linter.all false
set_option maxRecDepth 100000
set_option maxHeartbeats 4000000
namespace K15
open PySem PySem.Spec PyProof.Rows L2 LW LM
/-! ### steps of a reading, heaps: short tactics -/
local macro_rules | `(tactic| walk_at "ne") => `(tactic| first
  | assumption
  | (apply Ne.symm; assumption)
  | exact ne_none (by assumption) (by assumption)
  | exact (ne_none (by assumption) (by assumption)).symm
  | exact ne_of (by assumption) (by assumption) (by intro z; cases z))
local macro_rules | `(tactic| walk_at "hp") => `(tactic| first
  | assumption
  | with_reducible exact upd_same
  | ((first
      | with_reducible refine u_old ?_ (by assumption)
      | with_reducible refine u_oth (by walk_at "ne") ?_
      | with_reducible refine same_app (by assumption) ?_
      | with_reducible refine kb_app (by assumption) (by walk_at "ne") ?_); walk_at "hp")
  | ((with_reducible refine u_kind ?h (by assumption) ?d); (case h => walk_at "hp"); (case d => (intro z; cases z))))
local macro_rules | `(tactic| walk_at "sq") => `(tactic| first
  | assumption
  | exact SqL.of (by walk_at "hp")
  | exact SqT.of (by walk_at "hp")
  | (with_reducible refine same_sqT (by assumption) ?_; walk_at "sq")
  | (with_reducible refine same_sqL (by assumption) ?_; walk_at "sq")
  | (with_reducible refine new_sqT (by assumption) ?_; walk_at "sq")
  | (with_reducible refine new_sqL (by assumption) ?_; walk_at "sq")
  | ((with_reducible refine mut_sqT (u := ?uu) ?hd ?hm ?_); (case hd => walk_at "hp"); (case hm => exact trivial); walk_at "sq"))
local macro_rules | `(tactic| walk_at "rd") => `(tactic| first
  | assumption
  | exact .inl (by walk_at "hp")
  | exact .inr ⟨_, by walk_at "hp"⟩)
local macro_rules | `(tactic| walk_at "s") => `(tactic| first
  | with_reducible refine s_seq ?_
  | with_reducible refine s_asg ?_
  | with_reducible refine g_name ?_
  | ((with_reducible refine e_var (v := ?vv) ?hv ?_); (case hv => rfl))
  | with_reducible refine e_c ?_
  | with_reducible refine e_op ?_
  | with_reducible refine a_cons ?_
  | with_reducible refine a_nil ?_
  | with_reducible refine e_cb ?_
  | with_reducible refine e_call ?_
  | with_reducible refine e_callK ?_
  | with_reducible refine s_ret ?_
  | with_reducible refine s_retN ?_
  | with_reducible refine s_drop ?_
  | with_reducible refine s_ifs ?_
  | with_reducible refine s_next ?_
  | with_reducible refine s_cont ?_
  | with_reducible refine s_brk ?_
  | with_reducible refine s_par ?_
  | with_reducible refine s_par3 ?_
  | with_reducible refine e_un ?_
  | with_reducible refine e_if ?_
  | with_reducible refine e_andV ?_
  | with_reducible refine e_orV ?_
  | with_reducible refine e_notV ?_
  | with_reducible refine e_dget ?_
  | with_reducible refine e_dget2 ?_
  | with_reducible refine e_din ?_
  | with_reducible refine e_dnotin ?_
  | with_reducible refine e_then ?_
  | with_reducible refine e_bm ?_
  | with_reducible refine e_bm0 ?_
  | with_reducible refine e_sl ?_
  | with_reducible refine o_none ?_
  | with_reducible refine o_part ?_
  | with_reducible refine g_sub ?_
  | with_reducible refine g_nil ?_
  | with_reducible refine g_cons ?_
  | with_reducible refine t_test ?_
  | with_reducible refine t_B ?_
  | with_reducible refine t_and ?_
  | with_reducible refine t_or ?_
  | with_reducible refine t_not ?_
  | ((with_reducible refine r_ixI (ns := ?ns) ?hs ?h0 ?h1 ?_); (case hs => walk_at "sq"); (case h0 => omega); (case h1 => omega))
  | ((with_reducible refine r_ixL (xs := ?xs) (v := ?vv) ?hs ?hi ?_); (case hs => walk_at "sq"); (case hi => rfl))
  | ((with_reducible refine r_ixT (xs := ?xs) (v := ?vv) ?hs ?hi ?_); (case hs => walk_at "sq"); (case hi => rfl))
  | ((with_reducible refine g_setL (xs := ?xs) (j := ?jj) ?hp ?hj ?_); (case hp => walk_at "hp"); (case hj => rfl))
  | ((with_reducible refine r_mul ?hc ?_); (case hc => first | exact .inr (by decide) | exact .inl (by decide) | exact .inl ⟨by omega, by omega⟩ | exact .inr ⟨by omega, by omega⟩))
  | ((with_reducible refine r_mod ?hc ?_); (case hc => first | decide | omega))
  | ((with_reducible refine r_fdivN ?hc ?_); (case hc => exact ⟨by first | decide | omega, by first | decide | omega⟩))
  | ((with_reducible refine r_pow ?hc ?_); (case hc => first | decide | exact ⟨by decide, by decide⟩ | (unfold CPow; decide)))
  | ((with_reducible refine r_lenI (ns := ?ns) ?hs ?_); (case hs => walk_at "sq"))
  | ((with_reducible refine r_lenTI (ns := ?ns) ?hs ?_); (case hs => walk_at "sq"))
  | ((with_reducible refine r_lenL (xs := ?xs) ?hs ?_); (case hs => walk_at "sq"))
  | ((with_reducible refine r_lenT (xs := ?xs) ?hs ?_); (case hs => walk_at "sq"))
  | ((with_reducible refine r_tyL (xs := ?xs) ?hs ?_); (case hs => walk_at "sq"))
  | with_reducible refine r_add ?_
  | with_reducible refine r_sub ?_
  | with_reducible refine r_lt ?_
  | with_reducible refine r_le ?_
  | with_reducible refine r_gt ?_
  | with_reducible refine r_ge ?_
  | with_reducible refine r_eqI ?_
  | with_reducible refine r_neI ?_
  | with_reducible refine r_int ?_
  | with_reducible refine r_intb ?_
  | with_reducible refine r_neg ?_
  | with_reducible refine r_max2 ?_
  | with_reducible refine r_min2 ?_
  | with_reducible refine c_sp1 ?_
  | with_reducible refine c_sp2 ?_
  | with_reducible refine c_sp3 ?_
  | with_reducible refine c_sp4 ?_
  | with_reducible refine c_sp5 ?_
  | with_reducible refine t_end ?_
  | with_reducible refine o_part_end ?_
  | ((with_reducible refine s_aug (x := ?xx) ?hx ?_); (case hx => rfl))
  | with_reducible refine s_for ?_
  | with_reducible refine i_list ?_
  | with_reducible refine i_tup ?_
  | with_reducible refine i_rng1 ?_
  | with_reducible refine i_rng2 ?_
  | with_reducible refine i_keys ?_
  | with_reducible refine i_items ?_
  | with_reducible refine i_zip2 ?_
  | with_reducible refine i_enum2 ?_
  | ((with_reducible refine i_rng1E ?h1 ?h2 ?_); (case h1 => omega); (case h2 => omega))
  | ((with_reducible refine i_rng2E ?h1 ?_); (case h1 => omega))
  | ((with_reducible refine i_listE (xs := ?xs) ?hs ?_); (case hs => walk_at "sq"))
  | ((with_reducible refine i_tupE (xs := ?xs) ?hs ?_); (case hs => walk_at "sq"))
  | ((with_reducible refine q_isD ?hi ?_); (case hi => first | exact isD_K (by walk_at "rd") | exact isD_T (by walk_at "rd")))
  | with_reducible refine q_ref ?_
  | with_reducible refine e_dnewK ?_
  | with_reducible refine e_dnewT ?_
  | with_reducible refine e_tup ?_
  | with_reducible refine e_lst ?_
  | ((with_reducible refine r_new ?hn ?_); (case hn => exact Nat.le_of_ble_eq_true rfl))
  | with_reducible refine r_fresh fun _ _ => ?_
  | with_reducible refine s_par_end ?_
  | with_reducible refine s_par3_end ?_
  | with_reducible refine e_lc ?_
  | with_reducible refine e_dc ?_
  | with_reducible refine e_dcT ?_
  | with_reducible refine t_tyes ?_
  | with_reducible refine t_tt ?_
  | with_reducible refine t_ff ?_
  | with_reducible refine c_wipe rfl ?_)
local macro_rules | `(tactic| walk_at "S") => `(tactic| repeat' first | walk_at "s" | with_reducible refine s_dput ?_)
local macro_rules | `(tactic| walk_at "T") => `(tactic| repeat' walk_at "s")

/-! ### the urn -/
structure Bag (H : Hp) (b ce : Addr) : Prop where
  ex : ∃ (c st : Int) (cs : List Int), H b = some (.lst [.ref ce, .int st, .int c]) ∧ H ce = some (.lst (cs.map V.int)) ∧ cs ≠ [] ∧ cs.length ≤ 1000 ∧ ce ≠ b
section
variable {H H' : Hp} {b ce p : Addr} {o : HO} {Q : VK} {E : XK}
theorem Bag.nb (B : Bag H b ce) (h : H p = none) : p ≠ b := by
  obtain ⟨c, st, cs, hb, hc, _⟩ := B.ex
  exact fun e => by
    subst e
    rw [hb] at h
    cases h
theorem Bag.nc (B : Bag H b ce) (h : H p = none) : p ≠ ce := by
  obtain ⟨c, st, cs, hb, hc, _⟩ := B.ex
  exact fun e => by
    subst e
    rw [hc] at h
    cases h
theorem Bag.mut (B : Bag H b ce) (nb : p ≠ b) (nc : p ≠ ce) : Bag (upd H p o) b ce := by
  obtain ⟨c, st, cs, hb, hc, r⟩ := B.ex
  exact ⟨c, st, cs, u_oth nb.symm hb, u_oth nc.symm hc, r⟩
theorem Bag.new (B : Bag H b ce) (h : H p = none) : Bag (upd H p o) b ce := B.mut (B.nb h) (B.nc h)
theorem Bag.same (B : Bag H b ce) (s : Same H H') : Bag H' b ce := by
  obtain ⟨c, st, cs, hb, hc, r⟩ := B.ex
  exact ⟨c, st, cs, s _ _ hb, s _ _ hc, r⟩
theorem Bag.lst (B : Bag H b ce) {ns : List Int} (h : H p = some (.lst (ns.map V.int))) : p ≠ b := by
  obtain ⟨c, st, cs, hb, hc, r⟩ := B.ex
  intro e
  subst e
  rw [hb] at h
  have h1 := HO.lst.inj (Option.some.inj h)
  match ns, h1 with
  | [_, _, _], h1 => cases h1
def sp_draw : Sp := sp2 fun x y H Q => ∃ (b ce : Addr) (m : Int), x = .ref b ∧ y = .int m ∧ Bag H b ce ∧ 0 < m ∧ ∀ v H', 0 ≤ v → v < m → Bag H' b ce → Kb b H H' → Q (.int v) H'
theorem c_draw {m : Int} (hB : Bag H b ce) (hm : 0 < m) (h : ∀ v H', 0 ≤ v → v < m → Bag H' b ce → Kb b H H' → Q (.int v) H') : sp_draw ([.ref b, .int m] ++ []) H Q E := ⟨_, _, rfl, b, ce, m, rfl, rfl, hB, hm, h⟩
end
abbrev n__law_draw : List Str := ["urn", "many", "at"]
def t__law_draw (K : PySem.W.Frag) (w : World) : TS :=
  (tSeq (tAsg (tOp oAdd (tOp (rIxL K) (tVar 0) (tC (.int 2))) (tC (.int 1))) (gSub (tVar 0) (tC (.int 2)) rSetL))
    (tSeq (tAsg (tOp oMod (tCB oInt (tCons (tOp oAdd (tOp oMul (tOp (rIxL K) (tVar 0) (tC (.int 2))) (tC (.int 5))) (tOp oFdiv (tOp (rIxL K) (tVar 0) (tC (.int 2))) (tC (.int 3)))) tNil)) (tCB (oLen K) (tCons (tOp (rIxL K) (tVar 0) (tC (.int 0))) tNil))) (gName 2))
    (tSeq (tAsg (tOp oMod (tCB oInt (tCons (tOp oAdd (tOp oAdd (tOp oAdd (tOp oMul (tOp (rIxL K) (tVar 0) (tC (.int 1))) (tC (.int 16807))) (tOp (rIxL K) (tOp (rIxL K) (tVar 0) (tC (.int 0))) (tVar 2))) (tOp oMul (tOp (rIxL K) (tVar 0) (tC (.int 2))) (tC (.int 613)))) (tC (.int 1))) tNil)) (tC (.int 2147483563))) (gSub (tVar 0) (tC (.int 1)) rSetL))
    (tRet (tOp oMod (tCB oInt (tCons (tOp oFdiv (tOp (rIxL K) (tVar 0) (tC (.int 1))) (tC (.int 13))) tNil)) (tVar 1))))))
theorem r_draw {K : PySem.W.Frag} {w : World} (vs : List V) (H : Hp) (Q : VK) (E : XK) (h : sp_draw vs H Q E) : t__law_draw K w { nx := fun _ H' => Q .non H', rt := Q } (start n__law_draw vs) H := by
  obtain ⟨_, _, rfl, b, ce, m, rfl, rfl, ⟨c, st, cs, hb, hce, hne, hlen, ncb⟩, hm, q⟩ := h
  unfold t__law_draw
  have hlen0 : 0 < cs.length := List.length_pos_iff.mpr hne
  have hml : (cs.map V.int).length = cs.length := List.length_map _
  walk_at "S"
  refine r_ixL (by walk_at "sq") (at_int (fm_nn (by omega)) (fm_lt (by omega))) ?_
  walk_at "S"
  refine q _ _ (fm_nn hm) (fm_lt hm) ⟨_, _, cs, upd_same, by walk_at "hp", hne, hlen, ncb⟩ ?_
  exact Kb.self (Kb.self (Kb.refl _ _))
/-! ### the urn made -/
def sp_urn (K : PySem.W.Frag) : Sp := sp1 fun x H Q => ∃ (a : Addr) (ns : List Int), x = .ref a ∧ SqL K H a (ns.map V.int) ∧ ∀ b ce H', Bag H' b ce → Same H H' → Q (.ref b) H'
abbrev n__law_urn : List Str := ["script", "cells", "cell"]
def t__law_urn (K : PySem.W.Frag) (w : World) : TS :=
  (tSeq (tAsg (tLc (iList K (tSl (rSlL K) (tVar 0) tNoPart (tPart (tC (.int 500))))) (gName 2) tYes (tOp oMod (tCB oInt (tCons (tVar 2) tNil)) (tC (.int 1000033))) [2]) (gName 1))
    (tRet (tLst (tCons (tOp rCat (tLst (tCons (tC (.int 11)) tNil)) (tVar 1)) (tCons (tOp oAdd (tC (.int 401)) (tCB (oLen K) (tCons (tVar 1) tNil))) (tCons (tC (.int 0)) tNil))))))
theorem r_urn {K : PySem.W.Frag} {w : World} (vs : List V) (H : Hp) (Q : VK) (E : XK) (h : sp_urn K vs H Q E) : t__law_urn K w { nx := fun _ H' => Q .non H', rt := Q } (start n__law_urn vs) H := by
  obtain ⟨_, rfl, a, ns, rfl, hS, q⟩ := h
  unfold t__law_urn
  walk_at "S"
  refine r_slTo (ns := ns) 500 (by walk_at "sq") fun p hp => ?_
  walk_at "T"
  rename_i f hf
  have hpl : SqL K (upd H p (.lst ((ns.take 500).map V.int))) p ((ns.take 500).map V.int) := SqL.of upd_same
  have hln : (ns.take 500).length ≤ 500 := by rw [List.length_take]; omega
  generalize ns.take 500 = ms at hpl hln hf ⊢
  refine lcp_w (w_list (xs := ms.map V.int)) (fun _ => true) (fun i => V.int ((ms.getD i 0).fmod 1000033)) (by rw [List.length_map]; omega) hf (fun H6 s6 => by walk_at "sq") ?_ ?_ ?_
  · rintro i H6 x _ ⟨rfl, _⟩
    exact Same.refl _
  · rintro i _ x H6 Rt Rf hi s6 ⟨rfl, hx⟩ kt kf
    obtain ⟨x, ex, rfl⟩ := map_int_get hx
    rw [getD_get ex] at kt
    walk_at "T"
    exact kt _ (Same.refl _) rfl
  · rintro H6 s6 h6
    have eg := given_filter ms (fun _ => true) (fun x => V.int (x.fmod 1000033)) (fun _ => true) (fun i => V.int ((ms.getD i 0).fmod 1000033)) fun i x ex => by
      rw [getD_get ex]
      exact ⟨rfl, fun _ => rfl⟩
    rw [List.length_map, eg, List.filter_eq_self.mpr (fun _ _ => rfl)] at h6
    walk_at "T"
    rename_i one hone
    refine r_cat upd_same (u_old h6 hone) (by rw [List.length_map]; show 1 + ms.length ≤ _; omega) fun ce hce => ?_
    walk_at "S"
    rename_i b hb
    refine q b ce _ ⟨_, _, 11 :: ms.map fun x => x.fmod 1000033, upd_same, ?_, (fun z => by cases z), by rw [List.length_cons, List.length_map]; omega, ne_none hb upd_same⟩ ?_
    · refine u_old ?_ hb
      rw [upd_same, List.map_cons, List.map_map]
      rfl
    · exact ((((L2.Same.new hp).trans s6).upd hone).upd hce).upd hb
end K15

end
section
set_option Elab.async false
set_option linter.all false
set_option maxRecDepth 100000
set_option maxHeartbeats 4000000
namespace K15
open PySem PySem.Spec PyProof.Rows L2 LW LM
/-! ### steps of a reading, heaps: short tactics -/
local macro_rules | `(tactic| walk_at "ne") => `(tactic| first
  | assumption
  | (apply Ne.symm; assumption)
  | exact ne_none (by assumption) (by assumption)
  | exact (ne_none (by assumption) (by assumption)).symm
  | exact ne_of (by assumption) (by assumption) (by intro z; cases z))
local macro_rules | `(tactic| walk_at "hp") => `(tactic| first
  | assumption
  | with_reducible exact upd_same
  | ((first
      | with_reducible refine u_old ?_ (by assumption)
      | with_reducible refine u_oth (by walk_at "ne") ?_
      | with_reducible refine same_app (by assumption) ?_
      | with_reducible refine kb_app (by assumption) (by walk_at "ne") ?_); walk_at "hp")
  | ((with_reducible refine u_kind ?h (by assumption) ?d); (case h => walk_at "hp"); (case d => (intro z; cases z))))
local macro_rules | `(tactic| walk_at "sq") => `(tactic| first
  | assumption
  | exact SqL.of (by walk_at "hp")
  | exact SqT.of (by walk_at "hp")
  | (with_reducible refine same_sqT (by assumption) ?_; walk_at "sq")
  | (with_reducible refine same_sqL (by assumption) ?_; walk_at "sq")
  | (with_reducible refine new_sqT (by assumption) ?_; walk_at "sq")
  | (with_reducible refine new_sqL (by assumption) ?_; walk_at "sq")
  | ((with_reducible refine mut_sqT (u := ?uu) ?hd ?hm ?_); (case hd => walk_at "hp"); (case hm => exact trivial); walk_at "sq"))
local macro_rules | `(tactic| walk_at "rd") => `(tactic| first
  | assumption
  | exact .inl (by walk_at "hp")
  | exact .inr ⟨_, by walk_at "hp"⟩)
local macro_rules | `(tactic| walk_at "s") => `(tactic| first
  | with_reducible refine s_seq ?_
  | with_reducible refine s_asg ?_
  | with_reducible refine g_name ?_
  | ((with_reducible refine e_var (v := ?vv) ?hv ?_); (case hv => rfl))
  | with_reducible refine e_c ?_
  | with_reducible refine e_op ?_
  | with_reducible refine a_cons ?_
  | with_reducible refine a_nil ?_
  | with_reducible refine e_cb ?_
  | with_reducible refine e_call ?_
  | with_reducible refine e_callK ?_
  | with_reducible refine s_ret ?_
  | with_reducible refine s_retN ?_
  | with_reducible refine s_drop ?_
  | with_reducible refine s_ifs ?_
  | with_reducible refine s_next ?_
  | with_reducible refine s_cont ?_
  | with_reducible refine s_brk ?_
  | with_reducible refine s_par ?_
  | with_reducible refine s_par3 ?_
  | with_reducible refine e_un ?_
  | with_reducible refine e_if ?_
  | with_reducible refine e_andV ?_
  | with_reducible refine e_orV ?_
  | with_reducible refine e_notV ?_
  | with_reducible refine e_dget ?_
  | with_reducible refine e_dget2 ?_
  | with_reducible refine e_din ?_
  | with_reducible refine e_dnotin ?_
  | with_reducible refine e_then ?_
  | with_reducible refine e_bm ?_
  | with_reducible refine e_bm0 ?_
  | with_reducible refine e_sl ?_
  | with_reducible refine o_none ?_
  | with_reducible refine o_part ?_
  | with_reducible refine g_sub ?_
  | with_reducible refine g_nil ?_
  | with_reducible refine g_cons ?_
  | with_reducible refine t_test ?_
  | with_reducible refine t_B ?_
  | with_reducible refine t_and ?_
  | with_reducible refine t_or ?_
  | with_reducible refine t_not ?_
  | ((with_reducible refine r_ixI (ns := ?ns) ?hs ?h0 ?h1 ?_); (case hs => walk_at "sq"); (case h0 => omega); (case h1 => omega))
  | ((with_reducible refine r_ixL (xs := ?xs) (v := ?vv) ?hs ?hi ?_); (case hs => walk_at "sq"); (case hi => rfl))
  | ((with_reducible refine r_ixT (xs := ?xs) (v := ?vv) ?hs ?hi ?_); (case hs => walk_at "sq"); (case hi => rfl))
  | ((with_reducible refine g_setL (xs := ?xs) (j := ?jj) ?hp ?hj ?_); (case hp => walk_at "hp"); (case hj => rfl))
  | ((with_reducible refine r_mul ?hc ?_); (case hc => first | exact .inr (by decide) | exact .inl (by decide) | exact .inl ⟨by omega, by omega⟩ | exact .inr ⟨by omega, by omega⟩))
  | ((with_reducible refine r_mod ?hc ?_); (case hc => first | decide | omega))
  | ((with_reducible refine r_fdivN ?hc ?_); (case hc => exact ⟨by first | decide | omega, by first | decide | omega⟩))
  | ((with_reducible refine r_pow ?hc ?_); (case hc => first | decide | exact ⟨by decide, by decide⟩ | (unfold CPow; decide)))
  | ((with_reducible refine r_lenI (ns := ?ns) ?hs ?_); (case hs => walk_at "sq"))
  | ((with_reducible refine r_lenTI (ns := ?ns) ?hs ?_); (case hs => walk_at "sq"))
  | ((with_reducible refine r_lenL (xs := ?xs) ?hs ?_); (case hs => walk_at "sq"))
  | ((with_reducible refine r_lenT (xs := ?xs) ?hs ?_); (case hs => walk_at "sq"))
  | ((with_reducible refine r_tyL (xs := ?xs) ?hs ?_); (case hs => walk_at "sq"))
  | with_reducible refine r_add ?_
  | with_reducible refine r_sub ?_
  | with_reducible refine r_lt ?_
  | with_reducible refine r_le ?_
  | with_reducible refine r_gt ?_
  | with_reducible refine r_ge ?_
  | with_reducible refine r_eqI ?_
  | with_reducible refine r_neI ?_
  | with_reducible refine r_int ?_
  | with_reducible refine r_intb ?_
  | with_reducible refine r_neg ?_
  | with_reducible refine r_max2 ?_
  | with_reducible refine r_min2 ?_
  | with_reducible refine c_sp1 ?_
  | with_reducible refine c_sp2 ?_
  | with_reducible refine c_sp3 ?_
  | with_reducible refine c_sp4 ?_
  | with_reducible refine c_sp5 ?_
  | with_reducible refine t_end ?_
  | with_reducible refine o_part_end ?_
  | ((with_reducible refine s_aug (x := ?xx) ?hx ?_); (case hx => rfl))
  | with_reducible refine s_for ?_
  | with_reducible refine i_list ?_
  | with_reducible refine i_tup ?_
  | with_reducible refine i_rng1 ?_
  | with_reducible refine i_rng2 ?_
  | with_reducible refine i_keys ?_
  | with_reducible refine i_items ?_
  | with_reducible refine i_zip2 ?_
  | with_reducible refine i_enum2 ?_
  | ((with_reducible refine i_rng1E ?h1 ?h2 ?_); (case h1 => omega); (case h2 => omega))
  | ((with_reducible refine i_rng2E ?h1 ?_); (case h1 => omega))
  | ((with_reducible refine i_listE (xs := ?xs) ?hs ?_); (case hs => walk_at "sq"))
  | ((with_reducible refine i_tupE (xs := ?xs) ?hs ?_); (case hs => walk_at "sq"))
  | ((with_reducible refine q_isD ?hi ?_); (case hi => first | exact isD_K (by walk_at "rd") | exact isD_T (by walk_at "rd")))
  | with_reducible refine q_ref ?_
  | with_reducible refine e_dnewK ?_
  | with_reducible refine e_dnewT ?_
  | with_reducible refine e_tup ?_
  | with_reducible refine e_lst ?_
  | ((with_reducible refine r_new ?hn ?_); (case hn => exact Nat.le_of_ble_eq_true rfl))
  | with_reducible refine r_fresh fun _ _ => ?_
  | with_reducible refine s_par_end ?_
  | with_reducible refine s_par3_end ?_
  | with_reducible refine e_lc ?_
  | with_reducible refine e_dc ?_
  | with_reducible refine e_dcT ?_
  | with_reducible refine t_tyes ?_
  | with_reducible refine t_tt ?_
  | with_reducible refine t_ff ?_
  | with_reducible refine c_wipe rfl ?_)
local macro_rules | `(tactic| walk_at "S") => `(tactic| repeat' first | walk_at "s" | with_reducible refine s_dput ?_)
local macro_rules | `(tactic| walk_at "T") => `(tactic| repeat' walk_at "s")

theorem r_ext {H : Hp} {l b : Addr} {xs zs : List V} {Q : VK} (h1 : H l = some (.lst xs)) (h2 : H b = some (.lst zs)) (hz : xs.length + zs.length ≤ 10000000) (h : Q .non (upd H l (.lst (xs ++ zs)))) : rExtend (.ref l) [.ref b] H Q :=
  ⟨l, b, xs, zs, rfl, rfl, h1, h2, by rw [sizeLine_eq]; omega, h⟩
/-- n copies, one after the other -/
def copies {α : Type} (xs : List α) : Nat → List α
  | 0 => []
  | n + 1 => copies xs n ++ xs
theorem copies_len {α : Type} (xs : List α) : ∀ n, (copies xs n).length = n * xs.length
  | 0 => (Nat.zero_mul _).symm
  | n + 1 => by
    show (copies xs n ++ xs).length = _
    rw [List.length_append, copies_len xs n, Nat.succ_mul]
theorem copies_map {α β : Type} (f : α → β) (xs : List α) : ∀ n, (copies xs n).map f = copies (xs.map f) n
  | 0 => rfl
  | n + 1 => by
    show (copies xs n ++ xs).map f = copies (xs.map f) n ++ xs.map f
    rw [List.map_append, copies_map f xs n]
/-- a document: a list of two lists, of depths and of names -/
structure DocAt (H : Hp) (D : Addr) (ds : List Int) (ss : List Str) : Prop where
  ex : ∃ a b : Addr, H D = some (.lst [.ref a, .ref b]) ∧ H a = some (.lst (ds.map V.int)) ∧ H b = some (.lst (ss.map V.str))
def sp_copied (K : PySem.W.Frag) : Sp := fun vs H Q _ => ∃ (a b : Addr) (m : Nat) (ds : List Int) (ss : List Str), vs = [.ref a, .ref b, .int (m : Int)] ∧ H a = some (.lst (ds.map V.int)) ∧ H b = some (.lst (ss.map V.str)) ∧ m ≤ 1000 ∧ m * ds.length ≤ 1000 ∧ m * ss.length ≤ 1000 ∧
  ∀ D H', Same H H' → DocAt H' D (copies ds m) (copies ss m) → Q (.ref D) H'
abbrev n__law_copied : List Str := ["depths", "names", "many", "long", "words", "k"]
def t__law_copied (K : PySem.W.Frag) (w : World) : TS :=
  (tSeq (tPar 3 4 (tCons (tLst tNil) (tCons (tLst tNil) tNil)))
    (tSeq (tFor (iRng1 (tCons (tVar 2) tNil)) (gName 5)
    (tSeq (tDrop (tBM K "list" rExtend (tVar 3) (tCons (tVar 0) tNil)))
    (tDrop (tBM K "list" rExtend (tVar 4) (tCons (tVar 1) tNil)))))
    (tRet (tLst (tCons (tVar 3) (tCons (tVar 4) tNil))))))
theorem r_copied {K : PySem.W.Frag} {w : World} (vs : List V) (H : Hp) (Q : VK) (E : XK) (h : sp_copied K vs H Q E) : t__law_copied K w { nx := fun _ H' => Q .non H', rt := Q } (start n__law_copied vs) H := by
  obtain ⟨a, b, m, ds, ss, rfl, ha, hb, hm, hd, hs, q⟩ := h
  unfold t__law_copied
  walk_at "T"
  rename_i l hl x hx
  walk_at "T"
  rw [Int.toNat_natCast]
  have nlx : x ≠ l := (ne_none hx upd_same).symm
  have hl0 := hl
  refine for_w (w_rng (lo := 0) (n := m)) (fun k σ H' => ∃ (v : Option V), σ = [some (.ref a), some (.ref b), some (.int (m : Int)), some (.ref l), some (.ref x), v] ∧ Same H H' ∧ H' l = some (.lst (copies (ds.map V.int) k)) ∧ H' x = some (.lst (copies (ss.map V.str) k)))
    ⟨_, rfl, (L2.Same.new hl).upd hx, u_old upd_same hx, upd_same⟩ (fun _ _ _ _ _ => trivial) ?_ ?_
  · rintro k σ _ y H' hk ⟨v, rfl, s', el, ex⟩ ⟨rfl, rfl⟩
    have ea := s' _ _ ha
    have eb := s' _ _ hb
    have b1 : k * ds.length ≤ m * ds.length := Nat.mul_le_mul_right _ (by omega)
    have b2 : k * ss.length ≤ m * ss.length := Nat.mul_le_mul_right _ (by omega)
    have b3 : 1 * ds.length ≤ m * ds.length := Nat.mul_le_mul_right _ (by omega)
    have b4 : 1 * ss.length ≤ m * ss.length := Nat.mul_le_mul_right _ (by omega)
    have nbl : b ≠ l := ne_none hl hb
    walk_at "T"
    refine r_ext el ea (by rw [copies_len, List.length_map]; omega) ?_
    walk_at "T"
    refine r_ext (u_oth nlx ex) (u_oth nbl eb) (by rw [copies_len, List.length_map]; omega) ?_
    walk_at "T"
    have hx0 : H x = none := by
      cases hz : H x with
      | none => rfl
      | some o => rw [u_old hz hl0] at hx; cases hx
    exact ⟨_, rfl, (s'.mut hl0).mut hx0, u_oth nlx.symm upd_same, upd_same⟩
  · rintro σ H' ⟨v, rfl, s', el, ex⟩
    walk_at "T"
    rename_i D hD
    refine q D _ (s'.upd hD) ⟨l, x, upd_same, ?_, ?_⟩
    · rw [copies_map]
      exact u_old el hD
    · rw [copies_map]
      exact u_old ex hD
end K15

end
section
set_option Elab.async false
set_option linter.all false
set_option maxRecDepth 100000
set_option maxHeartbeats 4000000
namespace K15
open PySem PySem.Spec PyProof.Rows L2 LW LM
/-! ### steps of a reading, heaps: short tactics -/
local macro_rules | `(tactic| walk_at "ne") => `(tactic| first
  | assumption
  | (apply Ne.symm; assumption)
  | exact ne_none (by assumption) (by assumption)
  | exact (ne_none (by assumption) (by assumption)).symm
  | exact ne_of (by assumption) (by assumption) (by intro z; cases z))
local macro_rules | `(tactic| walk_at "hp") => `(tactic| first
  | assumption
  | with_reducible exact upd_same
  | ((first
      | with_reducible refine u_old ?_ (by assumption)
      | with_reducible refine u_oth (by walk_at "ne") ?_
      | with_reducible refine same_app (by assumption) ?_
      | with_reducible refine kb_app (by assumption) (by walk_at "ne") ?_); walk_at "hp")
  | ((with_reducible refine u_kind ?h (by assumption) ?d); (case h => walk_at "hp"); (case d => (intro z; cases z))))
local macro_rules | `(tactic| walk_at "sq") => `(tactic| first
  | assumption
  | exact SqL.of (by walk_at "hp")
  | exact SqT.of (by walk_at "hp")
  | (with_reducible refine same_sqT (by assumption) ?_; walk_at "sq")
  | (with_reducible refine same_sqL (by assumption) ?_; walk_at "sq")
  | (with_reducible refine new_sqT (by assumption) ?_; walk_at "sq")
  | (with_reducible refine new_sqL (by assumption) ?_; walk_at "sq")
  | ((with_reducible refine mut_sqT (u := ?uu) ?hd ?hm ?_); (case hd => walk_at "hp"); (case hm => exact trivial); walk_at "sq"))
local macro_rules | `(tactic| walk_at "rd") => `(tactic| first
  | assumption
  | exact .inl (by walk_at "hp")
  | exact .inr ⟨_, by walk_at "hp"⟩)
local macro_rules | `(tactic| walk_at "s") => `(tactic| first
  | with_reducible refine s_seq ?_
  | with_reducible refine s_asg ?_
  | with_reducible refine g_name ?_
  | ((with_reducible refine e_var (v := ?vv) ?hv ?_); (case hv => rfl))
  | with_reducible refine e_c ?_
  | with_reducible refine e_op ?_
  | with_reducible refine a_cons ?_
  | with_reducible refine a_nil ?_
  | with_reducible refine e_cb ?_
  | with_reducible refine e_call ?_
  | with_reducible refine e_callK ?_
  | with_reducible refine s_ret ?_
  | with_reducible refine s_retN ?_
  | with_reducible refine s_drop ?_
  | with_reducible refine s_ifs ?_
  | with_reducible refine s_next ?_
  | with_reducible refine s_cont ?_
  | with_reducible refine s_brk ?_
  | with_reducible refine s_par ?_
  | with_reducible refine s_par3 ?_
  | with_reducible refine e_un ?_
  | with_reducible refine e_if ?_
  | with_reducible refine e_andV ?_
  | with_reducible refine e_orV ?_
  | with_reducible refine e_notV ?_
  | with_reducible refine e_dget ?_
  | with_reducible refine e_dget2 ?_
  | with_reducible refine e_din ?_
  | with_reducible refine e_dnotin ?_
  | with_reducible refine e_then ?_
  | with_reducible refine e_bm ?_
  | with_reducible refine e_bm0 ?_
  | with_reducible refine e_sl ?_
  | with_reducible refine o_none ?_
  | with_reducible refine o_part ?_
  | with_reducible refine g_sub ?_
  | with_reducible refine g_nil ?_
  | with_reducible refine g_cons ?_
  | with_reducible refine t_test ?_
  | with_reducible refine t_B ?_
  | with_reducible refine t_and ?_
  | with_reducible refine t_or ?_
  | with_reducible refine t_not ?_
  | ((with_reducible refine r_ixI (ns := ?ns) ?hs ?h0 ?h1 ?_); (case hs => walk_at "sq"); (case h0 => omega); (case h1 => omega))
  | ((with_reducible refine r_ixL (xs := ?xs) (v := ?vv) ?hs ?hi ?_); (case hs => walk_at "sq"); (case hi => rfl))
  | ((with_reducible refine r_ixT (xs := ?xs) (v := ?vv) ?hs ?hi ?_); (case hs => walk_at "sq"); (case hi => rfl))
  | ((with_reducible refine g_setL (xs := ?xs) (j := ?jj) ?hp ?hj ?_); (case hp => walk_at "hp"); (case hj => rfl))
  | ((with_reducible refine r_mul ?hc ?_); (case hc => first | exact .inr (by decide) | exact .inl (by decide) | exact .inl ⟨by omega, by omega⟩ | exact .inr ⟨by omega, by omega⟩))
  | ((with_reducible refine r_mod ?hc ?_); (case hc => first | decide | omega))
  | ((with_reducible refine r_fdivN ?hc ?_); (case hc => exact ⟨by first | decide | omega, by first | decide | omega⟩))
  | ((with_reducible refine r_pow ?hc ?_); (case hc => first | decide | exact ⟨by decide, by decide⟩ | (unfold CPow; decide)))
  | ((with_reducible refine r_lenI (ns := ?ns) ?hs ?_); (case hs => walk_at "sq"))
  | ((with_reducible refine r_lenTI (ns := ?ns) ?hs ?_); (case hs => walk_at "sq"))
  | ((with_reducible refine r_lenL (xs := ?xs) ?hs ?_); (case hs => walk_at "sq"))
  | ((with_reducible refine r_lenT (xs := ?xs) ?hs ?_); (case hs => walk_at "sq"))
  | ((with_reducible refine r_tyL (xs := ?xs) ?hs ?_); (case hs => walk_at "sq"))
  | with_reducible refine r_add ?_
  | with_reducible refine r_sub ?_
  | with_reducible refine r_lt ?_
  | with_reducible refine r_le ?_
  | with_reducible refine r_gt ?_
  | with_reducible refine r_ge ?_
  | with_reducible refine r_eqI ?_
  | with_reducible refine r_neI ?_
  | with_reducible refine r_int ?_
  | with_reducible refine r_intb ?_
  | with_reducible refine r_neg ?_
  | with_reducible refine r_max2 ?_
  | with_reducible refine r_min2 ?_
  | with_reducible refine c_sp1 ?_
  | with_reducible refine c_sp2 ?_
  | with_reducible refine c_sp3 ?_
  | with_reducible refine c_sp4 ?_
  | with_reducible refine c_sp5 ?_
  | with_reducible refine t_end ?_
  | with_reducible refine o_part_end ?_
  | ((with_reducible refine s_aug (x := ?xx) ?hx ?_); (case hx => rfl))
  | with_reducible refine s_for ?_
  | with_reducible refine i_list ?_
  | with_reducible refine i_tup ?_
  | with_reducible refine i_rng1 ?_
  | with_reducible refine i_rng2 ?_
  | with_reducible refine i_keys ?_
  | with_reducible refine i_items ?_
  | with_reducible refine i_zip2 ?_
  | with_reducible refine i_enum2 ?_
  | ((with_reducible refine i_rng1E ?h1 ?h2 ?_); (case h1 => omega); (case h2 => omega))
  | ((with_reducible refine i_rng2E ?h1 ?_); (case h1 => omega))
  | ((with_reducible refine i_listE (xs := ?xs) ?hs ?_); (case hs => walk_at "sq"))
  | ((with_reducible refine i_tupE (xs := ?xs) ?hs ?_); (case hs => walk_at "sq"))
  | ((with_reducible refine q_isD ?hi ?_); (case hi => first | exact isD_K (by walk_at "rd") | exact isD_T (by walk_at "rd")))
  | with_reducible refine q_ref ?_
  | with_reducible refine e_dnewK ?_
  | with_reducible refine e_dnewT ?_
  | with_reducible refine e_tup ?_
  | with_reducible refine e_lst ?_
  | ((with_reducible refine r_new ?hn ?_); (case hn => exact Nat.le_of_ble_eq_true rfl))
  | with_reducible refine r_fresh fun _ _ => ?_
  | with_reducible refine s_par_end ?_
  | with_reducible refine s_par3_end ?_
  | with_reducible refine e_lc ?_
  | with_reducible refine e_dc ?_
  | with_reducible refine e_dcT ?_
  | with_reducible refine t_tyes ?_
  | with_reducible refine t_tt ?_
  | with_reducible refine t_ff ?_
  | with_reducible refine c_wipe rfl ?_)
local macro_rules | `(tactic| walk_at "S") => `(tactic| repeat' first | walk_at "s" | with_reducible refine s_dput ?_)
local macro_rules | `(tactic| walk_at "T") => `(tactic| repeat' walk_at "s")

theorem r_ixSt {z : Str} {i : Int} {c : Nat} {H : Hp} {Q : VK} (hl : z.length ≤ sizeLine) (hc : atI z.cps.toList i = some c) (h : Q (.str ⟨#[c]⟩) H) : rIxS (.str z) (.int i) H Q := ⟨z, i, c, rfl, rfl, hl, hc, h⟩
theorem r_addSt {a b : Str} {H : Hp} {Q : VK} (hl : a.length + b.length ≤ 1000000) (h : Q (.str (a ++ b)) H) : oAddS (.str a) (.str b) H Q := ⟨a, b, rfl, rfl, by rw [sizeLine_eq]; omega, h⟩
theorem len_app (a b : Str) : (a ++ b).length = a.length + b.length := Array.size_append
def GoodS (s : Str) : Prop := 0 < s.length ∧ s.length ≤ 8 ∧ PyData.strOk s = true
theorem all_app (a b : Str) : PyData.strOk (a ++ b) = (PyData.strOk a && PyData.strOk b) := by
  show (a.cps ++ b.cps).all _ = _
  rw [Array.all_append]
  rfl
def sp_word : Sp := sp1 fun x H Q => ∃ (b ce : Addr), x = .ref b ∧ Bag H b ce ∧ ∀ (s : Str) H', GoodS s → Bag H' b ce → Kb b H H' → Q (.str s) H'
theorem c_word {H : Hp} {b ce : Addr} {Q : VK} {E : XK} (hB : Bag H b ce) (h : ∀ (s : Str) H', GoodS s → Bag H' b ce → Kb b H H' → Q (.str s) H') : sp_word ([.ref b] ++ []) H Q E := ⟨_, rfl, b, ce, rfl, hB, h⟩
abbrev n__law_word : List Str := ["urn", "word", "k"]
def t__law_word (K : PySem.W.Frag) (w : World) : TS :=
  (tSeq (tAsg (tC (.str "")) (gName 1))
    (tSeq (tFor (iRng1 (tCons (tOp oAdd (tC (.int 1)) (tOp (rIxL K) (tLst (tCons (tC (.int 0)) (tCons (tC (.int 0)) (tCons (tC (.int 0)) (tCons (tC (.int 1)) (tCons (tC (.int 2)) (tCons (tC (.int 4)) (tCons (tC (.int 7)) tNil)))))))) (tCall sp_draw [] E0 (tCons (tVar 0) (tCons (tC (.int 7)) tNil))))) tNil)) (gName 2)
    (tAsg (tOp oAddS (tVar 1) (tOp rIxS (tC (.str "abcdefghijklmnopqrstuvwxyz")) (tCall sp_draw [] E0 (tCons (tVar 0) (tCons (tC (.int 26)) tNil))))) (gName 1)))
    (tRet (tVar 1))))
theorem r_word {K : PySem.W.Frag} {w : World} (vs : List V) (H : Hp) (Q : VK) (E : XK) (h : sp_word vs H Q E) : t__law_word K w { nx := fun _ H' => Q .non H', rt := Q } (start n__law_word vs) H := by
  obtain ⟨_, rfl, b, ce, rfl, hB, q⟩ := h
  unfold t__law_word
  walk_at "T"
  rename_i l hl
  refine c_draw (hB.new hl) (by decide) fun v H1 v0 v1 B1 s1 => ?_
  have el : H1 l = some (.lst [.int 0, .int 0, .int 0, .int 1, .int 2, .int 4, .int 7]) := kb_app s1 (hB.nb hl) upd_same
  obtain ⟨c, hc, c0, c1⟩ : ∃ c : Int, atI [V.int 0, V.int 0, V.int 0, V.int 1, V.int 2, V.int 4, V.int 7] v = some (.int c) ∧ 0 ≤ c ∧ c ≤ 7 := by
    have : v = 0 ∨ v = 1 ∨ v = 2 ∨ v = 3 ∨ v = 4 ∨ v = 5 ∨ v = 6 := by omega
    rcases this with rfl | rfl | rfl | rfl | rfl | rfl | rfl
    · exact ⟨0, rfl, by decide, by decide⟩
    · exact ⟨0, rfl, by decide, by decide⟩
    · exact ⟨0, rfl, by decide, by decide⟩
    · exact ⟨1, rfl, by decide, by decide⟩
    · exact ⟨2, rfl, by decide, by decide⟩
    · exact ⟨4, rfl, by decide, by decide⟩
    · exact ⟨7, rfl, by decide, by decide⟩
  refine r_ixL (SqL.of el) hc ?_
  walk_at "T"
  refine for_w (w_rng (lo := 0) (n := (1 + c).toNat)) (fun k σ H' => ∃ (y : Option V) (s : Str), σ = [some (.ref b), some (.str s), y] ∧ (s.length = k ∧ PyData.strOk s = true) ∧ Bag H' b ce ∧ Kb b H H')
    ⟨_, _, rfl, ⟨rfl, by decide +kernel⟩, B1, ((Kb.refl b H).new hl).trans s1⟩ (fun _ _ _ _ _ => trivial) ?_ ?_
  · rintro k σ _ y H' hk ⟨y2, s, rfl, ⟨hs, hok⟩, B', s'⟩ ⟨rfl, rfl⟩
    walk_at "T"
    refine c_draw B' (by decide) fun v H2 v0 v1 B2 s2 => ?_
    obtain ⟨n, rfl⟩ := Int.eq_ofNat_of_zero_le v0
    have h26 : (Str.ofString "abcdefghijklmnopqrstuvwxyz").cps.toList.length = 26 := by decide +kernel
    refine r_ixSt (c := (Str.ofString "abcdefghijklmnopqrstuvwxyz").cps.toList[n]'(by omega)) (by decide +kernel) (atI_nat (List.getElem?_eq_getElem (by omega))) ?_
    refine r_addSt (by show s.length + 1 ≤ _; omega) ?_
    walk_at "T"
    refine ⟨_, _, rfl, ⟨?_, ?_⟩, B2, s'.trans s2⟩
    · rw [len_app, hs]
      rfl
    · rw [all_app, hok, Bool.true_and]
      have hall : ∀ c ∈ (Str.ofString "abcdefghijklmnopqrstuvwxyz").cps.toList, c < 0x110000 := by decide +kernel
      have hc := hall _ (List.getElem_mem (l := (Str.ofString "abcdefghijklmnopqrstuvwxyz").cps.toList) (n := n) (by omega))
      show Array.all #[_] _ = true
      simp only [List.all_toArray, List.all_cons, List.all_nil, Bool.and_true, decide_eq_true_eq]
      exact hc
  · rintro σ H' ⟨y, s, rfl, ⟨hs, hok⟩, B', s'⟩
    walk_at "T"
    exact q s H' ⟨by omega, by omega, hok⟩ B' s'
end K15

end
section
set_option Elab.async false
set_option linter.all false
set_option maxRecDepth 100000
set_option maxHeartbeats 4000000
namespace K15
open PySem PySem.Spec PyProof.Rows L2 LW LM
/-! ### steps of a reading, heaps: short tactics -/
local macro_rules | `(tactic| walk_at "ne") => `(tactic| first
  | assumption
  | (apply Ne.symm; assumption)
  | exact ne_none (by assumption) (by assumption)
  | exact (ne_none (by assumption) (by assumption)).symm
  | exact ne_of (by assumption) (by assumption) (by intro z; cases z))
local macro_rules | `(tactic| walk_at "hp") => `(tactic| first
  | assumption
  | with_reducible exact upd_same
  | ((first
      | with_reducible refine u_old ?_ (by assumption)
      | with_reducible refine u_oth (by walk_at "ne") ?_
      | with_reducible refine same_app (by assumption) ?_
      | with_reducible refine kb_app (by assumption) (by walk_at "ne") ?_); walk_at "hp")
  | ((with_reducible refine u_kind ?h (by assumption) ?d); (case h => walk_at "hp"); (case d => (intro z; cases z))))
local macro_rules | `(tactic| walk_at "sq") => `(tactic| first
  | assumption
  | exact SqL.of (by walk_at "hp")
  | exact SqT.of (by walk_at "hp")
  | (with_reducible refine same_sqT (by assumption) ?_; walk_at "sq")
  | (with_reducible refine same_sqL (by assumption) ?_; walk_at "sq")
  | (with_reducible refine new_sqT (by assumption) ?_; walk_at "sq")
  | (with_reducible refine new_sqL (by assumption) ?_; walk_at "sq")
  | ((with_reducible refine mut_sqT (u := ?uu) ?hd ?hm ?_); (case hd => walk_at "hp"); (case hm => exact trivial); walk_at "sq"))
local macro_rules | `(tactic| walk_at "rd") => `(tactic| first
  | assumption
  | exact .inl (by walk_at "hp")
  | exact .inr ⟨_, by walk_at "hp"⟩)
local macro_rules | `(tactic| walk_at "s") => `(tactic| first
  | with_reducible refine s_seq ?_
  | with_reducible refine s_asg ?_
  | with_reducible refine g_name ?_
  | ((with_reducible refine e_var (v := ?vv) ?hv ?_); (case hv => rfl))
  | with_reducible refine e_c ?_
  | with_reducible refine e_op ?_
  | with_reducible refine a_cons ?_
  | with_reducible refine a_nil ?_
  | with_reducible refine e_cb ?_
  | with_reducible refine e_call ?_
  | with_reducible refine e_callK ?_
  | with_reducible refine s_ret ?_
  | with_reducible refine s_retN ?_
  | with_reducible refine s_drop ?_
  | with_reducible refine s_ifs ?_
  | with_reducible refine s_next ?_
  | with_reducible refine s_cont ?_
  | with_reducible refine s_brk ?_
  | with_reducible refine s_par ?_
  | with_reducible refine s_par3 ?_
  | with_reducible refine e_un ?_
  | with_reducible refine e_if ?_
  | with_reducible refine e_andV ?_
  | with_reducible refine e_orV ?_
  | with_reducible refine e_notV ?_
  | with_reducible refine e_dget ?_
  | with_reducible refine e_dget2 ?_
  | with_reducible refine e_din ?_
  | with_reducible refine e_dnotin ?_
  | with_reducible refine e_then ?_
  | with_reducible refine e_bm ?_
  | with_reducible refine e_bm0 ?_
  | with_reducible refine e_sl ?_
  | with_reducible refine o_none ?_
  | with_reducible refine o_part ?_
  | with_reducible refine g_sub ?_
  | with_reducible refine g_nil ?_
  | with_reducible refine g_cons ?_
  | with_reducible refine t_test ?_
  | with_reducible refine t_B ?_
  | with_reducible refine t_and ?_
  | with_reducible refine t_or ?_
  | with_reducible refine t_not ?_
  | ((with_reducible refine r_ixI (ns := ?ns) ?hs ?h0 ?h1 ?_); (case hs => walk_at "sq"); (case h0 => omega); (case h1 => omega))
  | ((with_reducible refine r_ixL (xs := ?xs) (v := ?vv) ?hs ?hi ?_); (case hs => walk_at "sq"); (case hi => rfl))
  | ((with_reducible refine r_ixT (xs := ?xs) (v := ?vv) ?hs ?hi ?_); (case hs => walk_at "sq"); (case hi => rfl))
  | ((with_reducible refine g_setL (xs := ?xs) (j := ?jj) ?hp ?hj ?_); (case hp => walk_at "hp"); (case hj => rfl))
  | ((with_reducible refine r_mul ?hc ?_); (case hc => first | exact .inr (by decide) | exact .inl (by decide) | exact .inl ⟨by omega, by omega⟩ | exact .inr ⟨by omega, by omega⟩))
  | ((with_reducible refine r_mod ?hc ?_); (case hc => first | decide | omega))
  | ((with_reducible refine r_fdivN ?hc ?_); (case hc => exact ⟨by first | decide | omega, by first | decide | omega⟩))
  | ((with_reducible refine r_pow ?hc ?_); (case hc => first | decide | exact ⟨by decide, by decide⟩ | (unfold CPow; decide)))
  | ((with_reducible refine r_lenI (ns := ?ns) ?hs ?_); (case hs => walk_at "sq"))
  | ((with_reducible refine r_lenTI (ns := ?ns) ?hs ?_); (case hs => walk_at "sq"))
  | ((with_reducible refine r_lenL (xs := ?xs) ?hs ?_); (case hs => walk_at "sq"))
  | ((with_reducible refine r_lenT (xs := ?xs) ?hs ?_); (case hs => walk_at "sq"))
  | ((with_reducible refine r_tyL (xs := ?xs) ?hs ?_); (case hs => walk_at "sq"))
  | with_reducible refine r_add ?_
  | with_reducible refine r_sub ?_
  | with_reducible refine r_lt ?_
  | with_reducible refine r_le ?_
  | with_reducible refine r_gt ?_
  | with_reducible refine r_ge ?_
  | with_reducible refine r_eqI ?_
  | with_reducible refine r_neI ?_
  | with_reducible refine r_int ?_
  | with_reducible refine r_intb ?_
  | with_reducible refine r_neg ?_
  | with_reducible refine r_max2 ?_
  | with_reducible refine r_min2 ?_
  | with_reducible refine c_sp1 ?_
  | with_reducible refine c_sp2 ?_
  | with_reducible refine c_sp3 ?_
  | with_reducible refine c_sp4 ?_
  | with_reducible refine c_sp5 ?_
  | with_reducible refine t_end ?_
  | with_reducible refine o_part_end ?_
  | ((with_reducible refine s_aug (x := ?xx) ?hx ?_); (case hx => rfl))
  | with_reducible refine s_for ?_
  | with_reducible refine i_list ?_
  | with_reducible refine i_tup ?_
  | with_reducible refine i_rng1 ?_
  | with_reducible refine i_rng2 ?_
  | with_reducible refine i_keys ?_
  | with_reducible refine i_items ?_
  | with_reducible refine i_zip2 ?_
  | with_reducible refine i_enum2 ?_
  | ((with_reducible refine i_rng1E ?h1 ?h2 ?_); (case h1 => omega); (case h2 => omega))
  | ((with_reducible refine i_rng2E ?h1 ?_); (case h1 => omega))
  | ((with_reducible refine i_listE (xs := ?xs) ?hs ?_); (case hs => walk_at "sq"))
  | ((with_reducible refine i_tupE (xs := ?xs) ?hs ?_); (case hs => walk_at "sq"))
  | ((with_reducible refine q_isD ?hi ?_); (case hi => first | exact isD_K (by walk_at "rd") | exact isD_T (by walk_at "rd")))
  | with_reducible refine q_ref ?_
  | with_reducible refine e_dnewK ?_
  | with_reducible refine e_dnewT ?_
  | with_reducible refine e_tup ?_
  | with_reducible refine e_lst ?_
  | ((with_reducible refine r_new ?hn ?_); (case hn => exact Nat.le_of_ble_eq_true rfl))
  | with_reducible refine r_fresh fun _ _ => ?_
  | with_reducible refine s_par_end ?_
  | with_reducible refine s_par3_end ?_
  | with_reducible refine e_lc ?_
  | with_reducible refine e_dc ?_
  | with_reducible refine e_dcT ?_
  | with_reducible refine t_tyes ?_
  | with_reducible refine t_tt ?_
  | with_reducible refine t_ff ?_
  | with_reducible refine c_wipe rfl ?_)
local macro_rules | `(tactic| walk_at "S") => `(tactic| repeat' first | walk_at "s" | with_reducible refine s_dput ?_)
local macro_rules | `(tactic| walk_at "T") => `(tactic| repeat' walk_at "s")

def GoodN (ss : List Str) : Prop := ∀ s ∈ ss, GoodS s
theorem Bag.nstr {H : Hp} {b ce p : Addr} (B : Bag H b ce) {ss : List Str} (h : H p = some (.lst (ss.map V.str))) : p ≠ b := by
  obtain ⟨c, st, cs, hb, hc, r⟩ := B.ex
  intro e
  subst e
  rw [hb] at h
  have h1 := HO.lst.inj (Option.some.inj h)
  match ss, h1 with
  | [_, _, _], h1 => cases h1
theorem Bag.nint {H : Hp} {b ce p : Addr} (B : Bag H b ce) {ns : List Int} (h : H p = some (.lst (ns.map V.int))) : p ≠ b := by
  obtain ⟨c, st, cs, hb, hc, r⟩ := B.ex
  intro e
  subst e
  rw [hb] at h
  have h1 := HO.lst.inj (Option.some.inj h)
  match ns, h1 with
  | [_, _, _], h1 => cases h1
theorem Bag.ntwo {H : Hp} {b ce p : Addr} (B : Bag H b ce) {x y : V} (h : H p = some (.lst [x, y])) : p ≠ b := by
  obtain ⟨c, st, cs, hb, hc, r⟩ := B.ex
  intro e
  subst e
  rw [hb] at h
  cases HO.lst.inj (Option.some.inj h)
theorem DocAt.kb {H H' : Hp} {b ce D : Addr} {ds : List Int} {ss : List Str} (D0 : DocAt H D ds ss) (B : Bag H b ce) (s : Kb b H H') : DocAt H' D ds ss := by
  obtain ⟨a, n, eD, ea, en⟩ := D0.ex
  exact ⟨a, n, kb_app s (B.ntwo eD) eD, kb_app s (B.nint ea) ea, kb_app s (B.nstr en) en⟩
def sp_renamed (K : PySem.W.Frag) : Sp := fun vs H Q _ => ∃ (b ce D : Addr) (ds : List Int) (ss : List Str), vs = [.ref b, .ref D] ∧ Bag H b ce ∧ DocAt H D ds ss ∧ GoodN ss ∧ 0 < ss.length ∧ ss.length ≤ 1000 ∧
  ∀ D' ss' H', Bag H' b ce → Kb b H H' → DocAt H' D' ds ss' → GoodN ss' → ss'.length = ss.length → Q (.ref D') H'
abbrev n__law_renamed : List Str := ["urn", "document", "names"]
def t__law_renamed (K : PySem.W.Frag) (w : World) : TS :=
  (tSeq (tAsg (tCB (oListOf K) (tCons (tOp (rIxL K) (tVar 1) (tC (.int 1))) tNil)) (gName 2))
    (tSeq (tAsg (tOp (rIxL K) (tLst (tCons (tCall sp_word [] E0 (tCons (tVar 0) tNil)) (tCons (tC (.str "zz")) (tCons (tOp (rIxL K) (tVar 2) (tC (.int 0))) (tCons (tOp (rIxL K) (tVar 2) (tUn oNeg (tC (.int 1)))) tNil))))) (tCall sp_draw [] E0 (tCons (tVar 0) (tCons (tC (.int 4)) tNil)))) (gSub (tVar 2) (tCall sp_draw [] E0 (tCons (tVar 0) (tCons (tCB (oLen K) (tCons (tVar 2) tNil)) tNil))) rSetL))
    (tRet (tLst (tCons (tOp (rIxL K) (tVar 1) (tC (.int 0))) (tCons (tVar 2) tNil))))))
theorem r_renamed {K : PySem.W.Frag} {w : World} (vs : List V) (H : Hp) (Q : VK) (E : XK) (h : sp_renamed K vs H Q E) : t__law_renamed K w { nx := fun _ H' => Q .non H', rt := Q } (start n__law_renamed vs) H := by
  obtain ⟨b, ce, D, ds, ss, rfl, B, ⟨a, n, eD, ea, en⟩, G, h0, hl, q⟩ := h
  have nD := B.ntwo eD
  have na := B.nint ea
  have nn := B.nstr en
  unfold t__law_renamed
  walk_at "T"
  refine r_listL (SqL.of en) fun l hl0 => ?_
  walk_at "T"
  refine c_word (B.new hl0) fun s1 H1 z1 B1 k1 => ?_
  have nl := B.nb hl0
  have el := kb_app k1 nl upd_same
  obtain ⟨f, ef⟩ : ∃ f, ss[0]? = some f := ⟨_, List.getElem?_eq_getElem h0⟩
  have ne : ss ≠ [] := List.length_pos_iff.mp h0
  obtain ⟨g, hg, gm⟩ : ∃ g, ss.map V.str = (ss.dropLast.map V.str) ++ [V.str g] ∧ g ∈ ss := ⟨ss.getLast ne, by
    have := congrArg (List.map V.str) (List.dropLast_concat_getLast ne)
    rw [List.map_append] at this
    exact this.symm, List.getLast_mem ne⟩
  walk_at "T"
  refine r_ixL (v := .str f) (SqL.of el) (atI_nat (j := 0) (by rw [List.getElem?_map, ef]; rfl)) ?_
  walk_at "T"
  have hneg : atI (ss.map V.str) (-1) = some (.str g) := by
    rw [hg]
    exact at_lastV
  refine r_ixL (v := .str g) (SqL.of el) hneg ?_
  walk_at "T"
  rename_i u hu
  refine c_draw (B1.new hu) (by decide) fun v H2 v0 v1 B2 k2 => ?_
  have eu := kb_app k2 (B1.nb hu) upd_same
  have hgood : ∀ s ∈ [s1, Str.ofString "zz", f, g], GoodS s := by
    intro s hs
    simp only [List.mem_cons, List.not_mem_nil, or_false] at hs
    rcases hs with rfl | rfl | rfl | rfl
    · exact z1
    · exact ⟨by decide +kernel, by decide +kernel, by decide +kernel⟩
    · exact G _ (mem_of_get ef)
    · exact G _ gm
  obtain ⟨c, hc, hcm⟩ : ∃ c : Str, atI [V.str s1, V.str (Str.ofString "zz"), V.str f, V.str g] v = some (.str c) ∧ c ∈ [s1, Str.ofString "zz", f, g] := by
    have : v = 0 ∨ v = 1 ∨ v = 2 ∨ v = 3 := by omega
    rcases this with rfl | rfl | rfl | rfl
    · exact ⟨_, rfl, by simp⟩
    · exact ⟨_, rfl, by simp⟩
    · exact ⟨_, rfl, by simp⟩
    · exact ⟨_, rfl, by simp⟩
  refine r_ixL (SqL.of eu) hc ?_
  walk_at "T"
  refine c_draw B2 (by rw [List.length_map]; omega) fun v2 H3 y0 y1 B3 k3 => ?_
  rw [List.length_map] at y1
  have nu := B1.nb hu
  have el3 := kb_app k3 nl (kb_app k2 nl (u_old el hu))
  have kall : Kb b H H3 := (((((Kb.refl b H).new hl0).trans k1).new hu).trans k2).trans k3
  obtain ⟨j, rfl⟩ := Int.eq_ofNat_of_zero_le y0
  refine g_setL (xs := ss.map V.str) (j := j) el3 (by unfold ixN; rw [List.length_map, if_pos y0, if_pos (by omega)]; rfl) ?_
  have kall2 := kall.mut (o := HO.lst ((ss.map V.str).set j (.str c))) hl0
  have B4 := B3.mut (o := HO.lst ((ss.map V.str).set j (.str c))) nl (B.nc hl0)
  have eD2 := kb_app kall2 nD eD
  have ea2 := kb_app kall2 na ea
  walk_at "T"
  rename_i D' hD'
  refine q D' (ss.set j c) _ (B4.new hD') (kall2.new hD') ⟨a, l, upd_same, u_old ea2 hD', u_old (by rw [upd_same, List.map_set]) hD'⟩ (fun s hs => ?_) List.length_set
  rcases List.mem_or_eq_of_mem_set hs with h | rfl
  · exact G _ h
  · exact hgood _ hcm
end K15

end
section
set_option autoImplicit false
set_option linter.all false
/-! A round makes a row shorter: plain mathematics. -/
namespace LM
theorem zip_cons (a b : Int) (l : List Int) : zipT (a :: b :: l) = (a, b) :: zipT (b :: l) := rfl
theorem zip_one (a : Int) : zipT [a] = [] := rfl
theorem zip_mem {row : List Int} {p : P2} (h : p ∈ zipT row) : p.1 ∈ row ∧ p.2 ∈ row := by
  have h2 := List.of_mem_zip h
  exact ⟨h2.1, List.mem_of_mem_drop h2.2⟩
/-! ### runs: as many as numbers only if no neighbours are the same -/
theorem push_len (rs : List P2) (n : Int) : (pushRun rs n).length ≤ rs.length + 1 := by
  rcases List.eq_nil_or_concat rs with rfl | ⟨rs', r, rfl⟩
  · exact Nat.le_refl _
  · rw [List.concat_eq_append, push_last]
    split <;> simp
theorem runs_fold_len : ∀ (l : List Int) (rs : List P2), (l.foldl pushRun rs).length ≤ rs.length + l.length
  | [], rs => Nat.le_refl _
  | n :: l, rs => by
    have h1 := runs_fold_len l (pushRun rs n)
    have h2 := push_len rs n
    show (l.foldl pushRun (pushRun rs n)).length ≤ _
    rw [List.length_cons]
    omega
theorem runs_full : ∀ (l : List Int) (rs : List P2) (a : Int) (c : Int), (l.foldl pushRun (rs ++ [(a, c)])).length = rs.length + 1 + l.length → l.foldl pushRun (rs ++ [(a, c)]) = rs ++ [(a, c)] ++ l.map (fun x => (x, 1)) ∧ ∀ p ∈ zipT (a :: l), p.1 ≠ p.2
  | [], rs, a, c, _ => ⟨by simp, fun p h => nomatch h⟩
  | n :: l, rs, a, c, h => by
    have h0 : ((n :: l).foldl pushRun (rs ++ [(a, c)])) = l.foldl pushRun (pushRun (rs ++ [(a, c)]) n) := rfl
    rw [h0] at h ⊢
    rw [push_last] at h ⊢
    by_cases e : a = n
    · rw [if_pos e] at h
      have := runs_fold_len l (rs ++ [(n, c + 1)])
      have h2 : (l.foldl pushRun (rs ++ [(n, c + 1)])).length = rs.length + 1 + (l.length + 1) := h
      rw [h2, List.length_append, List.length_cons, List.length_nil] at this
      omega
    · rw [if_neg e] at h ⊢
      have h1 := runs_full l (rs ++ [(a, c)]) n 1 (by
        rw [h, List.length_append, List.length_cons, List.length_cons, List.length_nil]
        omega)
      refine ⟨?_, ?_⟩
      · rw [h1.1, List.map_cons, List.append_assoc _ [(n, (1 : Int))]]
        rfl
      · intro p hp
        rw [zip_cons] at hp
        rcases List.mem_cons.mp hp with rfl | hp
        · exact e
        · exact h1.2 p hp
theorem block_len (row : List Int) (us : Int) : (blockRow row us).length = (runsOf row).length := List.length_map _
theorem block_le (row : List Int) (us : Int) : (blockRow row us).length ≤ row.length := by
  rw [block_len]
  exact runs_len row
/-- as long as before: the same row, no two neighbours the same -/
theorem block_same {row : List Int} {us : Int} (h : (blockRow row us).length = row.length) : blockRow row us = row ∧ ∀ p ∈ zipT row, p.1 ≠ p.2 := by
  cases row with
  | nil => exact ⟨rfl, fun _ h => nomatch h⟩
  | cons a l =>
    rw [block_len] at h
    have h0 : runsOf (a :: l) = l.foldl pushRun ([] ++ [(a, 1)]) := rfl
    rw [h0] at h
    have h1 := runs_full l [] a 1 (by rw [h, List.length_cons, List.length_nil]; omega)
    refine ⟨?_, h1.2⟩
    unfold blockRow
    rw [h0, h1.1]
    simp only [List.nil_append, List.cons_append, List.map_cons, List.map_map]
    rw [if_neg (by decide)]
    congr 1
    have e : ((fun r : P2 => if 1 < r.2 then numOf (blocksOf (a :: l)) us r else r.1) ∘ fun x => (x, 1)) = (id : Int → Int) := by
      funext x
      show (if (1 : Int) < 1 then numOf (blocksOf (a :: l)) us (x, 1) else x) = x
      rw [if_neg (by decide)]
    rw [e, List.map_id]
theorem block_pos {row : List Int} {us : Int} (h : 0 < row.length) : 0 < (blockRow row us).length := by
  rw [block_len]
  have h2 := runs_sum row
  cases e : runsOf row with
  | nil =>
    rw [e] at h2
    simp at h2
    omega
  | cons a l => exact Nat.succ_pos _
theorem block_nn {row : List Int} {us : Int} (h : ∀ n ∈ row, 0 ≤ n) (hu : 0 ≤ us) : ∀ n ∈ blockRow row us, 0 ≤ n := by
  intro n hn
  obtain ⟨r, hr, rfl⟩ := List.mem_map.mp hn
  show 0 ≤ if 1 < r.2 then numOf (blocksOf row) us r else r.1
  split
  · unfold numOf
    omega
  · exact h _ (runs_mem hr)
/-! ### pairs pressed -/
theorem prow_le (ps : List P2) (us : Int) : ∀ row : List Int, (prow ps us row).length ≤ row.length
  | [] => Nat.le_refl _
  | [a] => Nat.le_refl _
  | a :: b :: r => by
    unfold prow
    have h1 := prow_le ps us r
    have h2 := prow_le ps us (b :: r)
    simp only [List.length_cons] at h2
    split <;> simp only [List.length_cons] <;> omega
theorem prow_lt {ps : List P2} {us : Int} : ∀ {row : List Int}, (∃ p ∈ zipT row, p ∈ ps) → (prow ps us row).length < row.length
  | [], ⟨p, h, _⟩ => nomatch h
  | [a], ⟨p, h, _⟩ => nomatch h
  | a :: b :: r, ⟨p, h, hp⟩ => by
    unfold prow
    by_cases z : (a, b) ∈ ps
    · rw [if_pos z]
      have := prow_le ps us r
      simp only [List.length_cons]
      omega
    · rw [if_neg z]
      rw [zip_cons] at h
      rcases List.mem_cons.mp h with rfl | h
      · exact absurd hp z
      · have := prow_lt (ps := ps) (us := us) (row := b :: r) ⟨p, h, hp⟩
        simp only [List.length_cons] at this ⊢
        omega
theorem prow_pos {ps : List P2} {us : Int} : ∀ {row : List Int}, 0 < row.length → 0 < (prow ps us row).length
  | [], h => h
  | [a], h => h
  | a :: b :: r, _ => by
    unfold prow
    split <;> exact Nat.succ_pos _
theorem prow_nn {ps : List P2} {us : Int} (hu : 0 ≤ us) : ∀ {row : List Int}, (∀ n ∈ row, 0 ≤ n) → ∀ n ∈ prow ps us row, 0 ≤ n
  | [], h => h
  | [a], h => h
  | a :: b :: r, h => by
    unfold prow
    intro n hn
    split at hn
    · rcases List.mem_cons.mp hn with rfl | hn
      · unfold numOf
        omega
      · exact prow_nn hu (fun m hm => h m (List.mem_cons_of_mem _ (List.mem_cons_of_mem _ hm))) n hn
    · rcases List.mem_cons.mp hn with rfl | hn
      · exact h _ List.mem_cons_self
      · exact prow_nn hu (fun m hm => h m (List.mem_cons_of_mem _ hm)) n hn
/-! ### the greatest number stands on side 1 if all others stand on side 0 -/
theorem sum_nn {α : Type} (f : α → Int) : ∀ l : List α, (∀ x ∈ l, 0 ≤ f x) → 0 ≤ (l.map f).sum
  | [], _ => Int.le_refl 0
  | x :: l, h => by
    rw [List.map_cons, List.sum_cons]
    have h1 := h x List.mem_cons_self
    have h2 := sum_nn f l fun y hy => h y (List.mem_cons_of_mem _ hy)
    omega
theorem sum_ge {α : Type} (f : α → Int) : ∀ (l : List α) (z : α), (∀ x ∈ l, 0 ≤ f x) → z ∈ l → f z ≤ (l.map f).sum
  | x :: l, z, h, hz => by
    rw [List.map_cons, List.sum_cons]
    have h1 := h x List.mem_cons_self
    have h2 := sum_nn f l fun y hy => h y (List.mem_cons_of_mem _ hy)
    rcases List.mem_cons.mp hz with rfl | hz
    · omega
    · have := sum_ge f l z (fun y hy => h y (List.mem_cons_of_mem _ hy)) hz
      omega
theorem S_ones_nn (P : P2 → Bool) : ∀ cs : List P2, 0 ≤ S P (ones cs)
  | [] => Int.le_refl 0
  | p :: cs => by
    have h := S_ones_nn P cs
    show 0 ≤ S P ((p, 1) :: ones cs)
    rw [S_cons]
    split <;> omega
theorem S_ones_pos {P : P2 → Bool} : ∀ {cs : List P2} {p : P2}, p ∈ cs → P p = true → 0 < S P (ones cs)
  | q :: cs, p, h, hp => by
    have h0 := S_ones_nn P cs
    show 0 < S P ((q, 1) :: ones cs)
    rw [S_cons]
    rcases List.mem_cons.mp h with rfl | h
    · rw [if_pos hp]
      omega
    · have := S_ones_pos h hp
      split <;> omega
theorem wmat_nn (cs : List P2) (x y : Int) : 0 ≤ wmat cs x y := Int.add_nonneg (S_ones_nn _ _) (S_ones_nn _ _)
theorem wmat_pos {cs : List P2} {x y : Int} (h : (x, y) ∈ cs ∨ (y, x) ∈ cs) : 0 < wmat cs x y := by
  rcases h with h | h
  · exact Int.add_pos_of_pos_of_nonneg (S_ones_pos h (decide_eq_true rfl)) (S_ones_nn _ _)
  · exact Int.add_pos_of_nonneg_of_pos (S_ones_nn _ _) (S_ones_pos h (decide_eq_true rfl))
/-- in a row of two numbers and more every number has a neighbour -/
theorem neighbour : ∀ {row : List Int} {x : Int}, 1 < row.length → x ∈ row → ∃ y, (x, y) ∈ zipT row ∨ (y, x) ∈ zipT row
  | [], _, h, _ => by simp at h
  | [_], _, h, _ => by simp at h
  | a :: b :: r, x, _, hx => by
    rcases List.mem_cons.mp hx with rfl | hx
    · exact ⟨b, .inl List.mem_cons_self⟩
    · rcases List.mem_cons.mp hx with rfl | hx
      · exact ⟨a, .inr List.mem_cons_self⟩
      · cases r with
        | nil => cases hx
        | cons c r =>
          obtain ⟨y, h⟩ := neighbour (row := b :: c :: r) (x := x) (by simp) (List.mem_cons_of_mem _ hx)
          exact ⟨y, h.elim (fun h => .inl (List.mem_cons_of_mem _ h)) fun h => .inr (List.mem_cons_of_mem _ h)⟩
theorem rights_stay (wm : Int → Int → Int) (srt : List Int) (j : Nat) : ∀ {k m : Nat}, j < k → k ≤ m → (rights wm srt m).getD j false = (rights wm srt k).getD j false := by
  intro k m h1 h2
  induction h2 with
  | refl => rfl
  | step h ih => rw [rights_get _ _ _ _ (Nat.lt_of_lt_of_le h1 h), ih]
theorem rights_last (wm : Int → Int → Int) (srt : List Int) (k : Nat) : (rights wm srt (k + 1)).getD k false = decide (((List.range k).map fun j => if (rights wm srt k).getD j false = true then wm (srt.getD k 0) (srt.getD j 0) else 0).sum < ((List.range k).map fun j => if (rights wm srt k).getD j false = true then 0 else wm (srt.getD k 0) (srt.getD j 0)).sum) := by
  show (rights wm srt k ++ [_]).getD k false = _
  rw [List.getD_eq_getElem?_getD, List.getElem?_append_right (by rw [rights_len]; exact Nat.le_refl _), rights_len, Nat.sub_self]
  rfl
theorem onR_at (row : List Int) {j : Nat} (h : j < (sortI (nums row)).length) : onR row ((sortI (nums row)).getD j 0) = (rights (wmat (zipT row)) (sortI (nums row)) (sortI (nums row)).length).getD j false := by
  have nd : (sortI (nums row)).Nodup := (sortI_perm _).nodup_iff.mpr (nodup_dedup _)
  unfold onR
  have e : (sortI (nums row)).getD j 0 = (sortI (nums row))[j] := by
    rw [List.getD_eq_getElem?_getD, List.getElem?_eq_getElem h]
    rfl
  rw [e, List.Nodup.idxOf_getElem nd]
theorem onR_some {row : List Int} (hl : 1 < row.length) (hn : ∀ p ∈ zipT row, p.1 ≠ p.2) : (∃ x ∈ row, onR row x = true) ∧ ∃ x ∈ row, onR row x = false := by
  have nd : (sortI (nums row)).Nodup := (sortI_perm _).nodup_iff.mpr (nodup_dedup _)
  have hm : ∀ x, x ∈ sortI (nums row) ↔ x ∈ row := fun x => (sortI_perm _).mem_iff.trans mem_dedup
  have hat := fun j => onR_at row (j := j)
  generalize hs : sortI (nums row) = srt at nd hm hat
  have get : ∀ {j}, (h : j < srt.length) → srt.getD j 0 ∈ row := fun {j} h => by
    refine (hm _).mp ?_
    rw [List.getD_eq_getElem?_getD, List.getElem?_eq_getElem h]
    exact List.getElem_mem h
  have hpos : 0 < srt.length := by
    match row, hl with
    | a :: _, _ => exact List.length_pos_of_mem ((hm a).mpr List.mem_cons_self)
  have h0 : onR row (srt.getD 0 0) = false := by
    rw [hat 0 hpos, rights_stay _ _ 0 (k := 1) (by decide) hpos, rights_last]
    rfl
  refine ⟨?_, _, get hpos, h0⟩
  apply Classical.byContradiction
  intro hc
  have hf : ∀ j, j < srt.length → (rights (wmat (zipT row)) srt srt.length).getD j false = false := fun j hj => by
    rw [← hat j hj]
    cases e : onR row (srt.getD j 0) with
    | false => rfl
    | true => exact absurd ⟨_, get hj, e⟩ hc
  -- the last number
  obtain ⟨k, hk⟩ : ∃ k, srt.length = k + 1 := ⟨srt.length - 1, by omega⟩
  have hlast := hf k (by omega)
  rw [hk, rights_last] at hlast
  have hz : ∀ j, j < k → (rights (wmat (zipT row)) srt k).getD j false = false := fun j hj => by
    rw [← rights_stay _ _ j (k := k) (m := srt.length) hj (by omega)]
    exact hf j (by omega)
  have e1 : ((List.range k).map fun j => if (rights (wmat (zipT row)) srt k).getD j false = true then wmat (zipT row) (srt.getD k 0) (srt.getD j 0) else 0) = (List.range k).map fun _ => (0 : Int) := by
    refine List.map_congr_left fun j hj => ?_
    rw [hz j (List.mem_range.mp hj)]
    rfl
  have e2 : ((List.range k).map fun j => if (rights (wmat (zipT row)) srt k).getD j false = true then 0 else wmat (zipT row) (srt.getD k 0) (srt.getD j 0)) = (List.range k).map fun j => wmat (zipT row) (srt.getD k 0) (srt.getD j 0) := by
    refine List.map_congr_left fun j hj => ?_
    rw [hz j (List.mem_range.mp hj)]
    rfl
  rw [e1, e2] at hlast
  have hlast := of_decide_eq_false hlast
  have z0 : ((List.range k).map fun _ => (0 : Int)).sum = 0 := by
    generalize List.range k = l
    induction l with
    | nil => rfl
    | cons a l ih => rw [List.map_cons, List.sum_cons, ih]; rfl
  rw [z0] at hlast
  obtain ⟨y, hy⟩ := neighbour hl (get (j := k) (by omega))
  have hyr : y ∈ row := hy.elim (fun h => (zip_mem h).2) fun h => (zip_mem h).1
  have hyn : y ≠ srt.getD k 0 := hy.elim (fun h e => hn _ h e.symm) fun h e => hn _ h e
  have hys := (hm y).mpr hyr
  have hi := List.idxOf_lt_length_of_mem hys
  have ei : srt.getD (srt.idxOf y) 0 = y := by
    rw [List.getD_eq_getElem?_getD, List.getElem?_eq_getElem hi, List.getElem_idxOf hi]
    rfl
  have hik : srt.idxOf y < k := by
    rcases Nat.lt_or_ge (srt.idxOf y) k with h | h
    · exact h
    · exfalso
      have : srt.idxOf y = k := by omega
      rw [this] at ei
      exact hyn ei.symm
  have hge := sum_ge (fun j => wmat (zipT row) (srt.getD k 0) (srt.getD j 0)) (List.range k) (srt.idxOf y) (fun _ _ => wmat_nn _ _ _) (List.mem_range.mpr hik)
  have hp : 0 < wmat (zipT row) (srt.getD k 0) (srt.getD (srt.idxOf y) 0) := by
    rw [ei]
    exact wmat_pos hy
  have : (0 : Int) < ((List.range k).map fun j => wmat (zipT row) (srt.getD k 0) (srt.getD j 0)).sum := Int.lt_of_lt_of_le hp hge
  exact hlast this
/-! ### a crossing -/
theorem tele (f : Int → Int) : ∀ (a : Int) (l : List Int), ((zipT (a :: l)).map fun p => f p.1 - f p.2).sum = f a - f ((a :: l).getLast (List.cons_ne_nil _ _))
  | a, [] => by
    show (0 : Int) = f a - f a
    omega
  | a, b :: l => by
    rw [zip_cons, List.map_cons, List.sum_cons, tele f b l, List.getLast_cons (List.cons_ne_nil _ _)]
    show f a - f b + _ = _
    omega
theorem mono_all {L : Int → Prop} : ∀ {a : Int} {l : List Int}, (∀ p ∈ zipT (a :: l), L p.1 → L p.2) → L a → ∀ x ∈ a :: l, L x
  | a, [], _, ha, x, hx => by
    rw [List.mem_singleton.mp hx]
    exact ha
  | a, b :: l, h, ha, x, hx => by
    rcases List.mem_cons.mp hx with rfl | hx
    · exact ha
    · exact mono_all (fun p hp => h p (List.mem_cons_of_mem _ hp)) (h (a, b) List.mem_cons_self ha) x hx
theorem mono_last {L : Int → Prop} : ∀ {a : Int} {l : List Int}, (∀ p ∈ zipT (a :: l), L p.1 → L p.2) → ∀ x ∈ a :: l, L x → L ((a :: l).getLast (List.cons_ne_nil _ _))
  | a, [], _, x, hx, h => by
    rw [List.mem_singleton.mp hx] at h
    exact h
  | a, b :: l, hz, x, hx, h => by
    rw [List.getLast_cons (List.cons_ne_nil _ _)]
    rcases List.mem_cons.mp hx with rfl | hx
    · exact mono_last (fun p hp => hz p (List.mem_cons_of_mem _ hp)) b List.mem_cons_self (hz (_, b) List.mem_cons_self h)
    · exact mono_last (fun p hp => hz p (List.mem_cons_of_mem _ hp)) x hx h
theorem crossing {row : List Int} (hl : 1 < row.length) (hn : ∀ p ∈ zipT row, p.1 ≠ p.2) : ∃ p ∈ zipT row, p.1 ∈ leftNums row ∧ p.2 ∉ leftNums row := by
  have hL : ∀ x ∈ row, (x ∈ leftNums row ↔ onR row x = decide (0 < turnOf row)) := fun x hx => by
    rw [left_mat, List.mem_filter, decide_eq_true_eq]
    exact ⟨fun h => h.2, fun h => ⟨(sortI_perm _).mem_iff.mpr (mem_dedup.mpr hx), h⟩⟩
  obtain ⟨⟨t, ht, et⟩, ⟨u, hu, eu⟩⟩ := onR_some hl hn
  apply Classical.byContradiction
  intro hc
  cases row with
  | nil => simp at hl
  | cons a l =>
    have hm : ∀ p ∈ zipT (a :: l), p.1 ∈ leftNums (a :: l) → p.2 ∈ leftNums (a :: l) := fun p hp h1 => by
      apply Classical.byContradiction
      intro h2
      exact hc ⟨p, hp, h1, h2⟩
    have hlm : (a :: l).getLast (List.cons_ne_nil _ _) ∈ a :: l := List.getLast_mem _
    have htn : turnOf (a :: l) = b2i (onR (a :: l) a) - b2i (onR (a :: l) ((a :: l).getLast (List.cons_ne_nil _ _))) := tele (fun x => b2i (onR (a :: l) x)) a l
    have hlL := hL _ hlm
    have haL := hL a List.mem_cons_self
    have hml := mono_last (L := fun x => x ∈ leftNums (a :: l)) hm
    generalize (a :: l).getLast (List.cons_ne_nil _ _) = z at *
    have hna : a ∉ leftNums (a :: l) := fun ha => by
      have hall := mono_all (L := fun x => x ∈ leftNums (a :: l)) hm ha
      have h1 := (hL t ht).mp (hall t ht)
      have h2 := (hL u hu).mp (hall u hu)
      rw [et] at h1
      rw [eu] at h2
      rw [← h1] at h2
      cases h2
    have hz : z ∈ leftNums (a :: l) := by
      by_cases h : 0 < turnOf (a :: l)
      · exact hml t ht ((hL t ht).mpr (by rw [et, decide_eq_true h]))
      · exact hml u hu ((hL u hu).mpr (by rw [eu, decide_eq_false h]))
    have e1 := hlL.mp hz
    have e2 : onR (a :: l) a ≠ decide (0 < turnOf (a :: l)) := fun h => hna (haL.mpr h)
    unfold b2i at htn
    by_cases h : 0 < turnOf (a :: l)
    · rw [decide_eq_true h] at e1 e2
      rw [e1, (Bool.not_eq_true _).mp e2] at htn
      simp at htn
      omega
    · rw [decide_eq_false h] at e1 e2
      rw [e1, (Bool.not_eq_false _).mp e2] at htn
      simp at htn
      omega
/-! ### a round -/
def inT (ls : List Int) (x : Int) : Bool := decide (x ∈ ls)
structure Rnd where
  row : List Int
  used : Int
  blocks : List P2
  lefts : List Int
  pairs : List P2
def round (row : List Int) (us : Int) : Rnd :=
  let r1 := blockRow row us
  let u1 := us + ((blocksOf row).length : Nat)
  if 1 < r1.length then
    let lf := leftNums r1
    let ps := pairsOf r1 (inT lf)
    ⟨prow ps u1 r1, u1 + (ps.length : Nat), blocksOf row, lf, ps⟩
  else ⟨r1, u1, blocksOf row, [], []⟩
theorem round_lt {row : List Int} {us : Int} (h : 1 < row.length) : (round row us).row.length < row.length := by
  unfold round
  have hb := block_le row us
  simp only
  split
  · rename_i h1
    have hp := prow_le (pairsOf (blockRow row us) (inT (leftNums (blockRow row us)))) (us + ((blocksOf row).length : Nat)) (blockRow row us)
    show (prow _ _ _).length < _
    by_cases e : (blockRow row us).length = row.length
    · have h2 := block_same e
      rw [h2.1]
      obtain ⟨p, hp, h3, h4⟩ := crossing h h2.2
      refine prow_lt ⟨p, hp, mem_pairs.mpr ⟨hp, ?_⟩⟩
      unfold isK inT
      rw [decide_eq_true h3, decide_eq_false h4]
      rfl
    · omega
  · rename_i h1
    show (blockRow row us).length < _
    omega
theorem round_pos {row : List Int} {us : Int} (h : 0 < row.length) : 0 < (round row us).row.length := by
  unfold round
  simp only
  split
  · exact prow_pos (block_pos h)
  · exact block_pos h
theorem round_nn {row : List Int} {us : Int} (h : ∀ n ∈ row, 0 ≤ n) (hu : 0 ≤ us) : (∀ n ∈ (round row us).row, 0 ≤ n) ∧ 0 ≤ (round row us).used := by
  unfold round
  simp only
  split
  · exact ⟨prow_nn (by omega) (block_nn h hu), by show 0 ≤ us + _ + _; omega⟩
  · exact ⟨block_nn h hu, by show 0 ≤ us + _; omega⟩
/-- all rounds, with steps enough -/
def rowAt (row : List Int) (us : Int) : Nat → List Int × Int
  | 0 => (row, us)
  | k + 1 => let r := rowAt row us k; ((round r.1 r.2).row, (round r.1 r.2).used)
theorem rowAt_ok {row : List Int} {us : Int} (h0 : 0 < row.length) (hn : ∀ n ∈ row, 0 ≤ n) (hu : 0 ≤ us) : ∀ k, (∀ j, j < k → 1 < (rowAt row us j).1.length) → (rowAt row us k).1.length + k ≤ row.length ∧ 0 < (rowAt row us k).1.length ∧ (∀ n ∈ (rowAt row us k).1, 0 ≤ n) ∧ 0 ≤ (rowAt row us k).2
  | 0, _ => ⟨Nat.le_refl _, h0, hn, hu⟩
  | k + 1, h => by
    obtain ⟨a, b, c, d⟩ := rowAt_ok h0 hn hu k fun j hj => h j (by omega)
    have h1 := round_lt (us := (rowAt row us k).2) (h k (by omega))
    have h2 := round_nn c d
    exact ⟨by show (round _ _).row.length + (k + 1) ≤ _; omega, round_pos b, h2.1, h2.2⟩
end LM

end
section
set_option autoImplicit false
set_option linter.all false
/-! Forests by rows of depths: plain mathematics. -/
namespace LM
open PySem hiding Tree
open LV
def nilS : Str := ⟨#[]⟩
mutual
def marksT : Tree → List Str
  | .mk n ts => n :: (marksF ts ++ [nilS])
def marksF : List Tree → List Str
  | [] => []
  | t :: ts => marksT t ++ marksF ts
end
/-- what is open at depth d, and behind it -/
def up (R : Nat → List Tree) : Nat → List Str
  | 0 => marksF (R 0)
  | d + 1 => marksF (R (d + 1)) ++ nilS :: up R d
def stepF (R : Nat → List Tree) (d : Nat) (n : Str) : Nat → List Tree := fun j => if j = d + 1 then [] else if j = d then .mk n (R (d + 1)) :: R d else R j
abbrev Doc := List (Int × Str)
def forestR : Doc → Nat → List Tree
  | [] => fun _ => []
  | p :: l => stepF (forestR l) p.1.toNat p.2
def zs (k : Int) : List Str := List.replicate k.toNat nilS
def tlM : Int → Doc → List Str
  | p, [] => zs (p + 1)
  | p, (d, n) :: l => zs (p + 1 - d) ++ n :: tlM d l
def firstM : Doc → List Str
  | [] => []
  | (d, n) :: l => n :: tlM d l
def okD : Int → Doc → Prop
  | _, [] => True
  | p, (d, _) :: l => 0 ≤ d ∧ d ≤ p + 1 ∧ okD d l
theorem up_gap (R : Nat → List Tree) (e : Nat) (h : ∀ j, e < j → R j = []) : ∀ i, up R (e + i) = List.replicate i nilS ++ up R e
  | 0 => rfl
  | i + 1 => by
    show marksF (R (e + i + 1)) ++ nilS :: up R (e + i) = _
    rw [h _ (by omega), up_gap R e h i]
    rfl
theorem up_congr {R R' : Nat → List Tree} : ∀ d, (∀ j, j ≤ d → R j = R' j) → up R d = up R' d
  | 0, h => by
    show marksF (R 0) = marksF (R' 0)
    rw [h 0 (Nat.le_refl _)]
  | d + 1, h => by
    show marksF (R (d + 1)) ++ nilS :: up R d = marksF (R' (d + 1)) ++ nilS :: up R' d
    rw [h _ (Nat.le_refl _), up_congr d fun j hj => h j (by omega)]
theorem marksF_cons (n : Str) (ts rs : List Tree) : marksF (.mk n ts :: rs) = n :: (marksF ts ++ nilS :: marksF rs) := by
  show (n :: (marksF ts ++ [nilS])) ++ marksF rs = _
  simp
theorem up_step (R : Nat → List Tree) (n : Str) : ∀ d, up (stepF R d n) d = n :: up R (d + 1)
  | 0 => by
    show marksF (stepF R 0 n 0) = n :: (marksF (R 1) ++ nilS :: marksF (R 0))
    have e : stepF R 0 n 0 = .mk n (R 1) :: R 0 := by
      unfold stepF
      rw [if_neg (by decide), if_pos rfl]
    rw [e, marksF_cons]
  | d + 1 => by
    show marksF (stepF R (d + 1) n (d + 1)) ++ nilS :: up (stepF R (d + 1) n) d = n :: (marksF (R (d + 2)) ++ nilS :: (marksF (R (d + 1)) ++ nilS :: up R d))
    have e : stepF R (d + 1) n (d + 1) = .mk n (R (d + 2)) :: R (d + 1) := by
      unfold stepF
      rw [if_neg (by omega), if_pos rfl]
    have e2 : up (stepF R (d + 1) n) d = up R d := up_congr d fun j hj => by
      unfold stepF
      rw [if_neg (by omega), if_neg (by omega)]
    rw [e, marksF_cons, e2]
    simp
theorem up_tl : ∀ (l : Doc) (p : Int), -1 ≤ p → okD p l → up (forestR l) (p + 1).toNat = tlM p l ∧ ∀ j, (p + 1).toNat < j → forestR l j = []
  | [], p, hp, _ => by
    refine ⟨?_, fun _ _ => rfl⟩
    have h := up_gap (fun _ => []) 0 (fun _ _ => rfl) (p + 1).toNat
    rw [Nat.zero_add] at h
    show up (fun _ => []) (p + 1).toNat = zs (p + 1)
    rw [h]
    show _ ++ [] = _
    rw [List.append_nil]
    rfl
  | (d, n) :: l, p, hp, ⟨h0, h1, hl⟩ => by
    obtain ⟨ih, hz⟩ := up_tl l d (by omega) hl
    have hR : ∀ j, d.toNat < j → stepF (forestR l) d.toNat n j = [] := fun j hj => by
      unfold stepF
      by_cases e : j = d.toNat + 1
      · rw [if_pos e]
      · rw [if_neg e, if_neg (by omega), hz j (by omega)]
    refine ⟨?_, fun j hj => hR j (by omega)⟩
    obtain ⟨i, hi⟩ : ∃ i : Nat, (p + 1).toNat = d.toNat + i ∧ (p + 1 - d).toNat = i := ⟨(p + 1 - d).toNat, by omega, rfl⟩
    show up (stepF (forestR l) d.toNat n) (p + 1).toNat = zs (p + 1 - d) ++ n :: tlM d l
    rw [hi.1, up_gap _ _ hR, up_step, ← ih, show (d + 1).toNat = d.toNat + 1 by omega]
    unfold zs
    rw [hi.2]
/-- the marks of the forest, as the law has them -/
theorem marks_first {l : Doc} (h : okD (-1) l) : marksF (forestR l 0) = firstM l := by
  have h2 := (up_tl l (-1) (Int.le_refl _) h).1
  have h3 : up (forestR l) 0 = tlM (-1) l := h2
  show up (forestR l) 0 = _
  rw [h3]
  cases l with
  | nil => rfl
  | cons q l =>
    obtain ⟨d, n⟩ := q
    have hd : d = 0 := by
      have := h.1
      have := h.2.1
      omega
    subst hd
    rfl
theorem tl_len : ∀ (l : Doc) (p : Int), -1 ≤ p → okD p l → ((tlM p l).length : Int) = p + 1 + 2 * l.length
  | [], p, hp, _ => by
    show ((List.replicate (p + 1).toNat nilS).length : Int) = p + 1 + 2 * 0
    rw [List.length_replicate]
    omega
  | (d, n) :: l, p, hp, ⟨h0, h1, hl⟩ => by
    have ih := tl_len l d (by omega) hl
    show ((zs (p + 1 - d) ++ n :: tlM d l).length : Int) = _
    unfold zs
    rw [List.length_append, List.length_replicate, List.length_cons, List.length_cons]
    omega
theorem first_len {l : Doc} (h : okD (-1) l) : (firstM l).length = 2 * l.length := by
  cases l with
  | nil => rfl
  | cons q l =>
    obtain ⟨d, n⟩ := q
    have hd : d = 0 := by
      have := h.1
      have := h.2.1
      omega
    subst hd
    have := tl_len l 0 (by decide) h.2.2
    show (tlM 0 l).length + 1 = 2 * (l.length + 1)
    omega
theorem mem_zs {k : Int} {x : Str} (h : x ∈ zs k) : x = nilS := (List.mem_replicate.mp h).2
theorem mem_tl : ∀ (l : Doc) (p : Int) (x : Str), x ≠ nilS → (x ∈ tlM p l ↔ x ∈ l.map (·.2))
  | [], p, x, hx => ⟨fun h => absurd (mem_zs h) hx, fun h => nomatch h⟩
  | (d, n) :: l, p, x, hx => by
    show x ∈ zs (p + 1 - d) ++ n :: tlM d l ↔ x ∈ n :: l.map (·.2)
    rw [List.mem_append, List.mem_cons, List.mem_cons, mem_tl l d x hx]
    exact ⟨fun h => h.elim (fun h => absurd (mem_zs h) hx) id, .inr⟩
theorem mem_first {l : Doc} {x : Str} (hx : x ≠ nilS) : x ∈ firstM l ↔ x ∈ l.map (·.2) := by
  cases l with
  | nil => exact ⟨fun h => (nomatch h), fun h => (nomatch h)⟩
  | cons q l =>
    obtain ⟨d, n⟩ := q
    show x ∈ n :: tlM d l ↔ x ∈ n :: l.map (·.2)
    rw [List.mem_cons, List.mem_cons, mem_tl l d x hx]
/-- the number of a mark -/
def numM (over : List Str) (m : Str) : Int := if m = nilS then 0 else 1 + (over.idxOf m : Nat)
def namesOf (l : Doc) : List Str := LU.sortS (dedup (l.map (·.2)))
def rowOf (l : Doc) : List Int := (firstM l).map (numM (namesOf l))
theorem names_marks {l : Doc} (h : ∀ s ∈ l.map (·.2), s ≠ nilS) : LU.sortS (dedup ((firstM l).filter fun m => decide (m ≠ nilS))) = namesOf l := by
  refine LU.sortS_congr ((List.perm_ext_iff_of_nodup (nodup_dedup _) (nodup_dedup _)).mpr fun x => ?_)
  rw [mem_dedup, mem_dedup, List.mem_filter, decide_eq_true_eq]
  constructor
  · rintro ⟨h1, h2⟩
    exact (mem_first h2).mp h1
  · intro h1
    have h2 := h x h1
    exact ⟨(mem_first h2).mpr h1, h2⟩
theorem names_len (l : Doc) : (namesOf l).length ≤ l.length := by
  unfold namesOf
  rw [(LU.sortS_perm _).length_eq]
  exact Nat.le_trans (len_dedup _) (by rw [List.length_map]; exact Nat.le_refl _)
theorem mem_names {l : Doc} {x : Str} : x ∈ namesOf l ↔ x ∈ l.map (·.2) := by
  unfold namesOf
  rw [(LU.sortS_perm _).mem_iff, mem_dedup]
theorem row_nn (l : Doc) : ∀ n ∈ rowOf l, 0 ≤ n := by
  intro n hn
  obtain ⟨m, _, rfl⟩ := List.mem_map.mp hn
  unfold numM
  split <;> omega
theorem row_len {l : Doc} (h : okD (-1) l) : (rowOf l).length = 2 * l.length := by
  unfold rowOf
  rw [List.length_map, first_len h]
/-! good trees -/
theorem okTs_app : ∀ {a b : List Tree}, okTs a → okTs b → okTs (a ++ b)
  | [], _, _, h => h
  | _ :: _, _, h1, h2 => ⟨h1.1, okTs_app h1.2 h2⟩
theorem forest_ok : ∀ {l : Doc}, (∀ s ∈ l.map (·.2), s ≠ nilS ∧ PyData.strOk s = true) → ∀ j, okTs (forestR l j)
  | [], _, _ => trivial
  | (d, n) :: l, h, j => by
    have ih := forest_ok (l := l) fun s hs => h s (List.mem_cons_of_mem _ hs)
    have hn := h n List.mem_cons_self
    show okTs (stepF (forestR l) d.toNat n j)
    unfold stepF
    split
    · trivial
    · split
      · exact ⟨⟨hn.1, hn.2, ih _⟩, ih _⟩
      · exact ih _
end LM

end
section
set_option Elab.async false
set_option linter.all false
set_option maxRecDepth 100000
set_option maxHeartbeats 4000000
namespace K15
open PySem hiding Tree
open PySem.Spec PyProof.Rows L2 LW LM LV
/-! ### steps of a reading, heaps: short tactics -/
local macro_rules | `(tactic| walk_at "ne") => `(tactic| first
  | assumption
  | (apply Ne.symm; assumption)
  | exact ne_none (by assumption) (by assumption)
  | exact (ne_none (by assumption) (by assumption)).symm
  | exact ne_of (by assumption) (by assumption) (by intro z; cases z))
local macro_rules | `(tactic| walk_at "hp") => `(tactic| first
  | assumption
  | with_reducible exact upd_same
  | ((first
      | with_reducible refine u_old ?_ (by assumption)
      | with_reducible refine u_oth (by walk_at "ne") ?_
      | with_reducible refine same_app (by assumption) ?_
      | with_reducible refine kb_app (by assumption) (by walk_at "ne") ?_); walk_at "hp")
  | ((with_reducible refine u_kind ?h (by assumption) ?d); (case h => walk_at "hp"); (case d => (intro z; cases z))))
local macro_rules | `(tactic| walk_at "sq") => `(tactic| first
  | assumption
  | exact SqL.of (by walk_at "hp")
  | exact SqT.of (by walk_at "hp")
  | (with_reducible refine same_sqT (by assumption) ?_; walk_at "sq")
  | (with_reducible refine same_sqL (by assumption) ?_; walk_at "sq")
  | (with_reducible refine new_sqT (by assumption) ?_; walk_at "sq")
  | (with_reducible refine new_sqL (by assumption) ?_; walk_at "sq")
  | ((with_reducible refine mut_sqT (u := ?uu) ?hd ?hm ?_); (case hd => walk_at "hp"); (case hm => exact trivial); walk_at "sq"))
local macro_rules | `(tactic| walk_at "rd") => `(tactic| first
  | assumption
  | exact .inl (by walk_at "hp")
  | exact .inr ⟨_, by walk_at "hp"⟩)
local macro_rules | `(tactic| walk_at "s") => `(tactic| first
  | with_reducible refine s_seq ?_
  | with_reducible refine s_asg ?_
  | with_reducible refine g_name ?_
  | ((with_reducible refine e_var (v := ?vv) ?hv ?_); (case hv => rfl))
  | with_reducible refine e_c ?_
  | with_reducible refine e_op ?_
  | with_reducible refine a_cons ?_
  | with_reducible refine a_nil ?_
  | with_reducible refine e_cb ?_
  | with_reducible refine e_call ?_
  | with_reducible refine e_callK ?_
  | with_reducible refine s_ret ?_
  | with_reducible refine s_retN ?_
  | with_reducible refine s_drop ?_
  | with_reducible refine s_ifs ?_
  | with_reducible refine s_next ?_
  | with_reducible refine s_cont ?_
  | with_reducible refine s_brk ?_
  | with_reducible refine s_par ?_
  | with_reducible refine s_par3 ?_
  | with_reducible refine e_un ?_
  | with_reducible refine e_if ?_
  | with_reducible refine e_andV ?_
  | with_reducible refine e_orV ?_
  | with_reducible refine e_notV ?_
  | with_reducible refine e_dget ?_
  | with_reducible refine e_dget2 ?_
  | with_reducible refine e_din ?_
  | with_reducible refine e_dnotin ?_
  | with_reducible refine e_then ?_
  | with_reducible refine e_bm ?_
  | with_reducible refine e_bm0 ?_
  | with_reducible refine e_sl ?_
  | with_reducible refine o_none ?_
  | with_reducible refine o_part ?_
  | with_reducible refine g_sub ?_
  | with_reducible refine g_nil ?_
  | with_reducible refine g_cons ?_
  | with_reducible refine t_test ?_
  | with_reducible refine t_B ?_
  | with_reducible refine t_and ?_
  | with_reducible refine t_or ?_
  | with_reducible refine t_not ?_
  | ((with_reducible refine r_ixI (ns := ?ns) ?hs ?h0 ?h1 ?_); (case hs => walk_at "sq"); (case h0 => omega); (case h1 => omega))
  | ((with_reducible refine r_ixL (xs := ?xs) (v := ?vv) ?hs ?hi ?_); (case hs => walk_at "sq"); (case hi => rfl))
  | ((with_reducible refine r_ixT (xs := ?xs) (v := ?vv) ?hs ?hi ?_); (case hs => walk_at "sq"); (case hi => rfl))
  | ((with_reducible refine g_setL (xs := ?xs) (j := ?jj) ?hp ?hj ?_); (case hp => walk_at "hp"); (case hj => rfl))
  | ((with_reducible refine r_mul ?hc ?_); (case hc => first | exact .inr (by decide) | exact .inl (by decide) | exact .inl ⟨by omega, by omega⟩ | exact .inr ⟨by omega, by omega⟩))
  | ((with_reducible refine r_mod ?hc ?_); (case hc => first | decide | omega))
  | ((with_reducible refine r_fdivN ?hc ?_); (case hc => exact ⟨by first | decide | omega, by first | decide | omega⟩))
  | ((with_reducible refine r_pow ?hc ?_); (case hc => first | decide | exact ⟨by decide, by decide⟩ | (unfold CPow; decide)))
  | ((with_reducible refine r_lenI (ns := ?ns) ?hs ?_); (case hs => walk_at "sq"))
  | ((with_reducible refine r_lenTI (ns := ?ns) ?hs ?_); (case hs => walk_at "sq"))
  | ((with_reducible refine r_lenL (xs := ?xs) ?hs ?_); (case hs => walk_at "sq"))
  | ((with_reducible refine r_lenT (xs := ?xs) ?hs ?_); (case hs => walk_at "sq"))
  | ((with_reducible refine r_tyL (xs := ?xs) ?hs ?_); (case hs => walk_at "sq"))
  | with_reducible refine r_add ?_
  | with_reducible refine r_sub ?_
  | with_reducible refine r_lt ?_
  | with_reducible refine r_le ?_
  | with_reducible refine r_gt ?_
  | with_reducible refine r_ge ?_
  | with_reducible refine r_eqI ?_
  | with_reducible refine r_neI ?_
  | with_reducible refine r_int ?_
  | with_reducible refine r_intb ?_
  | with_reducible refine r_neg ?_
  | with_reducible refine r_max2 ?_
  | with_reducible refine r_min2 ?_
  | with_reducible refine c_sp1 ?_
  | with_reducible refine c_sp2 ?_
  | with_reducible refine c_sp3 ?_
  | with_reducible refine c_sp4 ?_
  | with_reducible refine c_sp5 ?_
  | with_reducible refine t_end ?_
  | with_reducible refine o_part_end ?_
  | ((with_reducible refine s_aug (x := ?xx) ?hx ?_); (case hx => rfl))
  | with_reducible refine s_for ?_
  | with_reducible refine i_list ?_
  | with_reducible refine i_tup ?_
  | with_reducible refine i_rng1 ?_
  | with_reducible refine i_rng2 ?_
  | with_reducible refine i_keys ?_
  | with_reducible refine i_items ?_
  | with_reducible refine i_zip2 ?_
  | with_reducible refine i_enum2 ?_
  | ((with_reducible refine i_rng1E ?h1 ?h2 ?_); (case h1 => omega); (case h2 => omega))
  | ((with_reducible refine i_rng2E ?h1 ?_); (case h1 => omega))
  | ((with_reducible refine i_listE (xs := ?xs) ?hs ?_); (case hs => walk_at "sq"))
  | ((with_reducible refine i_tupE (xs := ?xs) ?hs ?_); (case hs => walk_at "sq"))
  | ((with_reducible refine q_isD ?hi ?_); (case hi => first | exact isD_K (by walk_at "rd") | exact isD_T (by walk_at "rd")))
  | with_reducible refine q_ref ?_
  | with_reducible refine e_dnewK ?_
  | with_reducible refine e_dnewT ?_
  | with_reducible refine e_tup ?_
  | with_reducible refine e_lst ?_
  | ((with_reducible refine r_new ?hn ?_); (case hn => exact Nat.le_of_ble_eq_true rfl))
  | with_reducible refine r_fresh fun _ _ => ?_
  | with_reducible refine s_par_end ?_
  | with_reducible refine s_par3_end ?_
  | with_reducible refine e_lc ?_
  | with_reducible refine e_dc ?_
  | with_reducible refine e_dcT ?_
  | with_reducible refine t_tyes ?_
  | with_reducible refine t_tt ?_
  | with_reducible refine t_ff ?_
  | with_reducible refine c_wipe rfl ?_)
local macro_rules | `(tactic| walk_at "S") => `(tactic| repeat' first | walk_at "s" | with_reducible refine s_dput ?_)
local macro_rules | `(tactic| walk_at "T") => `(tactic| repeat' walk_at "s")

/-! ### marks_of -/
theorem r_pop {H : Hp} {l : Addr} {xs : List V} {v : V} {Q : VK} (h1 : H l = some (.lst (xs ++ [v]))) (h : Q v (upd H l (.lst xs))) : rPop (.ref l) [] H Q := ⟨l, _, v, rfl, rfl, h1, by
  rw [List.length_append, List.length_singleton, Nat.add_sub_cancel, List.getElem?_append_right (Nat.le_refl _), Nat.sub_self]
  rfl, by
  rw [List.dropLast_concat]
  exact h⟩
/-- what stands on the pile: a tree or an end mark -/
inductive PileAt (H : Hp) : List V → List (Option Tree) → Prop
  | nil : PileAt H [] []
  | tree {v : V} {vs : List V} {t : Tree} {os : List (Option Tree)} : TreeAt H v t → okT t → PileAt H vs os → PileAt H (v :: vs) (some t :: os)
  | fin {vs : List V} {os : List (Option Tree)} : PileAt H vs os → PileAt H (.str nilS :: vs) (none :: os)
def marksP : List (Option Tree) → List Str
  | [] => []
  | some t :: os => marksT t ++ marksP os
  | none :: os => nilS :: marksP os
theorem pile_trees {H : Hp} : ∀ {vs : List V} {ts : List Tree} {ws : List V} {os : List (Option Tree)}, TreesAt H vs ts → okTs ts → PileAt H ws os → PileAt H (vs ++ ws) (ts.map some ++ os)
  | _, _, _, _, .nil, _, h => h
  | _, _, _, _, .cons h1 h2, o, h => .tree h1 o.1 (pile_trees h2 o.2 h)
theorem marksP_trees : ∀ (ts : List Tree) (os : List (Option Tree)), marksP (ts.map some ++ os) = marksF ts ++ marksP os
  | [], _ => rfl
  | t :: ts, os => by
    show marksT t ++ marksP (ts.map some ++ os) = (marksT t ++ marksF ts) ++ marksP os
    rw [marksP_trees ts os, List.append_assoc]
theorem pile_len {H : Hp} {vs : List V} {os : List (Option Tree)} (h : PileAt H vs os) : vs.length ≤ (marksP os).length := by
  induction h with
  | nil => exact Nat.le_refl _
  | @tree v vs t os h1 h2 h3 ih =>
    obtain ⟨n, ts⟩ := t
    show vs.length + 1 ≤ ((n :: (marksF ts ++ [nilS])) ++ marksP os).length
    rw [List.length_append, List.length_cons]
    omega
  | @fin vs os h ih =>
    show vs.length + 1 ≤ (nilS :: marksP os).length
    rw [List.length_cons]
    omega
def sp_marks_of (K : PySem.W.Frag) : Sp := sp1 fun x H Q => ∃ (f : Addr) (vs : List V) (ts : List Tree), x = .ref f ∧ H f = some (.tup vs) ∧ TreesAt H vs ts ∧ okTs ts ∧ (marksF ts).length ≤ 1000 ∧
  ∀ (p : Addr) H', Same H H' → H' p = some (.lst ((marksF ts).map V.str)) → Q (.ref p) H'
theorem c_marks_of {K : PySem.W.Frag} {H : Hp} {f : Addr} {vs : List V} {ts : List Tree} {Q : VK} {E : XK} (hf : H f = some (.tup vs)) (ht : TreesAt H vs ts) (ok : okTs ts) (hl : (marksF ts).length ≤ 1000)
    (h : ∀ (p : Addr) H', Same H H' → H' p = some (.lst ((marksF ts).map V.str)) → Q (.ref p) H') : sp_marks_of K ([.ref f] ++ []) H Q E := ⟨_, rfl, f, vs, ts, rfl, hf, ht, ok, hl, h⟩
theorem q_nStr {K : PySem.W.Frag} {H : Hp} {v : V} {t : Tree} {Q : VK} (hv : TreeAt H v t) (ok : okT t) (h : Q (.bl false) H) : LV.rEqM K v (.str nilS) H Q := by
  refine ⟨toD t, .str nilS, dp_tree hv, .str _, clayT t ok, by decide +kernel, ?_, ?_⟩
  · have : (PyData.str nilS).depth ≤ 64 := by decide +kernel
    omega
  · obtain ⟨n, ts⟩ := t
    have e : PyData.eqv (toD (.mk n ts)) (.str nilS) = false := by rfl
    rw [e]
    exact h
theorem q_yStr {K : PySem.W.Frag} {H : Hp} {Q : VK} (h : Q (.bl true) H) : LV.rEqM K (.str nilS) (.str nilS) H Q := by
  refine ⟨.str nilS, .str nilS, .str _, .str _, by decide +kernel, by decide +kernel, by decide +kernel, ?_⟩
  have e : PyData.eqv (.str nilS) (.str nilS) = true := by decide +kernel
  rw [e]
  exact h
theorem q_nHole {K : PySem.W.Frag} {H : Hp} {v y : V} {t : Tree} {Q : VK} (hv : TreeAt H v t) (ok : okT t) (hy : Dp K H y LX.holeD) (h : Q (.bl false) H) : LV.rEqM K v y H Q := by
  refine ⟨toD t, LX.holeD, dp_tree hv, hy, clayT t ok, by decide +kernel, ?_, ?_⟩
  · have : LX.holeD.depth ≤ 64 := by decide +kernel
    omega
  · obtain ⟨n, ts⟩ := t
    have e : PyData.eqv (toD (.mk n ts)) LX.holeD = false := by
      show ((n == nilS) && (PyData.eqv (.tuple (toDs ts)) (.tuple []) && true)) = false
      rw [show (n == nilS) = false from beq_eq_false_iff_ne.mpr ok.1]
      rfl
    rw [e]
    exact h
theorem e_listRev {K : PySem.W.Frag} {te : TE} {σ : L2.St} {H : Hp} {Q : VK} (h : te σ H fun v H1 => ∃ (a : Addr) (xs : List V), v = .ref a ∧ SqT K H1 a xs ∧ ∀ q, H1 q = none → Q (.ref q) (upd H1 q (.lst xs.reverse))) : LV.tListRev K te σ H Q := h
theorem r_listRev {K : PySem.W.Frag} {H : Hp} {a : Addr} {xs : List V} {R : Addr → List V → Prop} (hs : SqT K H a xs) (h : ∀ q, H q = none → R q xs) : ∃ (b : Addr) (ys : List V), V.ref a = .ref b ∧ SqT K H b ys ∧ ∀ q, H q = none → R q ys := ⟨a, xs, rfl, hs, h⟩
theorem e_dat {K : PySem.W.Frag} {d : PyData} {σ : L2.St} {H : Hp} {Q : VK} (h : ∀ a, Dp K H (.ref a) d → Q (.ref a) H) : LX.tDat K d σ H Q := h
abbrev n_marks_of : List Str := ["form", "found", "todo", "tree"]
def t_marks_of (K : PySem.W.Frag) (w : World) : TS :=
  (tSeq (tAsg (tLst tNil) (gName 1))
    (tSeq (tAsg (LV.tListRev K (tVar 0)) (gName 2))
    (tSeq (tWhile (oTru K (tVar 2)) (tSeq (tAsg (tBM0 K "list" rPop (tVar 2)) (gName 3))
    (tIfS (tTest (tOp (LV.rEqM K) (tVar 3) (tC (.str "")))) (tDrop (tBM K "list" rAppend (tVar 1) (tCons (tC (.str "")) tNil))) (tIfS (tTest (tOp (LV.rEqM K) (tVar 3) (LX.tDat K LX.holeD))) (tDrop (tBM K "list" rAppend (tVar 1) (tCons (tC .non) tNil))) (tSeq (tDrop (tBM K "list" rAppend (tVar 1) (tCons (tOp (rIxT K) (tVar 3) (tC (.int 0))) tNil)))
    (tSeq (tDrop (tBM K "list" rAppend (tVar 2) (tCons (tC (.str "")) tNil)))
    (tDrop (tBM K "list" rExtend (tVar 2) (tCons (LV.tListRev K (tOp (rIxT K) (tVar 3) (tC (.int 1)))) tNil)))))))))
    (tRet (tVar 1)))))
theorem r_marks_of {K : PySem.W.Frag} {w : World} (vs : List V) (H : Hp) (Q : VK) (E : XK) (h : sp_marks_of K vs H Q E) : t_marks_of K w { nx := fun _ H' => Q .non H', rt := Q } (start n_marks_of vs) H := by
  obtain ⟨_, rfl, f, zs, ts, rfl, hf, ht, ok, hl, q⟩ := h
  unfold t_marks_of
  walk_at "T"
  rename_i p hp
  walk_at "T"
  refine e_listRev ?_
  walk_at "T"
  refine r_listRev (SqT.of (u_old hf hp)) fun d hd => ?_
  walk_at "T"
  have npd : p ≠ d := ne_none hd upd_same
  have hd0 : H d = none := none_of (L2.Same.new hp) hd
  have h0 : PileAt H zs (ts.map some) := by
    have := pile_trees ht ok (PileAt.nil (H := H))
    rw [List.append_nil, List.append_nil] at this
    exact this
  have m0 : marksP (ts.map some) = marksF ts := by
    have := marksP_trees ts []
    rw [List.append_nil] at this
    rw [this]
    exact List.append_nil _
  refine ⟨fun m σ H' => ∃ (y : Option V) (fs : List Str) (us : List V) (os : List (Option Tree)), σ = [some (.ref f), some (.ref p), some (.ref d), y] ∧ m = (marksP os).length ∧ Same H H' ∧ H' p = some (.lst (fs.map V.str)) ∧ H' d = some (.lst us.reverse) ∧ PileAt H us os ∧ fs ++ marksP os = marksF ts,
    ⟨_, none, [], zs, ts.map some, rfl, rfl, (L2.Same.new hp).upd hd, u_old upd_same hd, upd_same, h0, m0⟩, ?_⟩
  rintro m σ H' ⟨y, fs, us, os, rfl, rfl, s', ep, ed, hpile, hm⟩
  walk_at "T"
  refine t_truL (SqL.of ed) ?_
  have hflen : fs.length + (marksP os).length ≤ 1000 := by
    rw [← hm, List.length_append] at hl
    exact hl
  have hulen := pile_len hpile
  cases hpile with
  | nil =>
    show if false = true then _ else _
    walk_at "T"
    have e : fs = marksF ts := by
      rw [← hm]
      exact (List.append_nil _).symm
    rw [e] at ep
    exact q p H' s' ep
  | @fin us os hpile =>
    rw [List.reverse_cons] at ed ⊢
    rw [show (!(us.reverse ++ [V.str nilS]).isEmpty) = true by cases us.reverse <;> rfl]
    walk_at "T"
    refine ⟨fun σ' H2 => ∃ (y : Option V) (fs : List Str) (us : List V) (os' : List (Option Tree)), σ' = [some (.ref f), some (.ref p), some (.ref d), y] ∧ (marksP os').length < (marksP (none :: os)).length ∧ Same H H2 ∧ H2 p = some (.lst (fs.map V.str)) ∧ H2 d = some (.lst us.reverse) ∧ PileAt H us os' ∧ fs ++ marksP os' = marksF ts, ?_, ?_⟩
    · rintro σ' H2 ⟨y', fs', us', os', rfl, h1, r⟩
      exact ⟨_, h1, y', fs', us', os', rfl, rfl, r⟩
    walk_at "T"
    refine r_pop ed ?_
    walk_at "T"
    refine q_yStr ?_
    walk_at "T"
    refine r_app (u_oth npd ep) (by rw [List.length_map, sizeLine_eq]; omega) ?_
    walk_at "T"
    refine ⟨_, fs ++ [nilS], us, os, rfl, Nat.lt_succ_self _, (s'.mut hd0).mut hp, ?_, u_oth npd.symm upd_same, hpile, ?_⟩
    · rw [upd_same, List.map_append]
      rfl
    · rw [← hm, List.append_assoc]
      rfl
  | @tree v us t os hv hok hpile =>
    rw [List.reverse_cons] at ed ⊢
    rw [show (!(us.reverse ++ [v]).isEmpty) = true by cases us.reverse <;> rfl]
    walk_at "T"
    refine ⟨fun σ' H2 => ∃ (y : Option V) (fs : List Str) (us : List V) (os' : List (Option Tree)), σ' = [some (.ref f), some (.ref p), some (.ref d), y] ∧ (marksP os').length < (marksP (some t :: os)).length ∧ Same H H2 ∧ H2 p = some (.lst (fs.map V.str)) ∧ H2 d = some (.lst us.reverse) ∧ PileAt H us os' ∧ fs ++ marksP os' = marksF ts, ?_, ?_⟩
    · rintro σ' H2 ⟨y', fs', us', os', rfl, h1, r⟩
      exact ⟨_, h1, y', fs', us', os', rfl, rfl, r⟩
    walk_at "T"
    refine r_pop ed ?_
    walk_at "T"
    have hv2 := hv.same (s'.mut (o := .lst us.reverse) hd0)
    refine q_nStr hv2 hok ?_
    walk_at "T"
    refine e_dat fun z hz => ?_
    refine q_nHole hv2 hok hz ?_
    cases hv with
    | @mk a c n ws ts2 h1 h2 h3 =>
    have s1 : Same H (upd H' d (.lst us.reverse)) := s'.mut hd0
    have e1 : upd H' d (.lst us.reverse) d = some (.lst us.reverse) := upd_same
    have e2 : upd H' d (.lst us.reverse) p = some (.lst (fs.map V.str)) := u_oth npd ep
    have hml : fs.length + (1 + (marksF ts2).length + 1 + (marksP os).length) ≤ 1000 := by
      have : (marksP (some (.mk n ts2) :: os)).length = 1 + (marksF ts2).length + 1 + (marksP os).length := by
        show ((n :: (marksF ts2 ++ [nilS])) ++ marksP os).length = _
        rw [List.length_append, List.length_cons, List.length_append, List.length_singleton]
        omega
      omega
    have hpile2 := pile_trees h3 hok.2.2 (PileAt.fin hpile)
    have hpl := pile_len hpile2
    rw [marksP_trees] at hpl
    have hm2 : fs ++ [n] ++ marksP (ts2.map some ++ none :: os) = marksF ts := by
      rw [← hm, marksP_trees]
      show fs ++ [n] ++ (marksF ts2 ++ nilS :: marksP os) = fs ++ ((n :: (marksF ts2 ++ [nilS])) ++ marksP os)
      simp
    have hlt : (marksP (ts2.map some ++ none :: os)).length < (marksP (some (.mk n ts2) :: os)).length := by
      rw [marksP_trees]
      show (marksF ts2 ++ nilS :: marksP os).length < ((n :: (marksF ts2 ++ [nilS])) ++ marksP os).length
      simp
    have hul : ws.length + us.length + 1 ≤ 1000 := by
      rw [List.length_append, List.length_append, List.length_cons] at hpl
      have : (marksP (none :: os)).length = (marksP os).length + 1 := rfl
      omega
    generalize upd H' d (.lst us.reverse) = H3 at s1 e1 e2
    walk_at "T"
    refine r_app e2 (by rw [List.length_map, sizeLine_eq]; omega) ?_
    walk_at "T"
    refine r_app (u_oth npd.symm e1) (by rw [List.length_reverse, sizeLine_eq]; omega) ?_
    walk_at "T"
    have s2 : Same H (upd (upd H3 p (.lst (fs.map V.str ++ [V.str n]))) d (.lst (us.reverse ++ [V.str nilS]))) := (s1.mut hp).mut hd0
    have e3 : upd (upd H3 p (.lst (fs.map V.str ++ [V.str n]))) d (.lst (us.reverse ++ [V.str nilS])) d = some (.lst (us.reverse ++ [V.str nilS])) := upd_same
    have e4 : upd (upd H3 p (.lst (fs.map V.str ++ [V.str n]))) d (.lst (us.reverse ++ [V.str nilS])) p = some (.lst ((fs ++ [n]).map V.str)) := u_oth npd (by rw [upd_same, List.map_append]; rfl)
    show LV.tListRev K _ _ (upd (upd H3 p (.lst (fs.map V.str ++ [V.str n]))) d (.lst (us.reverse ++ [V.str nilS]))) _
    generalize upd (upd H3 p (.lst (fs.map V.str ++ [V.str n]))) d (.lst (us.reverse ++ [V.str nilS])) = H4 at s2 e3 e4
    refine e_listRev ?_
    walk_at "T"
    refine r_listRev (SqT.of (s2 _ _ h2)) fun z2 hz2 => ?_
    walk_at "T"
    refine r_ext (u_old e3 hz2) upd_same (by rw [List.length_append, List.length_reverse, List.length_reverse, List.length_singleton]; omega) ?_
    walk_at "T"
    refine ⟨_, fs ++ [n], ws ++ V.str nilS :: us, ts2.map some ++ none :: os, rfl, hlt, (s2.upd hz2).mut hd0, u_oth npd (u_old e4 hz2), ?_, hpile2, hm2⟩
    rw [upd_same, List.reverse_append, List.reverse_cons]
end K15

end
section
set_option Elab.async false
set_option linter.all false
set_option maxRecDepth 100000
set_option maxHeartbeats 1000000
/-! LY: tuple(list) as a tuple whose object is known; a method of such a tuple. -/
namespace LY
open PySem PySem.Spec PyProof.Rows L2
def kTupF (K : PySem.W.Frag) (x : V) (H : Hp) (Q : VK) : Prop := ∃ p xs, x = .ref p ∧ SqL K H p xs ∧ ∀ (q : Addr) (o : Obj), H q = none → o.dict = none → Q (.ref q) (upd H q (.frz o (.tup xs)))
section
variable {X : Cx}
theorem rl_tupF (pins : List (Addr × Obj)) (s : Shared) (σ : L2.St) (H : Hp) (x : V) (v : Value) (Q : VK) (I : Inv X pins σ H s) (r : RelV x v) (h : kTupF X.K x H Q) :
    wpAny (model X.prog X.w) X.A (call (.type "tuple") [v]) (EP X pins σ Q) X.xe s := by
  obtain ⟨p, xs, rfl, hs, q⟩ := h
  obtain rfl : v = .ref p := r
  obtain ⟨its, rv, pl, hz⟩ := I.list hs
  refine call_tuple_list pl.isList (fun h' hk => ?_) (by rw [List.size_toArray, ← rv.length]; exact hz)
  have I1 : Inv X pins σ H { s with heap := h' } := I.kept (t' := s.toks) hk
  have I2 : Inv X pins σ (upd H h'.objs.size (.frz { cls := .type "tuple", data := .seq its.toArray } (.tup xs))) { s with heap := h'.push { cls := .type "tuple", data := .seq its.toArray } } :=
    I1.laid (t' := s.toks) (fun b o e => Heap.get?_push_of_some _ e) (Nat.le_refl _) (show ObjOk X.prog X.w _ _ _ (.frz _ (.tup xs)) from ⟨Heap.get?_push_size _ rfl, hz, its, rv, IsTup.new _ _⟩)
  exact ⟨.ref h'.objs.size, _, I2, rfl, q _ _ (I1.hok.fresh (Nat.le_refl _)) rfl⟩
theorem pe_tupleF {a : Expr} {ta : TE} {p pos : Pos} (hg : Gl X "tuple") (hm : X.mg "tuple" = none) (ha : PE X a ta) (na : starEach [a] X.env = (false, eval a X.env) :: starEach [] X.env := by rfl) :
    PE X (.Call (.Name "tuple" p) [a] [] pos) (tThen ta (kTupF X.K)) := by
  refine ⟨fun pins s σ H Q I h => ?_⟩
  exact Call_ (ld_blt I hg hm boot_tuple (PyProof.Rows.callWith_type1 (one_arg ha I h (fun v s2 x H2 I2 r q => rl_tupF pins s2 σ H2 x v Q I2 r q) na) na))
def tBMF (K : PySem.W.Frag) (r : V → List V → Hp → VK → Prop) (to : TE) (t : TA) : TE := fun σ H Q => to σ H fun x H1 => (∃ (p : Addr) (o : Obj) (xs : List V), x = .ref p ∧ H1 p = some (.frz o (.tup xs)) ∧ o.dict = none) ∧ t σ H1 fun xs H2 => r x xs H2 Q
theorem pe_bmF {o e : Expr} {es : List Expr} {to : TE} {t : TA} {name : Str} {apos cpos : Pos} {id : String} {r : V → List V → Hp → VK → Prop}
    (pa : PlainAttrs "tuple") (slot : Slot "tuple" name id) (hty : typeOf (.builtin id) = pure (.type "method_descriptor")) (hm : MtR X id r) (ho : PE X o to) (ha : PA X (e :: es) t)
    (hbase : attributeBase o name X.env (eval o X.env) = eval o X.env := by rfl)
    (hfew : ((backTo cpos (starEach (e :: es) X.env)).all (fun x => !x.1) && (backToKw cpos (keywordEach [] X.env)).all (fun x => x.1.isSome)
      && decide ((e :: es).length + ([] : List Keyword).length + (if ([] : List Keyword).isEmpty then 0 else 1) < 30)) = true := by rfl)
    (hline : (apos.endLine == cpos.line) = true := by rfl) (hs : starEach (e :: es) X.env = (false, eval e X.env) :: starEach es X.env := by rfl) (hplain : (backTo cpos (starEach es X.env)).any (·.1) = false := by rfl) :
    PE X (.Call (.Attribute o name apos) (e :: es) [] cpos) (tBMF X.K r to t) := by
  refine ⟨fun pins s σ H Q I h => ?_⟩
  refine wpAny_Call_method_late hbase hfew hline rfl (thn (ho.run pins s σ H _ I h) fun v s1 ⟨x, H1, I1, r1, ty, q1⟩ => ?_)
  obtain ⟨p, ob, xs, rfl, hk, hd⟩ := ty
  obtain rfl : v = .ref p := r1
  obtain ⟨h1, _, its, _, o2, h2, h3, _⟩ := I1.hok p _ hk
  refine ⟨"tuple", id, pa, slot, hty, ⟨o2, h2, h3⟩, fun a e => ?_, ?_⟩
  · cases e
    exact ⟨ob, h1, hd⟩
  have hA := ha.run cpos pins s1 σ H1 _ I1 q1
  rw [hs] at hA ⊢
  refine Calls.callWith_builtin (by show (false || (backTo cpos (starEach es X.env)).any (·.1)) = false; rw [hplain] <;> rfl) (Calls.evalArgs_plain ?_)
  exact thn hA fun us s2 ⟨vs, H2, I2, r2, q2⟩ => hm pins s2 σ H2 (V.ref p) vs (Value.ref p) us Q I2 rfl r2 q2
end
/-! ### readings -/
theorem e_bmF {K : PySem.W.Frag} {r : V → List V → Hp → VK → Prop} {to : TE} {t : TA} {σ : L2.St} {H : Hp} {Q : VK} (h : to σ H fun x H1 => (∃ (p : Addr) (o : Obj) (xs : List V), x = .ref p ∧ H1 p = some (.frz o (.tup xs)) ∧ o.dict = none) ∧ t σ H1 fun xs H2 => r x xs H2 Q) : tBMF K r to t σ H Q := h
theorem r_tyF {H : Hp} {p : Addr} {o : Obj} {xs : List V} {R : Prop} (h : H p = some (.frz o (.tup xs))) (hd : o.dict = none) (k : R) : (∃ (p' : Addr) (o : Obj) (xs : List V), V.ref p = .ref p' ∧ H p' = some (.frz o (.tup xs)) ∧ o.dict = none) ∧ R := ⟨⟨p, o, xs, rfl, h, hd⟩, k⟩
theorem r_tupF {K : PySem.W.Frag} {H : Hp} {p : Addr} {xs : List V} {Q : VK} (hs : SqL K H p xs) (h : ∀ (q : Addr) (o : Obj), H q = none → o.dict = none → Q (.ref q) (upd H q (.frz o (.tup xs)))) : kTupF K (.ref p) H Q := ⟨p, xs, rfl, hs, h⟩
theorem g_lst {K : PySem.W.Frag} {a : Addr} {xs : List V} {n : Nat} {u : TGs} {σ : L2.St} {H : Hp} {R : L2.St → Hp → Prop} (hs : SqL K H a xs) (hl : xs.length = n) (h : u xs σ H R) : gLst K n u (.ref a) σ H R := ⟨a, xs, rfl, hs, hl, h⟩
end LY

end
section
set_option Elab.async false
set_option linter.all false
set_option maxRecDepth 100000
set_option maxHeartbeats 4000000
namespace K15
open PySem hiding Tree
open PySem.Spec PyProof.Rows L2 LW LM LV
/-! ### steps of a reading, heaps: short tactics -/
local macro_rules | `(tactic| walk_at "ne") => `(tactic| first
  | assumption
  | (apply Ne.symm; assumption)
  | exact ne_none (by assumption) (by assumption)
  | exact (ne_none (by assumption) (by assumption)).symm
  | exact ne_of (by assumption) (by assumption) (by intro z; cases z))
local macro_rules | `(tactic| walk_at "hp") => `(tactic| first
  | assumption
  | with_reducible exact upd_same
  | ((first
      | with_reducible refine u_old ?_ (by assumption)
      | with_reducible refine u_oth (by walk_at "ne") ?_
      | with_reducible refine same_app (by assumption) ?_
      | with_reducible refine kb_app (by assumption) (by walk_at "ne") ?_); walk_at "hp")
  | ((with_reducible refine u_kind ?h (by assumption) ?d); (case h => walk_at "hp"); (case d => (intro z; cases z))))
local macro_rules | `(tactic| walk_at "sq") => `(tactic| first
  | assumption
  | exact SqL.of (by walk_at "hp")
  | exact SqT.of (by walk_at "hp")
  | (with_reducible refine same_sqT (by assumption) ?_; walk_at "sq")
  | (with_reducible refine same_sqL (by assumption) ?_; walk_at "sq")
  | (with_reducible refine new_sqT (by assumption) ?_; walk_at "sq")
  | (with_reducible refine new_sqL (by assumption) ?_; walk_at "sq")
  | ((with_reducible refine mut_sqT (u := ?uu) ?hd ?hm ?_); (case hd => walk_at "hp"); (case hm => exact trivial); walk_at "sq"))
local macro_rules | `(tactic| walk_at "rd") => `(tactic| first
  | assumption
  | exact .inl (by walk_at "hp")
  | exact .inr ⟨_, by walk_at "hp"⟩)
local macro_rules | `(tactic| walk_at "s") => `(tactic| first
  | with_reducible refine s_seq ?_
  | with_reducible refine s_asg ?_
  | with_reducible refine g_name ?_
  | ((with_reducible refine e_var (v := ?vv) ?hv ?_); (case hv => rfl))
  | with_reducible refine e_c ?_
  | with_reducible refine e_op ?_
  | with_reducible refine a_cons ?_
  | with_reducible refine a_nil ?_
  | with_reducible refine e_cb ?_
  | with_reducible refine e_call ?_
  | with_reducible refine e_callK ?_
  | with_reducible refine s_ret ?_
  | with_reducible refine s_retN ?_
  | with_reducible refine s_drop ?_
  | with_reducible refine s_ifs ?_
  | with_reducible refine s_next ?_
  | with_reducible refine s_cont ?_
  | with_reducible refine s_brk ?_
  | with_reducible refine s_par ?_
  | with_reducible refine s_par3 ?_
  | with_reducible refine e_un ?_
  | with_reducible refine e_if ?_
  | with_reducible refine e_andV ?_
  | with_reducible refine e_orV ?_
  | with_reducible refine e_notV ?_
  | with_reducible refine e_dget ?_
  | with_reducible refine e_dget2 ?_
  | with_reducible refine e_din ?_
  | with_reducible refine e_dnotin ?_
  | with_reducible refine e_then ?_
  | with_reducible refine e_bm ?_
  | with_reducible refine e_bm0 ?_
  | with_reducible refine e_sl ?_
  | with_reducible refine o_none ?_
  | with_reducible refine o_part ?_
  | with_reducible refine g_sub ?_
  | with_reducible refine g_nil ?_
  | with_reducible refine g_cons ?_
  | with_reducible refine t_test ?_
  | with_reducible refine t_B ?_
  | with_reducible refine t_and ?_
  | with_reducible refine t_or ?_
  | with_reducible refine t_not ?_
  | ((with_reducible refine r_ixI (ns := ?ns) ?hs ?h0 ?h1 ?_); (case hs => walk_at "sq"); (case h0 => omega); (case h1 => omega))
  | ((with_reducible refine r_ixL (xs := ?xs) (v := ?vv) ?hs ?hi ?_); (case hs => walk_at "sq"); (case hi => rfl))
  | ((with_reducible refine r_ixT (xs := ?xs) (v := ?vv) ?hs ?hi ?_); (case hs => walk_at "sq"); (case hi => rfl))
  | ((with_reducible refine g_setL (xs := ?xs) (j := ?jj) ?hp ?hj ?_); (case hp => walk_at "hp"); (case hj => rfl))
  | ((with_reducible refine r_mul ?hc ?_); (case hc => first | exact .inr (by decide) | exact .inl (by decide) | exact .inl ⟨by omega, by omega⟩ | exact .inr ⟨by omega, by omega⟩))
  | ((with_reducible refine r_mod ?hc ?_); (case hc => first | decide | omega))
  | ((with_reducible refine r_fdivN ?hc ?_); (case hc => exact ⟨by first | decide | omega, by first | decide | omega⟩))
  | ((with_reducible refine r_pow ?hc ?_); (case hc => first | decide | exact ⟨by decide, by decide⟩ | (unfold CPow; decide)))
  | ((with_reducible refine r_lenI (ns := ?ns) ?hs ?_); (case hs => walk_at "sq"))
  | ((with_reducible refine r_lenTI (ns := ?ns) ?hs ?_); (case hs => walk_at "sq"))
  | ((with_reducible refine r_lenL (xs := ?xs) ?hs ?_); (case hs => walk_at "sq"))
  | ((with_reducible refine r_lenT (xs := ?xs) ?hs ?_); (case hs => walk_at "sq"))
  | ((with_reducible refine r_tyL (xs := ?xs) ?hs ?_); (case hs => walk_at "sq"))
  | with_reducible refine r_add ?_
  | with_reducible refine r_sub ?_
  | with_reducible refine r_lt ?_
  | with_reducible refine r_le ?_
  | with_reducible refine r_gt ?_
  | with_reducible refine r_ge ?_
  | with_reducible refine r_eqI ?_
  | with_reducible refine r_neI ?_
  | with_reducible refine r_int ?_
  | with_reducible refine r_intb ?_
  | with_reducible refine r_neg ?_
  | with_reducible refine r_max2 ?_
  | with_reducible refine r_min2 ?_
  | with_reducible refine c_sp1 ?_
  | with_reducible refine c_sp2 ?_
  | with_reducible refine c_sp3 ?_
  | with_reducible refine c_sp4 ?_
  | with_reducible refine c_sp5 ?_
  | with_reducible refine t_end ?_
  | with_reducible refine o_part_end ?_
  | ((with_reducible refine s_aug (x := ?xx) ?hx ?_); (case hx => rfl))
  | with_reducible refine s_for ?_
  | with_reducible refine i_list ?_
  | with_reducible refine i_tup ?_
  | with_reducible refine i_rng1 ?_
  | with_reducible refine i_rng2 ?_
  | with_reducible refine i_keys ?_
  | with_reducible refine i_items ?_
  | with_reducible refine i_zip2 ?_
  | with_reducible refine i_enum2 ?_
  | ((with_reducible refine i_rng1E ?h1 ?h2 ?_); (case h1 => omega); (case h2 => omega))
  | ((with_reducible refine i_rng2E ?h1 ?_); (case h1 => omega))
  | ((with_reducible refine i_listE (xs := ?xs) ?hs ?_); (case hs => walk_at "sq"))
  | ((with_reducible refine i_tupE (xs := ?xs) ?hs ?_); (case hs => walk_at "sq"))
  | ((with_reducible refine q_isD ?hi ?_); (case hi => first | exact isD_K (by walk_at "rd") | exact isD_T (by walk_at "rd")))
  | with_reducible refine q_ref ?_
  | with_reducible refine e_dnewK ?_
  | with_reducible refine e_dnewT ?_
  | with_reducible refine e_tup ?_
  | with_reducible refine e_lst ?_
  | ((with_reducible refine r_new ?hn ?_); (case hn => exact Nat.le_of_ble_eq_true rfl))
  | with_reducible refine r_fresh fun _ _ => ?_
  | with_reducible refine s_par_end ?_
  | with_reducible refine s_par3_end ?_
  | with_reducible refine e_lc ?_
  | with_reducible refine e_dc ?_
  | with_reducible refine e_dcT ?_
  | with_reducible refine t_tyes ?_
  | with_reducible refine t_tt ?_
  | with_reducible refine t_ff ?_
  | with_reducible refine c_wipe rfl ?_)
local macro_rules | `(tactic| walk_at "S") => `(tactic| repeat' first | walk_at "s" | with_reducible refine s_dput ?_)
local macro_rules | `(tactic| walk_at "T") => `(tactic| repeat' walk_at "s")

/-! ### number_row -/
theorem t_truS {K : PySem.W.Frag} {H : Hp} {x : Str} {R : Bool → Prop} (hl : x.length ≤ 1000) (h : R (decide (x ≠ nilS))) : ∃ k, TruV K (.str x) H k ∧ R k := by
  refine ⟨_, ⟨by rw [sizeLine_eq]; omega, rfl⟩, ?_⟩
  have e : (((x.length : Int) != 0) : Bool) = decide (x ≠ nilS) := by
    by_cases z : x = nilS
    · subst z
      rfl
    · rw [decide_eq_true z]
      refine bne_iff_ne.mpr fun q => z ?_
      have : x.cps.size = 0 := by
        have : (x.length : Int) = (x.cps.size : Nat) := rfl
        omega
      obtain ⟨c⟩ := x
      exact congrArg Str.mk (Array.eq_empty_of_size_eq_zero this)
  rw [e]
  exact h
theorem map_str_get {ss : List Str} {i : Nat} {v : V} (h : (ss.map V.str)[i]? = some v) : ∃ x, ss[i]? = some x ∧ v = .str x := by
  rw [List.getElem?_map] at h
  cases e : ss[i]? with
  | none => rw [e] at h; cases h
  | some b => rw [e] at h; exact ⟨b, rfl, (Option.some.inj h).symm⟩
theorem idx_first {ss : List Str} {z : Str} (h : z ∈ ss) : ss[ss.idxOf z]? = some z ∧ ∀ m, m < ss.idxOf z → ss[m]? ≠ some z := by
  have hi := List.idxOf_lt_length_of_mem h
  refine ⟨?_, fun m hm e => ?_⟩
  · rw [List.getElem?_eq_getElem hi, List.getElem_idxOf hi]
  · have h2 := List.not_of_lt_findIdx (p := (· == z)) (xs := ss) (i := m) hm
    rw [(List.getElem?_eq_some_iff.mp e).2] at h2
    simp at h2
theorem q_tindex {K : PySem.W.Frag} {H : Hp} {a : Addr} {ns : List Str} {z : Str} {j : Nat} {Q : VK} (ha : SqT K H a (ns.map V.str)) (h1 : ns[j]? = some z) (h2 : ∀ m, m < j → ns[m]? ≠ some z) (h : Q (.int (j : Nat)) H) : LX.rTIndex K (.ref a) [.str z] H Q := ⟨a, ns, z, j, rfl, rfl, ha, h1, h2, h⟩
def sp_number_row (K : PySem.W.Frag) : Sp := sp2 fun x y H Q => ∃ (f a : Addr) (vs : List V) (ts : List Tree) (ns : List Str) (ob : Obj), x = .ref f ∧ y = .ref a ∧ H f = some (.tup vs) ∧ TreesAt H vs ts ∧ okTs ts ∧ (marksF ts).length ≤ 1000 ∧ H a = some (.frz ob (.tup (ns.map V.str))) ∧ ob.dict = none ∧ (∀ m ∈ marksF ts, m.length ≤ 1000 ∧ (m ≠ nilS → m ∈ ns)) ∧
  ∀ (p : Addr) H', Same H H' → H' p = some (.tup (((marksF ts).map (numM ns)).map V.int)) → Q (.ref p) H'
theorem c_number_row {K : PySem.W.Frag} {H : Hp} {f a : Addr} {vs : List V} {ts : List Tree} {ns : List Str} {ob : Obj} {Q : VK} {E : XK} (hf : H f = some (.tup vs)) (ht : TreesAt H vs ts) (ok : okTs ts) (hl : (marksF ts).length ≤ 1000) (ha : H a = some (.frz ob (.tup (ns.map V.str)))) (hd : ob.dict = none) (hm : ∀ m ∈ marksF ts, m.length ≤ 1000 ∧ (m ≠ nilS → m ∈ ns))
    (h : ∀ (p : Addr) H', Same H H' → H' p = some (.tup (((marksF ts).map (numM ns)).map V.int)) → Q (.ref p) H') : sp_number_row K ([.ref f, .ref a] ++ []) H Q E := ⟨_, _, rfl, f, a, vs, ts, ns, ob, rfl, rfl, hf, ht, ok, hl, ha, hd, hm, h⟩
abbrev n_number_row : List Str := ["form", "names", "mark"]
def t_number_row (K : PySem.W.Frag) (w : World) : TS :=
  (tRet (tThen (tLc (iList K (tCall (sp_marks_of K) [] E0 (tCons (tVar 0) tNil))) (gName 2) tYes (tIf (oTru K (tVar 2)) (tOp oAdd (tC (.int 1)) (LY.tBMF K (LX.rTIndex K) (tVar 1) (tCons (tVar 2) tNil))) (tC (.int 0))) [2]) (kTup K)))
theorem r_number_row {K : PySem.W.Frag} {w : World} (vs : List V) (H : Hp) (Q : VK) (E : XK) (h : sp_number_row K vs H Q E) : t_number_row K w { nx := fun _ H' => Q .non H', rt := Q } (start n_number_row vs) H := by
  obtain ⟨_, _, rfl, f, a, zs, ts, ns, ob, rfl, rfl, hf, ht, ok, hl, ha, hd, hm, q⟩ := h
  unfold t_number_row
  walk_at "T"
  refine c_marks_of hf ht ok hl fun p H1 s1 e1 => ?_
  generalize marksF ts = ms at hl hm q e1
  walk_at "T"
  rename_i l hl0
  refine lcp_w (w_list (xs := ms.map V.str)) (fun _ => true) (fun i => V.int (numM ns (ms.getD i nilS))) (by rw [List.length_map]; omega) hl0 (fun H6 s6 => by walk_at "sq") ?_ ?_ ?_
  · rintro i H6 x _ ⟨rfl, _⟩
    exact Same.refl _
  · rintro i _ x H6 Rt Rf hi s6 ⟨rfl, hx⟩ kt kf
    obtain ⟨m, em, rfl⟩ := map_str_get hx
    rw [getD_get em] at kt
    have hmm := hm m (mem_of_get em)
    walk_at "T"
    refine t_truS hmm.1 ?_
    refine t_iteD (fun e => ?_) (fun e => ?_)
    · have hin := hmm.2 e
      obtain ⟨i1, i2⟩ := idx_first hin
      have ea := s6 _ _ (s1 _ _ ha)
      walk_at "T"
      refine LY.e_bmF ?_
      walk_at "T"
      refine LY.r_tyF ea hd ?_
      walk_at "T"
      refine q_tindex (.inl (.inr ⟨_, ea⟩)) i1 i2 ?_
      walk_at "T"
      have e2 : numM ns m = 1 + (ns.idxOf m : Nat) := if_neg e
      rw [e2] at kt
      exact kt _ (Same.refl _) rfl
    · have e2 : numM ns m = 0 := if_pos (Classical.not_not.mp e)
      rw [e2] at kt
      walk_at "T"
      exact kt _ (Same.refl _) rfl
  · rintro H6 s6 h6
    have eg := given_filter ms (fun _ => true) (fun x => V.int (numM ns x)) (fun _ => true) (fun i => V.int (numM ns (ms.getD i nilS))) fun i x ex => by
      rw [getD_get ex]
      exact ⟨rfl, fun _ => rfl⟩
    rw [List.length_map, eg, List.filter_eq_self.mpr (fun _ _ => rfl)] at h6
    have e7 : ms.map (fun x => V.int (numM ns x)) = (ms.map (numM ns)).map V.int := by
      rw [List.map_map]
      rfl
    rw [e7] at h6
    walk_at "T"
    refine r_tupLI (ns := ms.map (numM ns)) (SqL.of h6) fun t1 ht1 => ?_
    walk_at "T"
    exact q t1 _ ((s1.trans s6).upd ht1) upd_same
end K15

end
section
set_option Elab.async false
set_option linter.all false
set_option maxRecDepth 100000
set_option maxHeartbeats 4000000
namespace K15
open PySem PySem.Spec PyProof.Rows L2 LW LM
/-! ### steps of a reading, heaps: short tactics -/
local macro_rules | `(tactic| walk_at "ne") => `(tactic| first
  | assumption
  | (apply Ne.symm; assumption)
  | exact ne_none (by assumption) (by assumption)
  | exact (ne_none (by assumption) (by assumption)).symm
  | exact ne_of (by assumption) (by assumption) (by intro z; cases z))
local macro_rules | `(tactic| walk_at "hp") => `(tactic| first
  | assumption
  | with_reducible exact upd_same
  | ((first
      | with_reducible refine u_old ?_ (by assumption)
      | with_reducible refine u_oth (by walk_at "ne") ?_
      | with_reducible refine same_app (by assumption) ?_
      | with_reducible refine kb_app (by assumption) (by walk_at "ne") ?_); walk_at "hp")
  | ((with_reducible refine u_kind ?h (by assumption) ?d); (case h => walk_at "hp"); (case d => (intro z; cases z))))
local macro_rules | `(tactic| walk_at "sq") => `(tactic| first
  | assumption
  | exact SqL.of (by walk_at "hp")
  | exact SqT.of (by walk_at "hp")
  | (with_reducible refine same_sqT (by assumption) ?_; walk_at "sq")
  | (with_reducible refine same_sqL (by assumption) ?_; walk_at "sq")
  | (with_reducible refine new_sqT (by assumption) ?_; walk_at "sq")
  | (with_reducible refine new_sqL (by assumption) ?_; walk_at "sq")
  | ((with_reducible refine mut_sqT (u := ?uu) ?hd ?hm ?_); (case hd => walk_at "hp"); (case hm => exact trivial); walk_at "sq"))
local macro_rules | `(tactic| walk_at "rd") => `(tactic| first
  | assumption
  | exact .inl (by walk_at "hp")
  | exact .inr ⟨_, by walk_at "hp"⟩)
local macro_rules | `(tactic| walk_at "s") => `(tactic| first
  | with_reducible refine s_seq ?_
  | with_reducible refine s_asg ?_
  | with_reducible refine g_name ?_
  | ((with_reducible refine e_var (v := ?vv) ?hv ?_); (case hv => rfl))
  | with_reducible refine e_c ?_
  | with_reducible refine e_op ?_
  | with_reducible refine a_cons ?_
  | with_reducible refine a_nil ?_
  | with_reducible refine e_cb ?_
  | with_reducible refine e_call ?_
  | with_reducible refine e_callK ?_
  | with_reducible refine s_ret ?_
  | with_reducible refine s_retN ?_
  | with_reducible refine s_drop ?_
  | with_reducible refine s_ifs ?_
  | with_reducible refine s_next ?_
  | with_reducible refine s_cont ?_
  | with_reducible refine s_brk ?_
  | with_reducible refine s_par ?_
  | with_reducible refine s_par3 ?_
  | with_reducible refine e_un ?_
  | with_reducible refine e_if ?_
  | with_reducible refine e_andV ?_
  | with_reducible refine e_orV ?_
  | with_reducible refine e_notV ?_
  | with_reducible refine e_dget ?_
  | with_reducible refine e_dget2 ?_
  | with_reducible refine e_din ?_
  | with_reducible refine e_dnotin ?_
  | with_reducible refine e_then ?_
  | with_reducible refine e_bm ?_
  | with_reducible refine e_bm0 ?_
  | with_reducible refine e_sl ?_
  | with_reducible refine o_none ?_
  | with_reducible refine o_part ?_
  | with_reducible refine g_sub ?_
  | with_reducible refine g_nil ?_
  | with_reducible refine g_cons ?_
  | with_reducible refine t_test ?_
  | with_reducible refine t_B ?_
  | with_reducible refine t_and ?_
  | with_reducible refine t_or ?_
  | with_reducible refine t_not ?_
  | ((with_reducible refine r_ixI (ns := ?ns) ?hs ?h0 ?h1 ?_); (case hs => walk_at "sq"); (case h0 => omega); (case h1 => omega))
  | ((with_reducible refine r_ixL (xs := ?xs) (v := ?vv) ?hs ?hi ?_); (case hs => walk_at "sq"); (case hi => rfl))
  | ((with_reducible refine r_ixT (xs := ?xs) (v := ?vv) ?hs ?hi ?_); (case hs => walk_at "sq"); (case hi => rfl))
  | ((with_reducible refine g_setL (xs := ?xs) (j := ?jj) ?hp ?hj ?_); (case hp => walk_at "hp"); (case hj => rfl))
  | ((with_reducible refine r_mul ?hc ?_); (case hc => first | exact .inr (by decide) | exact .inl (by decide) | exact .inl ⟨by omega, by omega⟩ | exact .inr ⟨by omega, by omega⟩))
  | ((with_reducible refine r_mod ?hc ?_); (case hc => first | decide | omega))
  | ((with_reducible refine r_fdivN ?hc ?_); (case hc => exact ⟨by first | decide | omega, by first | decide | omega⟩))
  | ((with_reducible refine r_pow ?hc ?_); (case hc => first | decide | exact ⟨by decide, by decide⟩ | (unfold CPow; decide)))
  | ((with_reducible refine r_lenI (ns := ?ns) ?hs ?_); (case hs => walk_at "sq"))
  | ((with_reducible refine r_lenTI (ns := ?ns) ?hs ?_); (case hs => walk_at "sq"))
  | ((with_reducible refine r_lenL (xs := ?xs) ?hs ?_); (case hs => walk_at "sq"))
  | ((with_reducible refine r_lenT (xs := ?xs) ?hs ?_); (case hs => walk_at "sq"))
  | ((with_reducible refine r_tyL (xs := ?xs) ?hs ?_); (case hs => walk_at "sq"))
  | with_reducible refine r_add ?_
  | with_reducible refine r_sub ?_
  | with_reducible refine r_lt ?_
  | with_reducible refine r_le ?_
  | with_reducible refine r_gt ?_
  | with_reducible refine r_ge ?_
  | with_reducible refine r_eqI ?_
  | with_reducible refine r_neI ?_
  | with_reducible refine r_int ?_
  | with_reducible refine r_intb ?_
  | with_reducible refine r_neg ?_
  | with_reducible refine r_max2 ?_
  | with_reducible refine r_min2 ?_
  | with_reducible refine c_sp1 ?_
  | with_reducible refine c_sp2 ?_
  | with_reducible refine c_sp3 ?_
  | with_reducible refine c_sp4 ?_
  | with_reducible refine c_sp5 ?_
  | with_reducible refine t_end ?_
  | with_reducible refine o_part_end ?_
  | ((with_reducible refine s_aug (x := ?xx) ?hx ?_); (case hx => rfl))
  | with_reducible refine s_for ?_
  | with_reducible refine i_list ?_
  | with_reducible refine i_tup ?_
  | with_reducible refine i_rng1 ?_
  | with_reducible refine i_rng2 ?_
  | with_reducible refine i_keys ?_
  | with_reducible refine i_items ?_
  | with_reducible refine i_zip2 ?_
  | with_reducible refine i_enum2 ?_
  | ((with_reducible refine i_rng1E ?h1 ?h2 ?_); (case h1 => omega); (case h2 => omega))
  | ((with_reducible refine i_rng2E ?h1 ?_); (case h1 => omega))
  | ((with_reducible refine i_listE (xs := ?xs) ?hs ?_); (case hs => walk_at "sq"))
  | ((with_reducible refine i_tupE (xs := ?xs) ?hs ?_); (case hs => walk_at "sq"))
  | ((with_reducible refine q_isD ?hi ?_); (case hi => first | exact isD_K (by walk_at "rd") | exact isD_T (by walk_at "rd")))
  | with_reducible refine q_ref ?_
  | with_reducible refine e_dnewK ?_
  | with_reducible refine e_dnewT ?_
  | with_reducible refine e_tup ?_
  | with_reducible refine e_lst ?_
  | ((with_reducible refine r_new ?hn ?_); (case hn => exact Nat.le_of_ble_eq_true rfl))
  | with_reducible refine r_fresh fun _ _ => ?_
  | with_reducible refine s_par_end ?_
  | with_reducible refine s_par3_end ?_
  | with_reducible refine e_lc ?_
  | with_reducible refine e_dc ?_
  | with_reducible refine e_dcT ?_
  | with_reducible refine t_tyes ?_
  | with_reducible refine t_tt ?_
  | with_reducible refine t_ff ?_
  | with_reducible refine c_wipe rfl ?_)
local macro_rules | `(tactic| walk_at "S") => `(tactic| repeat' first | walk_at "s" | with_reducible refine s_dput ?_)
local macro_rules | `(tactic| walk_at "T") => `(tactic| repeat' walk_at "s")

/-- the same data at two places, tuples at most n deep -/
def LikeAt (H : Hp) : Nat → V → V → Prop
  | 0, x, y => (∃ i : Int, x = .int i ∧ y = .int i) ∨ (∃ s : Str, x = .str s ∧ y = .str s) ∨ (x = .non ∧ y = .non)
  | n + 1, x, y => (∃ i : Int, x = .int i ∧ y = .int i) ∨ (∃ s : Str, x = .str s ∧ y = .str s) ∨ (x = .non ∧ y = .non) ∨
    ∃ (a b : Addr) (xs ys : List V), x = .ref a ∧ y = .ref b ∧ Rd H a (.tup xs) ∧ Rd H b (.tup ys) ∧ xs.length = ys.length ∧ xs.length ≤ 100000 ∧ ∀ (i : Nat) (u v : V), xs[i]? = some u → ys[i]? = some v → LikeAt H n u v
theorem tyx_rd {K : PySem.W.Frag} {H : Hp} {a : Addr} {xs : List V} (h : Rd H a (.tup xs)) : TyX K H (.ref a) (.type "tuple") := h.elim (fun e => .base (.tup e)) fun ⟨o, e⟩ => .fTuple e
def sp_like (n : Nat) : Sp := fun vs H Q _ => ∃ x y, vs = [x, y] ∧ LikeAt H n x y ∧ Q (.bl true) H
theorem c_like {n : Nat} {x y : V} {H : Hp} {Q : VK} {E : XK} (hl : LikeAt H n x y) (h : Q (.bl true) H) : sp_like n ([x, y] ++ []) H Q E := ⟨x, y, rfl, hl, h⟩
theorem q_isNn {x : V} {H : Hp} {Q : VK} (hx : x ≠ .non) (h : Q (.bl false) H) : oIsN x .non H Q := ⟨rfl, by
  rw [decide_eq_false hx]
  exact h⟩
theorem q_isNy {H : Hp} {Q : VK} (h : Q (.bl true) H) : oIsN .non .non H Q := ⟨rfl, h⟩
theorem q_isi {K : PySem.W.Frag} {x : V} {n : String} {t : Value} {b : Bool} {H : Hp} {Q : VK} (hx : TyX K H x t) (hb : PySem.W.kitOne K t (.type n) = some b) (h : Q (.bl b) H) : rIsi K [x, .ty n] H Q := ⟨x, .ty n, t, _, b, rfl, .ty n, hx, hb, h⟩
theorem q_eqS {a : Str} {H : Hp} {Q : VK} (h : Q (.bl true) H) : rEq (.str a) (.str a) H Q := ⟨rfl, by
  rw [decide_eq_true rfl]
  exact h⟩
theorem q_eqII {a : Int} {H : Hp} {Q : VK} (h : Q (.bl true) H) : rEq (.int a) (.int a) H Q := ⟨rfl, by
  rw [decide_eq_true rfl]
  exact h⟩
abbrev n__law_like : List Str := ["told", "due", "k"]
def t__law_like (K : PySem.W.Frag) (w : World) (spr : Sp) : TS :=
  (tSeq (tIfS (tTest (tOp oIsN (tVar 1) (tC .non))) (tRet (tOp oIsN (tVar 0) (tC .non))) tNext)
    (tSeq (tIfS (tB (tCB (rIsi K) (tCons (tVar 1) (tCons (tC (.ty "tuple")) tNil)))) (tSeq (tIfS (tOr (tNot (tB (tCB (rIsi K) (tCons (tVar 0) (tCons (tC (.ty "tuple")) tNil))))) (tTest (tOp rNe (tCB (oLen K) (tCons (tVar 0) tNil)) (tCB (oLen K) (tCons (tVar 1) tNil))))) (tRet (tC (.bl false))) tNext)
    (tSeq (tFor (iRng1 (tCons (tCB (oLen K) (tCons (tVar 1) tNil)) tNil)) (gName 2)
    (tIfS (tNot (tB (tCall spr [] E0 (tCons (tOp (rIxT K) (tVar 0) (tVar 2)) (tCons (tOp (rIxT K) (tVar 1) (tVar 2)) tNil))))) (tRet (tC (.bl false))) tNext))
    (tRet (tC (.bl true))))) tNext)
    (tSeq (tIfS (tB (tCB (rIsi K) (tCons (tVar 1) (tCons (tC (.ty "str")) tNil)))) (tRet (tAndV (tCB (rIsi K) (tCons (tVar 0) (tCons (tC (.ty "str")) tNil))) (tOp rEq (tVar 0) (tVar 1)))) tNext)
    (tRet (tAndV (tCB (rIsi K) (tCons (tVar 0) (tCons (tC (.ty "int")) tNil))) (tAndV (tNotV (tCB (rIsi K) (tCons (tVar 0) (tCons (tC (.ty "bool")) tNil)))) (tOp rEq (tVar 0) (tVar 1))))))))
theorem like_int {K : PySem.W.Frag} {w : World} {spr : Sp} (i : Int) (H : Hp) (Q : VK) (q : Q (.bl true) H) : t__law_like K w spr { nx := fun _ H' => Q .non H', rt := Q } (start n__law_like [.int i, .int i]) H := by
  unfold t__law_like
  walk_at "T"
  refine q_isNn (fun z => nomatch z) ?_
  walk_at "T"
  refine q_isi (t := .type "int") (b := false) (.base (.int i)) (by rfl) ?_
  walk_at "T"
  refine q_isi (t := .type "int") (b := false) (.base (.int i)) (by rfl) ?_
  walk_at "T"
  refine q_isi (t := .type "int") (b := true) (.base (.int i)) (by rfl) ?_
  walk_at "T"
  refine q_isi (t := .type "int") (b := false) (.base (.int i)) (by rfl) ?_
  refine ⟨_, rfl, _, rfl, ?_⟩
  show if true = true then _ else _
  walk_at "T"
  show Q (.bl (decide (i = i))) H
  rw [decide_eq_true rfl]
  exact q
theorem like_str {K : PySem.W.Frag} {w : World} {spr : Sp} (i : Str) (H : Hp) (Q : VK) (q : Q (.bl true) H) : t__law_like K w spr { nx := fun _ H' => Q .non H', rt := Q } (start n__law_like [.str i, .str i]) H := by
  unfold t__law_like
  walk_at "T"
  refine q_isNn (fun z => nomatch z) ?_
  walk_at "T"
  refine q_isi (t := .type "str") (b := false) (.base (.str i)) (by rfl) ?_
  walk_at "T"
  refine q_isi (t := .type "str") (b := true) (.base (.str i)) (by rfl) ?_
  walk_at "T"
  refine q_isi (t := .type "str") (b := true) (.base (.str i)) (by rfl) ?_
  walk_at "T"
  refine q_eqS ?_
  exact q
theorem like_non {K : PySem.W.Frag} {w : World} {spr : Sp} (H : Hp) (Q : VK) (q : Q (.bl true) H) : t__law_like K w spr { nx := fun _ H' => Q .non H', rt := Q } (start n__law_like [.non, .non]) H := by
  unfold t__law_like
  walk_at "T"
  refine q_isNy ?_
  walk_at "T"
  refine q_isNy ?_
  exact q
theorem r_like0 {K : PySem.W.Frag} {w : World} (vs : List V) (H : Hp) (Q : VK) (E : XK) (h : sp_like 0 vs H Q E) : t__law_like K w (fun _ _ _ _ => False) { nx := fun _ H' => Q .non H', rt := Q } (start n__law_like vs) H := by
  obtain ⟨x, y, rfl, ⟨i, rfl, rfl⟩ | ⟨i, rfl, rfl⟩ | ⟨rfl, rfl⟩, q⟩ := h
  · exact like_int i H Q q
  · exact like_str i H Q q
  · exact like_non H Q q
theorem r_like {K : PySem.W.Frag} {w : World} {n : Nat} (vs : List V) (H : Hp) (Q : VK) (E : XK) (h : sp_like (n + 1) vs H Q E) : t__law_like K w (sp_like n) { nx := fun _ H' => Q .non H', rt := Q } (start n__law_like vs) H := by
  obtain ⟨x, y, rfl, ⟨i, rfl, rfl⟩ | ⟨i, rfl, rfl⟩ | ⟨rfl, rfl⟩ | ⟨a, b, xs, ys, rfl, rfl, ha, hb, hl, hz, hall⟩, q⟩ := h
  · exact like_int i H Q q
  · exact like_str i H Q q
  · exact like_non H Q q
  unfold t__law_like
  walk_at "T"
  refine q_isNn (fun z => nomatch z) ?_
  walk_at "T"
  refine q_isi (t := .type "tuple") (b := true) (tyx_rd hb) (by rfl) ?_
  walk_at "T"
  refine q_isi (t := .type "tuple") (b := true) (tyx_rd ha) (by rfl) ?_
  have sa : SqT K H a xs := .inl ha
  have sb : SqT K H b ys := .inl hb
  refine ⟨_, rfl, t_ff ?_⟩
  walk_at "T"
  rw [show (!decide ((xs.length : Int) = (ys.length : Int))) = false by rw [hl, decide_eq_true rfl]; rfl]
  walk_at "T"
  rw [Int.toNat_natCast]
  refine for_w (w_rng (lo := 0) (n := ys.length)) (fun k σ H' => H' = H ∧ ∃ y : Option V, σ = [some (.ref a), some (.ref b), y]) ⟨rfl, _, rfl⟩ (fun _ _ _ _ _ => trivial) ?_ ?_
  · rintro k σ _ y H' hk ⟨rfl, y2, rfl⟩ ⟨rfl, rfl⟩
    obtain ⟨u, hu⟩ : ∃ u, xs[k]? = some u := ⟨_, List.getElem?_eq_getElem (by omega)⟩
    obtain ⟨v, hv⟩ : ∃ v, ys[k]? = some v := ⟨_, List.getElem?_eq_getElem (by omega)⟩
    rw [show (0 + (k : Int)) = (k : Int) by omega]
    walk_at "T"
    refine r_ixT (show SqT K _ a xs from .inl ha) (atI_nat hu) ?_
    walk_at "T"
    refine r_ixT (show SqT K _ b ys from .inl hb) (atI_nat hv) ?_
    walk_at "T"
    refine c_like (hall k u v hu hv) ?_
    refine ⟨_, rfl, t_ff ?_⟩
    walk_at "T"
    exact ⟨rfl, _, rfl⟩
  · rintro σ H' ⟨rfl, y2, rfl⟩
    walk_at "T"
    exact q
end K15

end
section
set_option Elab.async false
set_option linter.all false
set_option maxRecDepth 100000
set_option maxHeartbeats 4000000
namespace K15
open PySem hiding Tree
open PySem.Spec PyProof.Rows L2 LW LM LV
/-! ### steps of a reading, heaps: short tactics -/
local macro_rules | `(tactic| walk_at "ne") => `(tactic| first
  | assumption
  | (apply Ne.symm; assumption)
  | exact ne_none (by assumption) (by assumption)
  | exact (ne_none (by assumption) (by assumption)).symm
  | exact ne_of (by assumption) (by assumption) (by intro z; cases z))
local macro_rules | `(tactic| walk_at "hp") => `(tactic| first
  | assumption
  | with_reducible exact upd_same
  | ((first
      | with_reducible refine u_old ?_ (by assumption)
      | with_reducible refine u_oth (by walk_at "ne") ?_
      | with_reducible refine same_app (by assumption) ?_
      | with_reducible refine kb_app (by assumption) (by walk_at "ne") ?_); walk_at "hp")
  | ((with_reducible refine u_kind ?h (by assumption) ?d); (case h => walk_at "hp"); (case d => (intro z; cases z))))
local macro_rules | `(tactic| walk_at "sq") => `(tactic| first
  | assumption
  | exact SqL.of (by walk_at "hp")
  | exact SqT.of (by walk_at "hp")
  | (with_reducible refine same_sqT (by assumption) ?_; walk_at "sq")
  | (with_reducible refine same_sqL (by assumption) ?_; walk_at "sq")
  | (with_reducible refine new_sqT (by assumption) ?_; walk_at "sq")
  | (with_reducible refine new_sqL (by assumption) ?_; walk_at "sq")
  | ((with_reducible refine mut_sqT (u := ?uu) ?hd ?hm ?_); (case hd => walk_at "hp"); (case hm => exact trivial); walk_at "sq"))
local macro_rules | `(tactic| walk_at "rd") => `(tactic| first
  | assumption
  | exact .inl (by walk_at "hp")
  | exact .inr ⟨_, by walk_at "hp"⟩)
local macro_rules | `(tactic| walk_at "s") => `(tactic| first
  | with_reducible refine s_seq ?_
  | with_reducible refine s_asg ?_
  | with_reducible refine g_name ?_
  | ((with_reducible refine e_var (v := ?vv) ?hv ?_); (case hv => rfl))
  | with_reducible refine e_c ?_
  | with_reducible refine e_op ?_
  | with_reducible refine a_cons ?_
  | with_reducible refine a_nil ?_
  | with_reducible refine e_cb ?_
  | with_reducible refine e_call ?_
  | with_reducible refine e_callK ?_
  | with_reducible refine s_ret ?_
  | with_reducible refine s_retN ?_
  | with_reducible refine s_drop ?_
  | with_reducible refine s_ifs ?_
  | with_reducible refine s_next ?_
  | with_reducible refine s_cont ?_
  | with_reducible refine s_brk ?_
  | with_reducible refine s_par ?_
  | with_reducible refine s_par3 ?_
  | with_reducible refine e_un ?_
  | with_reducible refine e_if ?_
  | with_reducible refine e_andV ?_
  | with_reducible refine e_orV ?_
  | with_reducible refine e_notV ?_
  | with_reducible refine e_dget ?_
  | with_reducible refine e_dget2 ?_
  | with_reducible refine e_din ?_
  | with_reducible refine e_dnotin ?_
  | with_reducible refine e_then ?_
  | with_reducible refine e_bm ?_
  | with_reducible refine e_bm0 ?_
  | with_reducible refine e_sl ?_
  | with_reducible refine o_none ?_
  | with_reducible refine o_part ?_
  | with_reducible refine g_sub ?_
  | with_reducible refine g_nil ?_
  | with_reducible refine g_cons ?_
  | with_reducible refine t_test ?_
  | with_reducible refine t_B ?_
  | with_reducible refine t_and ?_
  | with_reducible refine t_or ?_
  | with_reducible refine t_not ?_
  | ((with_reducible refine r_ixI (ns := ?ns) ?hs ?h0 ?h1 ?_); (case hs => walk_at "sq"); (case h0 => omega); (case h1 => omega))
  | ((with_reducible refine r_ixL (xs := ?xs) (v := ?vv) ?hs ?hi ?_); (case hs => walk_at "sq"); (case hi => rfl))
  | ((with_reducible refine r_ixT (xs := ?xs) (v := ?vv) ?hs ?hi ?_); (case hs => walk_at "sq"); (case hi => rfl))
  | ((with_reducible refine g_setL (xs := ?xs) (j := ?jj) ?hp ?hj ?_); (case hp => walk_at "hp"); (case hj => rfl))
  | ((with_reducible refine r_mul ?hc ?_); (case hc => first | exact .inr (by decide) | exact .inl (by decide) | exact .inl ⟨by omega, by omega⟩ | exact .inr ⟨by omega, by omega⟩))
  | ((with_reducible refine r_mod ?hc ?_); (case hc => first | decide | omega))
  | ((with_reducible refine r_fdivN ?hc ?_); (case hc => exact ⟨by first | decide | omega, by first | decide | omega⟩))
  | ((with_reducible refine r_pow ?hc ?_); (case hc => first | decide | exact ⟨by decide, by decide⟩ | (unfold CPow; decide)))
  | ((with_reducible refine r_lenI (ns := ?ns) ?hs ?_); (case hs => walk_at "sq"))
  | ((with_reducible refine r_lenTI (ns := ?ns) ?hs ?_); (case hs => walk_at "sq"))
  | ((with_reducible refine r_lenL (xs := ?xs) ?hs ?_); (case hs => walk_at "sq"))
  | ((with_reducible refine r_lenT (xs := ?xs) ?hs ?_); (case hs => walk_at "sq"))
  | ((with_reducible refine r_tyL (xs := ?xs) ?hs ?_); (case hs => walk_at "sq"))
  | with_reducible refine r_add ?_
  | with_reducible refine r_sub ?_
  | with_reducible refine r_lt ?_
  | with_reducible refine r_le ?_
  | with_reducible refine r_gt ?_
  | with_reducible refine r_ge ?_
  | with_reducible refine r_eqI ?_
  | with_reducible refine r_neI ?_
  | with_reducible refine r_int ?_
  | with_reducible refine r_intb ?_
  | with_reducible refine r_neg ?_
  | with_reducible refine r_max2 ?_
  | with_reducible refine r_min2 ?_
  | with_reducible refine c_sp1 ?_
  | with_reducible refine c_sp2 ?_
  | with_reducible refine c_sp3 ?_
  | with_reducible refine c_sp4 ?_
  | with_reducible refine c_sp5 ?_
  | with_reducible refine t_end ?_
  | with_reducible refine o_part_end ?_
  | ((with_reducible refine s_aug (x := ?xx) ?hx ?_); (case hx => rfl))
  | with_reducible refine s_for ?_
  | with_reducible refine i_list ?_
  | with_reducible refine i_tup ?_
  | with_reducible refine i_rng1 ?_
  | with_reducible refine i_rng2 ?_
  | with_reducible refine i_keys ?_
  | with_reducible refine i_items ?_
  | with_reducible refine i_zip2 ?_
  | with_reducible refine i_enum2 ?_
  | ((with_reducible refine i_rng1E ?h1 ?h2 ?_); (case h1 => omega); (case h2 => omega))
  | ((with_reducible refine i_rng2E ?h1 ?_); (case h1 => omega))
  | ((with_reducible refine i_listE (xs := ?xs) ?hs ?_); (case hs => walk_at "sq"))
  | ((with_reducible refine i_tupE (xs := ?xs) ?hs ?_); (case hs => walk_at "sq"))
  | ((with_reducible refine q_isD ?hi ?_); (case hi => first | exact isD_K (by walk_at "rd") | exact isD_T (by walk_at "rd")))
  | with_reducible refine q_ref ?_
  | with_reducible refine e_dnewK ?_
  | with_reducible refine e_dnewT ?_
  | with_reducible refine e_tup ?_
  | with_reducible refine e_lst ?_
  | ((with_reducible refine r_new ?hn ?_); (case hn => exact Nat.le_of_ble_eq_true rfl))
  | with_reducible refine r_fresh fun _ _ => ?_
  | with_reducible refine s_par_end ?_
  | with_reducible refine s_par3_end ?_
  | with_reducible refine e_lc ?_
  | with_reducible refine e_dc ?_
  | with_reducible refine e_dcT ?_
  | with_reducible refine t_tyes ?_
  | with_reducible refine t_tt ?_
  | with_reducible refine t_ff ?_
  | with_reducible refine c_wipe rfl ?_)
local macro_rules | `(tactic| walk_at "S") => `(tactic| repeat' first | walk_at "s" | with_reducible refine s_dput ?_)
local macro_rules | `(tactic| walk_at "T") => `(tactic| repeat' walk_at "s")

/-! ### layers: what both sides give -/
def usOf (l : Doc) : Int := ((namesOf l).length : Nat) + 1
def rndAt (row : List Int) (us : Int) (k : Nat) : Rnd := round (rowAt row us k).1 (rowAt row us k).2
def lastV : List Int → V
  | [] => .non
  | x :: _ => .int x
theorem rowAt_ok2 {row : List Int} {us : Int} (hn : ∀ n ∈ row, 0 ≤ n) (hu : 0 ≤ us) : ∀ k, (∀ j, j < k → 1 < (rowAt row us j).1.length) → (rowAt row us k).1.length + k ≤ row.length ∧ (∀ n ∈ (rowAt row us k).1, 0 ≤ n) ∧ 0 ≤ (rowAt row us k).2
  | 0, _ => ⟨Nat.le_refl _, hn, hu⟩
  | k + 1, h => by
    obtain ⟨a, c, d⟩ := rowAt_ok2 hn hu k fun j hj => h j (by omega)
    have h1 := round_lt (us := (rowAt row us k).2) (h k (by omega))
    have h2 := round_nn c d
    exact ⟨by show (round _ _).row.length + (k + 1) ≤ _; omega, h2.1, h2.2⟩
theorem round_yes {row : List Int} {us : Int} (h : 1 < (blockRow row us).length) : round row us = ⟨prow (pairsOf (blockRow row us) (inT (leftNums (blockRow row us)))) (us + ((blocksOf row).length : Nat)) (blockRow row us), us + ((blocksOf row).length : Nat) + ((pairsOf (blockRow row us) (inT (leftNums (blockRow row us)))).length : Nat), blocksOf row, leftNums (blockRow row us), pairsOf (blockRow row us) (inT (leftNums (blockRow row us)))⟩ := by
  unfold round
  simp only
  rw [if_pos h]
theorem round_no {row : List Int} {us : Int} (h : ¬ 1 < (blockRow row us).length) : round row us = ⟨blockRow row us, us + ((blocksOf row).length : Nat), blocksOf row, [], []⟩ := by
  unfold round
  simp only
  rw [if_neg h]
structure RoundAt (H : Hp) (r : Addr) (rd : Rnd) : Prop where
  ex : ∃ (b l p : Addr) (bs cs : List Addr), H r = some (.tup [.ref b, .ref l, .ref p]) ∧ H b = some (.tup (bs.map V.ref)) ∧ LS.AtPs H bs rd.blocks ∧ H l = some (.tup (rd.lefts.map V.int)) ∧ H p = some (.tup (cs.map V.ref)) ∧ LS.AtPs H cs rd.pairs
def RoundsAt (H : Hp) (row : List Int) (us : Int) (rs : List Addr) : Prop := ∀ (j : Nat) (r : Addr), rs[j]? = some r → RoundAt H r (rndAt row us j)
theorem RoundAt.same {H H' : Hp} {r : Addr} {rd : Rnd} (R : RoundAt H r rd) (s : Same H H') : RoundAt H' r rd := by
  obtain ⟨b, l, p, bs, cs, h1, h2, h3, h4, h5, h6⟩ := R.ex
  exact ⟨b, l, p, bs, cs, s _ _ h1, s _ _ h2, atPs_same s h3, s _ _ h4, s _ _ h5, atPs_same s h6⟩
theorem RoundAt.mut {H : Hp} {r q : Addr} {rd : Rnd} {o u : HO} (R : RoundAt H r rd) (hq : H q = some u) (hu : Mut (some u)) : RoundAt (upd H q o) r rd := by
  obtain ⟨b, l, p, bs, cs, h1, h2, h3, h4, h5, h6⟩ := R.ex
  have ne : ∀ {x : Addr} {xs : List V}, H x = some (.tup xs) → x ≠ q := fun hx e => by
    subst e
    rw [hq] at hx
    cases hx
    exact hu
  exact ⟨b, l, p, bs, cs, u_oth (ne h1) h1, u_oth (ne h2) h2, atPs_mutT hq hu h3, u_oth (ne h4) h4, u_oth (ne h5) h5, atPs_mutT hq hu h6⟩
/-- the layers of a document -/
structure LayAt (H : Hp) (t : Addr) (l : Doc) : Prop where
  ex : ∃ (a b : Addr) (rs : List Addr), H t = some (.tup [.ref a, .ref b, lastV (rowAt (rowOf l) (usOf l) rs.length).1]) ∧ Rd H a (.tup ((namesOf l).map V.str)) ∧ H b = some (.tup (rs.map V.ref)) ∧ RoundsAt H (rowOf l) (usOf l) rs ∧
    (∀ j, j < rs.length → 1 < (rowAt (rowOf l) (usOf l) j).1.length) ∧ ¬ 1 < (rowAt (rowOf l) (usOf l) rs.length).1.length
theorem like_pair {H : Hp} {a b : Addr} {p : P2} (ha : LS.AtP H a p) (hb : LS.AtP H b p) : LikeAt H 1 (.ref a) (.ref b) := by
  obtain ⟨m, n⟩ := p
  refine .inr (.inr (.inr ⟨a, b, [.int m, .int n], [.int m, .int n], rfl, rfl, .inl ha, .inl hb, rfl, Nat.le_of_ble_eq_true rfl, ?_⟩))
  intro i u v hu hv
  rw [hu] at hv
  cases hv
  have h := mem_of_get hu
  simp only [List.mem_cons, List.not_mem_nil, or_false] at h
  rcases h with rfl | rfl
  · exact .inl ⟨_, rfl, rfl⟩
  · exact .inl ⟨_, rfl, rfl⟩
theorem like_pairs {H : Hp} {a b : Addr} {bs cs : List Addr} {ps : List P2} (ha : Rd H a (.tup (bs.map V.ref))) (hb : Rd H b (.tup (cs.map V.ref))) (h1 : LS.AtPs H bs ps) (h2 : LS.AtPs H cs ps) (hl : ps.length ≤ 100000) : LikeAt H 2 (.ref a) (.ref b) := by
  have l1 := atPs_len h1
  have l2 := atPs_len h2
  refine .inr (.inr (.inr ⟨a, b, _, _, rfl, rfl, ha, hb, by rw [List.length_map, List.length_map]; omega, by rw [List.length_map]; omega, ?_⟩))
  intro i u v hu hv
  obtain ⟨x, ex, rfl⟩ := map_ref_get hu
  obtain ⟨y, ey, rfl⟩ := map_ref_get hv
  obtain ⟨p, ep, hx⟩ := atPs_get h1 ex
  obtain ⟨q, eq, hy⟩ := atPs_get h2 ey
  rw [ep] at eq
  cases eq
  exact like_pair hx hy
theorem like_ints {H : Hp} {a b : Addr} {ns : List Int} {n : Nat} (ha : H a = some (.tup (ns.map V.int))) (hb : H b = some (.tup (ns.map V.int))) (hl : ns.length ≤ 100000) : LikeAt H (n + 1) (.ref a) (.ref b) := by
  refine .inr (.inr (.inr ⟨a, b, _, _, rfl, rfl, .inl ha, .inl hb, rfl, by rw [List.length_map]; omega, ?_⟩))
  intro i u v hu hv
  rw [hu] at hv
  cases hv
  obtain ⟨x, _, rfl⟩ := map_int_get hu
  cases n
  · exact .inl ⟨_, rfl, rfl⟩
  · exact .inl ⟨_, rfl, rfl⟩
theorem like_strs {H : Hp} {a b : Addr} {ns : List Str} {n : Nat} (ha : Rd H a (.tup (ns.map V.str))) (hb : Rd H b (.tup (ns.map V.str))) (hl : ns.length ≤ 100000) : LikeAt H (n + 1) (.ref a) (.ref b) := by
  refine .inr (.inr (.inr ⟨a, b, _, _, rfl, rfl, ha, hb, rfl, by rw [List.length_map]; omega, ?_⟩))
  intro i u v hu hv
  rw [hu] at hv
  cases hv
  obtain ⟨x, _, rfl⟩ := map_str_get hu
  cases n
  · exact .inr (.inl ⟨_, rfl, rfl⟩)
  · exact .inr (.inl ⟨_, rfl, rfl⟩)
theorem like_round {H : Hp} {r r' : Addr} {rd : Rnd} (h1 : RoundAt H r rd) (h2 : RoundAt H r' rd) (hb : rd.blocks.length ≤ 100000) (hl : rd.lefts.length ≤ 100000) (hp : rd.pairs.length ≤ 100000) : LikeAt H 3 (.ref r) (.ref r') := by
  obtain ⟨b, l, p, bs, cs, a1, a2, a3, a4, a5, a6⟩ := h1.ex
  obtain ⟨b', l', p', bs', cs', c1, c2, c3, c4, c5, c6⟩ := h2.ex
  refine .inr (.inr (.inr ⟨r, r', _, _, rfl, rfl, .inl a1, .inl c1, rfl, Nat.le_of_ble_eq_true rfl, ?_⟩))
  intro i u v hu hv
  match i, hu, hv with
  | 0, hu, hv =>
    cases hu
    cases hv
    exact like_pairs (.inl a2) (.inl c2) a3 c3 hb
  | 1, hu, hv =>
    cases hu
    cases hv
    exact like_ints a4 c4 hl
  | 2, hu, hv =>
    cases hu
    cases hv
    exact like_pairs (.inl a5) (.inl c5) a6 c6 hp
theorem rnd_len {row : List Int} {us : Int} : (round row us).blocks.length ≤ row.length ∧ (round row us).lefts.length ≤ row.length ∧ (round row us).pairs.length ≤ row.length := by
  have hb : (blocksOf row).length ≤ row.length := by
    unfold blocksOf
    rw [(sortP_perm _).length_eq]
    exact Nat.le_trans (len_dedup _) (Nat.le_trans (List.length_filter_le _ _) (runs_len row))
  have h1 := block_le row us
  by_cases h : 1 < (blockRow row us).length
  · rw [round_yes h]
    refine ⟨hb, ?_, ?_⟩
    · show (leftNums (blockRow row us)).length ≤ _
      rw [left_mat]
      refine Nat.le_trans (List.length_filter_le _ _) ?_
      rw [(sortI_perm _).length_eq]
      exact Nat.le_trans (len_dedup _) h1
    · show (pairsOf (blockRow row us) _).length ≤ _
      unfold LM.pairsOf pkeys
      rw [(sortP_perm _).length_eq]
      refine Nat.le_trans (len_dedup _) (Nat.le_trans (List.length_filter_le _ _) ?_)
      unfold zipT
      rw [List.length_zip]
      omega
  · rw [round_no h]
    exact ⟨hb, Nat.zero_le _, Nat.zero_le _⟩
theorem like_lay {H : Hp} {t u : Addr} {l : Doc} (h1 : LayAt H t l) (h2 : LayAt H u l) (hz : (rowOf l).length ≤ 1000) (hn : (namesOf l).length ≤ 1000) : LikeAt H 5 (.ref t) (.ref u) := by
  obtain ⟨a, b, rs, a1, a2, a3, a4, a5, a6⟩ := h1.ex
  obtain ⟨a', b', rs', c1, c2, c3, c4, c5, c6⟩ := h2.ex
  have he : rs.length = rs'.length := by
    rcases Nat.lt_trichotomy rs.length rs'.length with h | h | h
    · exact absurd (c5 _ h) a6
    · exact h
    · exact absurd (a5 _ h) c6
  rw [← he] at c1
  have hok := fun k hk => rowAt_ok2 (row_nn l) (show 0 ≤ usOf l by unfold usOf; omega) k hk
  refine .inr (.inr (.inr ⟨t, u, _, _, rfl, rfl, .inl a1, .inl c1, rfl, Nat.le_of_ble_eq_true rfl, ?_⟩))
  intro i x y hu hv
  match i, hu, hv with
  | 0, hu, hv =>
    cases hu
    cases hv
    exact like_strs a2 c2 (by omega)
  | 1, hu, hv =>
    cases hu
    cases hv
    have hlen := hok rs.length a5
    refine .inr (.inr (.inr ⟨b, b', _, _, rfl, rfl, .inl a3, .inl c3, by rw [List.length_map, List.length_map]; exact he, by rw [List.length_map]; omega, ?_⟩))
    intro j x y hx hy
    obtain ⟨r, er, rfl⟩ := map_ref_get hx
    obtain ⟨r', er', rfl⟩ := map_ref_get hy
    have hj : j < rs.length := (List.getElem?_eq_some_iff.mp er).1
    have hl2 := hok j fun m hm => a5 m (by omega)
    have hr := @rnd_len (rowAt (rowOf l) (usOf l) j).1 (rowAt (rowOf l) (usOf l) j).2
    exact like_round (a4 j r er) (c4 j r' er') (by show (round _ _).blocks.length ≤ _; omega) (by show (round _ _).lefts.length ≤ _; omega) (by show (round _ _).pairs.length ≤ _; omega)
  | 2, hu, hv =>
    cases hu
    cases hv
    cases (rowAt (rowOf l) (usOf l) rs.length).1 with
    | nil => exact .inr (.inr (.inl ⟨rfl, rfl⟩))
    | cons x r => exact .inl ⟨x, rfl, rfl⟩
/-! ### layers_of_form -/
def DocOk (l : Doc) : Prop := okD (-1) l ∧ (∀ s ∈ l.map (·.2), GoodS s) ∧ l.length ≤ 60
theorem good_ne {s : Str} (h : GoodS s) : s ≠ nilS := fun e => by
  subst e
  exact absurd h.1 (by decide)
def sp_layers (K : PySem.W.Frag) : Sp := sp1 fun x H Q => ∃ (f : Addr) (vs : List V) (l : Doc), x = .ref f ∧ H f = some (.tup vs) ∧ TreesAt H vs (forestR l 0) ∧ DocOk l ∧ ∀ (t : Addr) H', Same H H' → LayAt H' t l → Q (.ref t) H'
theorem c_layers {K : PySem.W.Frag} {H : Hp} {f : Addr} {vs : List V} {l : Doc} {Q : VK} {E : XK} (hf : H f = some (.tup vs)) (ht : TreesAt H vs (forestR l 0)) (ok : DocOk l) (h : ∀ (t : Addr) H', Same H H' → LayAt H' t l → Q (.ref t) H') : sp_layers K ([.ref f] ++ []) H Q E := ⟨_, rfl, f, vs, l, rfl, hf, ht, ok, h⟩
def kS (x : Str) : L2.Key := .inr x
theorem kS_inj : ∀ a b, kS a = kS b → a = b := fun _ _ h => Sum.inr.inj h
theorem q_dcputS {H : Hp} {D : Addr} {β : Type} {f : β → V} {li : List (Str × β)} {n : Str} {m : β} {R : Hp → Prop} (hd : H D = some (.dK (encD kS f li))) (hz : li.length < sizeLine) (h : R (upd H D (.dK (encD kS f (put li n m))))) :
    ∃ kvs k, V.str n = kV k ∧ H D = some (.dK kvs) ∧ kvs.length < sizeLine ∧ R (upd H D (.dK (putK kvs k (f m)))) :=
  ⟨encD kS f li, kS n, rfl, hd, by rw [len_enc]; exact hz, by rw [putK_enc kS_inj]; exact h⟩
theorem q_sortDS {H : Hp} {a : Addr} {ks : List Str} {Q : VK} (hr : H a = some (.dK (encD kS V.bl (trues ks)))) (hl : ks.length < 64) (h : ∀ p, H p = none → Q (.ref p) (upd H p (.lst ((LU.sortS ks).map V.str)))) : LX.oSortedDS [.ref a] H Q := by
  refine ⟨a, _, ks, rfl, .inl hr, ?_, hl, fun ys p hp hs hn => ?_⟩
  · rw [keys_enc]
    unfold keys trues
    rw [List.map_map, List.map_map]
    rfl
  · rw [LU.sortS_eq hp hs]
    exact h p hn
theorem t_truT {K : PySem.W.Frag} {H : Hp} {p : Addr} {xs : List V} {R : Bool → Prop} (hs : SqT K H p xs) (h : R (!xs.isEmpty)) : ∃ k, TruV K (.ref p) H k ∧ R k := ⟨_, .inr (.inl ⟨xs, hs, rfl⟩), h⟩
abbrev n_layers_of_form : List Str := ["form", "names", "row", "used", "rounds", "blocks", "lefts", "pairs", "mark"]
def t_layers_of_form (K : PySem.W.Frag) (w : World) : TS :=
  (tSeq (tAsg (tThen (tCB LX.oSortedDS (tCons (tDc (iList K (tCall (sp_marks_of K) [] E0 (tCons (tVar 0) tNil))) (gName 8) (oTru K (tVar 8)) (tVar 8) (tC (.bl true)) [8]) tNil)) (LY.kTupF K)) (gName 1))
    (tSeq (tAsg (tCall (sp_number_row K) [] E0 (tCons (tVar 0) (tCons (tVar 1) tNil))) (gName 2))
    (tSeq (tAsg (tOp oAdd (tCB (oLen K) (tCons (tVar 1) tNil)) (tC (.int 1))) (gName 3))
    (tSeq (tAsg (tLst tNil) (gName 4))
    (tSeq (tWhile (tTest (tOp oGt (tCB (oLen K) (tCons (tVar 2) tNil)) (tC (.int 1)))) (tSeq (tAsg (tCall (sp_row_blocks K) [] E0 (tCons (tVar 2) (tCons (tVar 3) tNil))) (gTup K 3 (gCons (gName 2) (gCons (gName 5) (gCons (gName 3) gNil)))))
    (tSeq (tAsg (tTup (tCons (tTup tNil) (tCons (tTup tNil) tNil))) (gTup K 2 (gCons (gName 6) (gCons (gName 7) gNil))))
    (tSeq (tIfS (tTest (tOp oGt (tCB (oLen K) (tCons (tVar 2) tNil)) (tC (.int 1)))) (tSeq (tAsg (tCall (sp_sides_of K) [] E0 (tCons (tVar 2) tNil)) (gName 6))
    (tAsg (tCall (sp_row_pairs K) [] E0 (tCons (tVar 2) (tCons (tVar 6) (tCons (tVar 3) tNil)))) (gTup K 3 (gCons (gName 2) (gCons (gName 7) (gCons (gName 3) gNil)))))) tNext)
    (tDrop (tBM K "list" rAppend (tVar 4) (tCons (tTup (tCons (tVar 5) (tCons (tVar 6) (tCons (tVar 7) tNil)))) tNil)))))))
    (tRet (tTup (tCons (tVar 1) (tCons (tThen (tVar 4) (kTup K)) (tCons (tIf (oTru K (tVar 2)) (tOp (rIxT K) (tVar 2) (tC (.int 0))) (tC .non)) tNil))))))))))
theorem r_layers_of_form {K : PySem.W.Frag} {w : World} (vs : List V) (H : Hp) (Q : VK) (E : XK) (h : sp_layers K vs H Q E) : t_layers_of_form K w { nx := fun _ H' => Q .non H', rt := Q } (start n_layers_of_form vs) H := by
  obtain ⟨_, rfl, f, zs, l, rfl, hf, ht, ⟨okd, hg, hll⟩, q⟩ := h
  have hmk := marks_first okd
  have hml := first_len okd
  have okt := forest_ok (l := l) (fun s hs => ⟨good_ne (hg s hs), (hg s hs).2.2⟩) 0
  have hnl := names_len l
  have hsl : ∀ m ∈ firstM l, m.length ≤ 1000 := fun m hm => by
    by_cases z : m = nilS
    · subst z
      decide
    · have := (hg m ((mem_first z).mp hm)).2.1
      omega
  unfold t_layers_of_form
  walk_at "T"
  refine c_marks_of hf ht okt (by rw [hmk]; omega) fun p H1 s1 e1 => ?_
  rw [hmk] at e1
  walk_at "T"
  rename_i D hD
  have hnm := names_marks (l := l) fun s hs => good_ne (hg s hs)
  have hfl : ∀ i, (dedup (((firstM l).take i).filter fun m => decide (m ≠ nilS))).length ≤ 124 := fun i => by
    refine Nat.le_trans (len_dedup _) (Nat.le_trans (List.length_filter_le _ _) ?_)
    rw [List.length_take]
    omega
  refine dc_w (w_list (xs := (firstM l).map V.str)) (fun i H' => Same H1 H' ∧ H' D = some (.dK (encD kS V.bl (trues (dedup (((firstM l).take i).filter fun m => decide (m ≠ nilS))))))) ⟨L2.Same.new hD, upd_same⟩ (fun i H' _ z => SqL.of (z.1 _ _ e1)) ?_ ?_
  · rintro i _ x H' hi ⟨s2, e2⟩ ⟨rfl, hx⟩
    obtain ⟨m, em, rfl⟩ := map_str_get hx
    have hfi := hfl i
    have etk : ((firstM l).take (i + 1)).filter (fun m => decide (m ≠ nilS)) = ((firstM l).take i).filter (fun m => decide (m ≠ nilS)) ++ if decide (m ≠ nilS) = true then [m] else [] := by
      rw [take_snoc em, List.filter_append, List.filter_cons]
      rfl
    rw [etk]
    walk_at "T"
    refine t_truS (hsl m (mem_of_get em)) ?_
    refine t_iteD (fun e => ?_) (fun e => ?_)
    · walk_at "T"
      refine q_dcputS (f := V.bl) (n := m) (m := true) (R := fun H5 => Same H1 H5 ∧ H5 D = some (.dK (encD kS V.bl (trues (dedup (((firstM l).take i).filter (fun m => decide (m ≠ nilS)) ++ if decide (m ≠ nilS) = true then [m] else [])))))) e2 (by unfold trues; rw [List.length_map, sizeLine_eq]; omega) ?_
      refine ⟨s2.mut hD, ?_⟩
      rw [upd_same, put_trues, if_pos (decide_eq_true e), dedup_snoc]
    · refine ⟨s2, ?_⟩
      rw [e2, if_neg (by rw [decide_eq_true_eq]; exact e), List.append_nil]
  · rintro H2 ⟨s2, e2⟩
    rw [List.length_map, List.take_length] at e2
    walk_at "T"
    refine q_sortDS e2 ?_ fun p2 hp2 => ?_
    · have h1 : (namesOf l).length < 64 := by omega
      rw [← hnm, (LU.sortS_perm _).length_eq] at h1
      exact h1
    rw [hnm]
    walk_at "T"
    refine LY.r_tupF (SqL.of upd_same) fun a ob ha hob => ?_
    have s3 : Same H (upd (upd H2 p2 (.lst ((namesOf l).map V.str))) a (.frz ob (.tup ((namesOf l).map V.str)))) := ((s1.trans s2).upd hp2).upd ha
    have e3 : upd (upd H2 p2 (.lst ((namesOf l).map V.str))) a (.frz ob (.tup ((namesOf l).map V.str))) a = some (.frz ob (.tup ((namesOf l).map V.str))) := upd_same
    generalize upd (upd H2 p2 (.lst ((namesOf l).map V.str))) a (.frz ob (.tup ((namesOf l).map V.str))) = H3 at s3 e3
    walk_at "T"
    refine c_number_row (s3 _ _ hf) (ht.same s3) okt (by rw [hmk]; omega) e3 hob (fun m hm => ?_) fun r0 H4 s4 e4 => ?_
    · rw [hmk] at hm
      exact ⟨hsl m hm, fun z => mem_names.mpr ((mem_first z).mp hm)⟩
    rw [hmk] at e4
    have e4' : H4 r0 = some (.tup ((rowOf l).map V.int)) := e4
    have s04 := s3.trans s4
    have ea4 := s4 _ _ e3
    have sa4 : SqT K H4 a ((namesOf l).map V.str) := .inl (.inr ⟨_, ea4⟩)
    walk_at "T"
    rename_i L hL
    rw [List.length_map]
    have hL0 : H L = none := none_of s04 hL
    have hu0 : 0 ≤ usOf l := by unfold usOf; omega
    refine ⟨fun m σ H' => ∃ (k : Nat) (y5 y6 y7 : Option V) (r : Addr) (rs : List Addr), σ = [some (.ref f), some (.ref a), some (.ref r), some (.int (rowAt (rowOf l) (usOf l) k).2), some (.ref L), y5, y6, y7, none] ∧ m = (rowAt (rowOf l) (usOf l) k).1.length ∧ Same H4 H' ∧
        H' r = some (.tup ((rowAt (rowOf l) (usOf l) k).1.map V.int)) ∧ H' L = some (.lst (rs.map V.ref)) ∧ rs.length = k ∧ RoundsAt H' (rowOf l) (usOf l) rs ∧ ∀ j, j < k → 1 < (rowAt (rowOf l) (usOf l) j).1.length,
      ⟨_, 0, none, none, none, r0, [], rfl, rfl, L2.Same.new hL, u_old e4' hL, upd_same, rfl, (fun j r h => nomatch h), fun j h => absurd h (Nat.not_lt_zero j)⟩, ?_⟩
    rintro m σ H5 ⟨k, y5, y6, y7, r, rs, rfl, rfl, s5, hr5, hL5, hk, hrs, hall⟩
    obtain ⟨z1, z2, z3⟩ := rowAt_ok2 (row_nn l) hu0 k hall
    have hrl := row_len okd
    have sr5 : SqT K H5 r ((rowAt (rowOf l) (usOf l) k).1.map V.int) := SqT.of hr5
    have hnx : ∀ x, rowAt (rowOf l) (usOf l) (k + 1) = x → x = ((rndAt (rowOf l) (usOf l) k).row, (rndAt (rowOf l) (usOf l) k).used) := fun x h => h.symm
    have hrd : rndAt (rowOf l) (usOf l) k = round (rowAt (rowOf l) (usOf l) k).1 (rowAt (rowOf l) (usOf l) k).2 := rfl
    walk_at "T"
    refine t_iteD (fun hlt => ?_) (fun hlt => ?_)
    · have hlt' : 1 < (rowAt (rowOf l) (usOf l) k).1.length := by omega
      have hdn := round_lt (us := (rowAt (rowOf l) (usOf l) k).2) hlt'
      have hdn2 : (rowAt (rowOf l) (usOf l) (k + 1)).1.length < (rowAt (rowOf l) (usOf l) k).1.length := hdn
      refine ⟨fun σ' H' => ∃ (y5 y6 y7 : Option V) (r : Addr) (rs : List Addr), σ' = [some (.ref f), some (.ref a), some (.ref r), some (.int (rowAt (rowOf l) (usOf l) (k + 1)).2), some (.ref L), y5, y6, y7, none] ∧ Same H4 H' ∧
        H' r = some (.tup ((rowAt (rowOf l) (usOf l) (k + 1)).1.map V.int)) ∧ H' L = some (.lst (rs.map V.ref)) ∧ rs.length = k + 1 ∧ RoundsAt H' (rowOf l) (usOf l) rs, ?_, ?_⟩
      · rintro σ' H' ⟨y5', y6', y7', r', rs', rfl, a1, a2, a3, a4, a5⟩
        refine ⟨_, hdn2, k + 1, y5', y6', y7', r', rs', rfl, rfl, a1, a2, a3, a4, a5, fun j hj => ?_⟩
        by_cases e : j = k
        · subst e
          exact hlt'
        · exact hall j (by omega)
      rw [hnx _ rfl]
      rw [hrd]
      generalize hrow : (rowAt (rowOf l) (usOf l) k).1 = row at z1 z2 hr5 sr5 hlt' hlt hdn hdn2 hrd ⊢
      generalize husd : (rowAt (rowOf l) (usOf l) k).2 = us at z3 hdn hrd ⊢
      walk_at "T"
      refine c_row_blocks sr5 (by omega) fun t t1 t2 bs H6 s6 e6 e61 e62 a6 => ?_
      refine g_tup (xs := [.ref t1, .ref t2, .int (us + ((blocksOf row).length : Nat))]) (SqT.of e6) rfl ?_
      walk_at "T"
      rename_i w1 hw1 w2 hw2 w3 hw3
      refine g_tup (xs := [.ref w1, .ref w2]) (SqT.of upd_same) rfl ?_
      have hL4 := hL
      have fin : ∀ (rr lf pp q : Addr) (cs : List Addr) (us2 : Int) (H9 : Hp), us2 = (round row us).used → Same H6 H9 → H9 q = none → H9 rr = some (.tup ((round row us).row.map V.int)) → H9 lf = some (.tup ((round row us).lefts.map V.int)) → H9 pp = some (.tup (cs.map V.ref)) → LS.AtPs H9 cs (round row us).pairs →
          ∃ (y5 y6 y7 : Option V) (r' : Addr) (rs' : List Addr), [some (V.ref f), some (.ref a), some (.ref rr), some (.int us2), some (.ref L), some (.ref t2), some (.ref lf), some (.ref pp), none] = [some (V.ref f), some (.ref a), some (.ref r'), some (.int ((round row us).row, (round row us).used).2), some (.ref L), y5, y6, y7, none] ∧
            Same H4 (upd (upd H9 q (.tup [.ref t2, .ref lf, .ref pp])) L (.lst (rs.map V.ref ++ [.ref q]))) ∧ upd (upd H9 q (.tup [.ref t2, .ref lf, .ref pp])) L (.lst (rs.map V.ref ++ [.ref q])) r' = some (.tup (((round row us).row, (round row us).used).1.map V.int)) ∧
            upd (upd H9 q (.tup [.ref t2, .ref lf, .ref pp])) L (.lst (rs.map V.ref ++ [.ref q])) L = some (.lst (rs'.map V.ref)) ∧ rs'.length = k + 1 ∧ RoundsAt (upd (upd H9 q (.tup [.ref t2, .ref lf, .ref pp])) L (.lst (rs.map V.ref ++ [.ref q]))) (rowOf l) (usOf l) rs' := by
        intro rr lf pp q cs us2 H9 hus2 s9 hq h1 h2 h3 h4
        have s49 := (s5.trans s6).trans s9
        have hL9 : H9 L = some (.lst (rs.map V.ref)) := s9 _ _ (s6 _ _ hL5)
        have nt : ∀ {x : Addr} {xs : List V}, H9 x = some (.tup xs) → x ≠ L := fun hx e => by
          subst e
          rw [hL9] at hx
          cases hx
        have hqL : upd H9 q (.tup [.ref t2, .ref lf, .ref pp]) L = some (.lst (rs.map V.ref)) := u_old hL9 hq
        have h5 : H9 t2 = some (.tup (bs.map V.ref)) := s9 _ _ e62
        subst hus2
        refine ⟨_, _, _, rr, rs ++ [q], rfl, (s49.upd hq).mut hL, u_oth (nt h1) (u_old h1 hq), by rw [upd_same, List.map_append]; rfl, by rw [List.length_append, hk]; rfl, ?_⟩
        intro j x hx
        by_cases hj : j < rs.length
        · rw [List.getElem?_append_left hj] at hx
          exact (((hrs j x hx).same (s6.trans s9)).same (L2.Same.new hq)).mut hqL trivial
        · have ej : j = k := by
            have := (List.getElem?_eq_some_iff.mp hx).1
            rw [List.length_append, List.length_singleton] at this
            omega
          subst ej
          rw [List.getElem?_append_right (by omega), hk, Nat.sub_self] at hx
          cases hx
          rw [hrd]
          have hb2 : (round row us).blocks = blocksOf row := by
            unfold round
            simp only
            split <;> rfl
          exact RoundAt.mut ⟨t2, lf, pp, bs, cs, upd_same, u_old h5 hq, by rw [hb2]; exact atPs_same (s9.trans (L2.Same.new hq)) a6, u_old h2 hq, u_old h3 hq, atPs_same (L2.Same.new hq) h4⟩ hqL trivial
      have hrsl : rs.length < 1000 := by omega
      walk_at "T"
      refine t_iteD (fun h1 => ?_) (fun h1 => ?_)
      · have h1' : 1 < (blockRow row us).length := by omega
        have ery := round_yes (us := us) h1'
        have hbl := block_le row us
        have s7 : Same H6 (upd (upd (upd H6 w1 (.tup [])) w2 (.tup [])) w3 (.tup [.ref w1, .ref w2])) := ((L2.Same.new hw1).upd hw2).upd hw3
        generalize upd (upd (upd H6 w1 (.tup [])) w2 (.tup [])) w3 (.tup [.ref w1, .ref w2]) = H7 at s7
        have e71 := s7 _ _ e61
        walk_at "T"
        refine ⟨_, rfl, t1, blockRow row us, rfl, SqT.of e71, by omega, fun lf H8 s8 e8 => ?_⟩
        walk_at "T"
        refine c_row_pairsN (s8 _ _ e71) (SqT.of e8) (by omega) fun u u1 u2 cs H9 s9 g g1 g2 g3 => ?_
        refine g_tup (xs := [.ref u1, .ref u2, .int (us + ((blocksOf row).length : Nat) + ((LM.pairsOf (blockRow row us) (inL (leftNums (blockRow row us)))).length : Nat))]) (SqT.of g) rfl ?_
        have hL9 : H9 L = some (.lst (rs.map V.ref)) := s9 _ _ (s8 _ _ (s7 _ _ (s6 _ _ hL5)))
        walk_at "T"
        rename_i q hq
        refine r_app (u_old hL9 hq) (by rw [List.length_map, sizeLine_eq]; omega) ?_
        walk_at "T"
        refine fin u1 lf u2 q cs _ H9 ?_ ((s7.trans s8).trans s9) hq ?_ ?_ g2 ?_
        · rw [ery]
          rfl
        · rw [ery]
          exact g1
        · rw [ery]
          exact s9 _ _ e8
        · rw [ery]
          exact g3
      · have h1' : ¬ 1 < (blockRow row us).length := by omega
        have ern := round_no (us := us) h1'
        have s7 : Same H6 (upd (upd (upd H6 w1 (.tup [])) w2 (.tup [])) w3 (.tup [.ref w1, .ref w2])) := ((L2.Same.new hw1).upd hw2).upd hw3
        have f1 : upd (upd (upd H6 w1 (.tup [])) w2 (.tup [])) w3 (.tup [.ref w1, .ref w2]) w1 = some (.tup []) := u_old (u_old upd_same hw2) hw3
        have f2 : upd (upd (upd H6 w1 (.tup [])) w2 (.tup [])) w3 (.tup [.ref w1, .ref w2]) w2 = some (.tup []) := u_old upd_same hw3
        generalize upd (upd (upd H6 w1 (.tup [])) w2 (.tup [])) w3 (.tup [.ref w1, .ref w2]) = H7 at s7 f1 f2
        have hL7 : H7 L = some (.lst (rs.map V.ref)) := s7 _ _ (s6 _ _ hL5)
        walk_at "T"
        rename_i q hq
        refine r_app (u_old hL7 hq) (by rw [List.length_map, sizeLine_eq]; omega) ?_
        walk_at "T"
        refine fin t1 w1 w2 q [] _ H7 ?_ s7 hq ?_ ?_ f2 ?_
        · rw [ern]
        · rw [ern]
          exact s7 _ _ e61
        · rw [ern]
          exact f1
        · rw [ern]
          exact .nil
    · have s45 := s04.trans s5
      have ea5 := s5 _ _ ea4
      walk_at "T"
      refine r_tupL (SqL.of hL5) fun b hb => ?_
      have hlt' : ¬ 1 < (rowAt (rowOf l) (usOf l) rs.length).1.length := by rw [hk]; omega
      have fin : ∀ (t : Addr) (z : V), upd H5 b (.tup (rs.map V.ref)) t = none → z = lastV (rowAt (rowOf l) (usOf l) rs.length).1 → Q (.ref t) (upd (upd H5 b (.tup (rs.map V.ref))) t (.tup [.ref a, .ref b, z])) := by
        intro t z ht hz
        subst hz
        refine q t _ ((s45.upd hb).upd ht) ⟨a, b, rs, upd_same, .inr ⟨ob, u_old (u_old ea5 hb) ht⟩, u_old upd_same ht, fun j x hx => ((hrs j x hx).same (L2.Same.new hb)).same (L2.Same.new ht), fun j hj => hall j (by omega), hlt'⟩
      rw [hk] at fin
      have sr6 : SqT K (upd H5 b (.tup (rs.map V.ref))) r ((rowAt (rowOf l) (usOf l) k).1.map V.int) := SqT.of (u_old hr5 hb)
      walk_at "T"
      refine t_truT sr6 ?_
      cases hrow : (rowAt (rowOf l) (usOf l) k).1 with
      | nil =>
        rw [hrow] at fin
        show if false = true then _ else _
        walk_at "T"
        exact fin _ _ (by assumption) rfl
      | cons x xs =>
        rw [hrow] at fin sr6
        show if true = true then _ else _
        walk_at "T"
        refine r_ixT sr6 (atI_nat (j := 0) rfl) ?_
        walk_at "T"
        exact fin _ _ (by assumption) rfl
end K15

end
section
set_option Elab.async false
set_option linter.all false
set_option maxRecDepth 100000
set_option maxHeartbeats 4000000
namespace K15
open PySem hiding Tree
open PySem.Spec PyProof.Rows L2 LW LM LV
/-! ### steps of a reading, heaps: short tactics -/
local macro_rules | `(tactic| walk_at "ne") => `(tactic| first
  | assumption
  | (apply Ne.symm; assumption)
  | exact ne_none (by assumption) (by assumption)
  | exact (ne_none (by assumption) (by assumption)).symm
  | exact ne_of (by assumption) (by assumption) (by intro z; cases z))
local macro_rules | `(tactic| walk_at "hp") => `(tactic| first
  | assumption
  | with_reducible exact upd_same
  | ((first
      | with_reducible refine u_old ?_ (by assumption)
      | with_reducible refine u_oth (by walk_at "ne") ?_
      | with_reducible refine same_app (by assumption) ?_
      | with_reducible refine kb_app (by assumption) (by walk_at "ne") ?_); walk_at "hp")
  | ((with_reducible refine u_kind ?h (by assumption) ?d); (case h => walk_at "hp"); (case d => (intro z; cases z))))
local macro_rules | `(tactic| walk_at "sq") => `(tactic| first
  | assumption
  | exact SqL.of (by walk_at "hp")
  | exact SqT.of (by walk_at "hp")
  | (with_reducible refine same_sqT (by assumption) ?_; walk_at "sq")
  | (with_reducible refine same_sqL (by assumption) ?_; walk_at "sq")
  | (with_reducible refine new_sqT (by assumption) ?_; walk_at "sq")
  | (with_reducible refine new_sqL (by assumption) ?_; walk_at "sq")
  | ((with_reducible refine mut_sqT (u := ?uu) ?hd ?hm ?_); (case hd => walk_at "hp"); (case hm => exact trivial); walk_at "sq"))
local macro_rules | `(tactic| walk_at "rd") => `(tactic| first
  | assumption
  | exact .inl (by walk_at "hp")
  | exact .inr ⟨_, by walk_at "hp"⟩)
local macro_rules | `(tactic| walk_at "s") => `(tactic| first
  | with_reducible refine s_seq ?_
  | with_reducible refine s_asg ?_
  | with_reducible refine g_name ?_
  | ((with_reducible refine e_var (v := ?vv) ?hv ?_); (case hv => rfl))
  | with_reducible refine e_c ?_
  | with_reducible refine e_op ?_
  | with_reducible refine a_cons ?_
  | with_reducible refine a_nil ?_
  | with_reducible refine e_cb ?_
  | with_reducible refine e_call ?_
  | with_reducible refine e_callK ?_
  | with_reducible refine s_ret ?_
  | with_reducible refine s_retN ?_
  | with_reducible refine s_drop ?_
  | with_reducible refine s_ifs ?_
  | with_reducible refine s_next ?_
  | with_reducible refine s_cont ?_
  | with_reducible refine s_brk ?_
  | with_reducible refine s_par ?_
  | with_reducible refine s_par3 ?_
  | with_reducible refine e_un ?_
  | with_reducible refine e_if ?_
  | with_reducible refine e_andV ?_
  | with_reducible refine e_orV ?_
  | with_reducible refine e_notV ?_
  | with_reducible refine e_dget ?_
  | with_reducible refine e_dget2 ?_
  | with_reducible refine e_din ?_
  | with_reducible refine e_dnotin ?_
  | with_reducible refine e_then ?_
  | with_reducible refine e_bm ?_
  | with_reducible refine e_bm0 ?_
  | with_reducible refine e_sl ?_
  | with_reducible refine o_none ?_
  | with_reducible refine o_part ?_
  | with_reducible refine g_sub ?_
  | with_reducible refine g_nil ?_
  | with_reducible refine g_cons ?_
  | with_reducible refine t_test ?_
  | with_reducible refine t_B ?_
  | with_reducible refine t_and ?_
  | with_reducible refine t_or ?_
  | with_reducible refine t_not ?_
  | ((with_reducible refine r_ixI (ns := ?ns) ?hs ?h0 ?h1 ?_); (case hs => walk_at "sq"); (case h0 => omega); (case h1 => omega))
  | ((with_reducible refine r_ixL (xs := ?xs) (v := ?vv) ?hs ?hi ?_); (case hs => walk_at "sq"); (case hi => rfl))
  | ((with_reducible refine r_ixT (xs := ?xs) (v := ?vv) ?hs ?hi ?_); (case hs => walk_at "sq"); (case hi => rfl))
  | ((with_reducible refine g_setL (xs := ?xs) (j := ?jj) ?hp ?hj ?_); (case hp => walk_at "hp"); (case hj => rfl))
  | ((with_reducible refine r_mul ?hc ?_); (case hc => first | exact .inr (by decide) | exact .inl (by decide) | exact .inl ⟨by omega, by omega⟩ | exact .inr ⟨by omega, by omega⟩))
  | ((with_reducible refine r_mod ?hc ?_); (case hc => first | decide | omega))
  | ((with_reducible refine r_fdivN ?hc ?_); (case hc => exact ⟨by first | decide | omega, by first | decide | omega⟩))
  | ((with_reducible refine r_pow ?hc ?_); (case hc => first | decide | exact ⟨by decide, by decide⟩ | (unfold CPow; decide)))
  | ((with_reducible refine r_lenI (ns := ?ns) ?hs ?_); (case hs => walk_at "sq"))
  | ((with_reducible refine r_lenTI (ns := ?ns) ?hs ?_); (case hs => walk_at "sq"))
  | ((with_reducible refine r_lenL (xs := ?xs) ?hs ?_); (case hs => walk_at "sq"))
  | ((with_reducible refine r_lenT (xs := ?xs) ?hs ?_); (case hs => walk_at "sq"))
  | ((with_reducible refine r_tyL (xs := ?xs) ?hs ?_); (case hs => walk_at "sq"))
  | with_reducible refine r_add ?_
  | with_reducible refine r_sub ?_
  | with_reducible refine r_lt ?_
  | with_reducible refine r_le ?_
  | with_reducible refine r_gt ?_
  | with_reducible refine r_ge ?_
  | with_reducible refine r_eqI ?_
  | with_reducible refine r_neI ?_
  | with_reducible refine r_int ?_
  | with_reducible refine r_intb ?_
  | with_reducible refine r_neg ?_
  | with_reducible refine r_max2 ?_
  | with_reducible refine r_min2 ?_
  | with_reducible refine c_sp1 ?_
  | with_reducible refine c_sp2 ?_
  | with_reducible refine c_sp3 ?_
  | with_reducible refine c_sp4 ?_
  | with_reducible refine c_sp5 ?_
  | with_reducible refine t_end ?_
  | with_reducible refine o_part_end ?_
  | ((with_reducible refine s_aug (x := ?xx) ?hx ?_); (case hx => rfl))
  | with_reducible refine s_for ?_
  | with_reducible refine i_list ?_
  | with_reducible refine i_tup ?_
  | with_reducible refine i_rng1 ?_
  | with_reducible refine i_rng2 ?_
  | with_reducible refine i_keys ?_
  | with_reducible refine i_items ?_
  | with_reducible refine i_zip2 ?_
  | with_reducible refine i_enum2 ?_
  | ((with_reducible refine i_rng1E ?h1 ?h2 ?_); (case h1 => omega); (case h2 => omega))
  | ((with_reducible refine i_rng2E ?h1 ?_); (case h1 => omega))
  | ((with_reducible refine i_listE (xs := ?xs) ?hs ?_); (case hs => walk_at "sq"))
  | ((with_reducible refine i_tupE (xs := ?xs) ?hs ?_); (case hs => walk_at "sq"))
  | ((with_reducible refine q_isD ?hi ?_); (case hi => first | exact isD_K (by walk_at "rd") | exact isD_T (by walk_at "rd")))
  | with_reducible refine q_ref ?_
  | with_reducible refine e_dnewK ?_
  | with_reducible refine e_dnewT ?_
  | with_reducible refine e_tup ?_
  | with_reducible refine e_lst ?_
  | ((with_reducible refine r_new ?hn ?_); (case hn => exact Nat.le_of_ble_eq_true rfl))
  | with_reducible refine r_fresh fun _ _ => ?_
  | with_reducible refine s_par_end ?_
  | with_reducible refine s_par3_end ?_
  | with_reducible refine e_lc ?_
  | with_reducible refine e_dc ?_
  | with_reducible refine e_dcT ?_
  | with_reducible refine t_tyes ?_
  | with_reducible refine t_tt ?_
  | with_reducible refine t_ff ?_
  | with_reducible refine c_wipe rfl ?_)
local macro_rules | `(tactic| walk_at "S") => `(tactic| repeat' first | walk_at "s" | with_reducible refine s_dput ?_)
local macro_rules | `(tactic| walk_at "T") => `(tactic| repeat' walk_at "s")

/-! ### _law_trees -/
theorem w_rngC {lo c : Int} {n : Nat} : Walks (L2.Itc lo c n) n (fun _ => True) fun i H x H' => H' = H ∧ x = .int (lo + (i : Nat) * c) where
  go i H hi h := hi
  stop H h := Nat.le_refl _
  yld i H x H' hi h y := y
theorem i_rng3 {aa : TA} {σ : L2.St} {H : Hp} {R : It → Hp → Prop} (h : aa σ H fun vs H1 => ∃ (i j c : Int) (n : Nat), vs = [.int i, .int j, .int c] ∧ RgC i j c n ∧ R (L2.Itc i c n) H1) : L2.iRng3 aa σ H R := h
theorem i_rng3E {i j : Int} {R : Int → Int → Nat → Prop} (h1 : -(2 ^ 62) ≤ i ∧ i < 2 ^ 62 ∧ -(2 ^ 62) ≤ j ∧ j < 2 ^ 62) (h : R i (-1) (i - j).toNat) : ∃ (i' j' c : Int) (n : Nat), [V.int i, V.int j, V.int (-1)] = [.int i', .int j', .int c] ∧ RgC i' j' c n ∧ R i' c n := ⟨i, j, -1, _, rfl, RgC.neg h1.1 h1.2.1 h1.2.2.1 h1.2.2.2, h⟩
mutual
theorem treeAt_mut {H : Hp} {q : Addr} {o : HO} {zs : List V} (hq : H q = some (.lst zs)) : ∀ {v : V} {t : Tree}, TreeAt H v t → TreeAt (upd H q o) v t
  | _, _, .mk h1 h2 h3 => .mk (u_oth (fun e => by subst e; rw [hq] at h1; cases h1) h1) (u_oth (fun e => by subst e; rw [hq] at h2; cases h2) h2) (treesAt_mut hq h3)
theorem treesAt_mut {H : Hp} {q : Addr} {o : HO} {zs : List V} (hq : H q = some (.lst zs)) : ∀ {vs : List V} {ts : List Tree}, TreesAt H vs ts → TreesAt (upd H q o) vs ts
  | _, _, .nil => .nil
  | _, _, .cons h1 h2 => .cons (treeAt_mut hq h1) (treesAt_mut hq h2)
end
theorem trees_len {H : Hp} : ∀ {vs : List V} {ts : List Tree}, TreesAt H vs ts → vs.length = ts.length
  | _, _, .nil => rfl
  | _, _, .cons _ h => congrArg (· + 1) (trees_len h)
theorem forest_len : ∀ (l : Doc) (j : Nat), (forestR l j).length ≤ l.length
  | [], _ => Nat.le_refl _
  | (d, n) :: l, j => by
    show (stepF (forestR l) d.toNat n j).length ≤ l.length + 1
    unfold LM.stepF
    split
    · exact Nat.zero_le _
    · split
      · exact Nat.succ_le_succ (forest_len l _)
      · exact Nat.le_succ_of_le (forest_len l _)
structure RowsAt (H : Hp) (D : Addr) (as : List Addr) (R : Nat → List Tree) : Prop where
  len : as.length = 62
  at' : H D = some (.lst (as.map V.ref))
  row : ∀ j a, as[j]? = some a → a ≠ D ∧ ∃ vs, H a = some (.lst vs) ∧ TreesAt H vs (R j)
theorem RowsAt.new {H : Hp} {D p : Addr} {as : List Addr} {R : Nat → List Tree} {o : HO} (W : RowsAt H D as R) (hp : H p = none) : RowsAt (upd H p o) D as R :=
  ⟨W.len, u_old W.at' hp, fun j a h => let ⟨x, vs, y, z⟩ := W.row j a h; ⟨x, vs, u_old y hp, z.same (L2.Same.new hp)⟩⟩
theorem RowsAt.set {H : Hp} {D q : Addr} {as : List Addr} {R : Nat → List Tree} {j : Nat} {vs : List V} {ts : List Tree} (W : RowsAt H D as R) (hq : H q = some (.lst vs)) (hqD : q ≠ D) (ht : TreesAt H vs ts) : RowsAt (upd H D (.lst ((as.map V.ref).set j (.ref q)))) D (as.set j q) fun i => if i = j then ts else R i := by
  refine ⟨by rw [List.length_set]; exact W.len, by rw [upd_same, List.map_set], fun i a h => ?_⟩
  by_cases e : i = j
  · subst e
    rw [List.getElem?_set] at h
    rw [if_pos rfl]
    have hl : i < as.length := by
      apply Classical.byContradiction
      intro z
      simp [z] at h
    rw [if_pos rfl, if_pos hl] at h
    cases h
    exact ⟨hqD, vs, u_oth hqD hq, treesAt_mut W.at' ht⟩
  · rw [if_neg e]
    rw [List.getElem?_set_ne (fun z => e z.symm)] at h
    obtain ⟨x, vs, y, z⟩ := W.row i a h
    exact ⟨x, vs, u_oth x y, treesAt_mut W.at' z⟩
def sp_trees (K : PySem.W.Frag) : Sp := fun vs H Q _ => ∃ (a b : Addr) (l : Doc), vs = [.ref a, .ref b] ∧ H a = some (.lst ((l.map (·.1)).map V.int)) ∧ H b = some (.lst ((l.map (·.2)).map V.str)) ∧ (∀ p ∈ l, 0 ≤ p.1 ∧ p.1 ≤ 60) ∧ l.length ≤ 62 ∧
  ∀ (t : Addr) (ts : List V) H', Same H H' → H' t = some (.tup ts) → TreesAt H' ts (forestR l 0) → Q (.ref t) H'
theorem c_trees {K : PySem.W.Frag} {H : Hp} {a b : Addr} {l : Doc} {Q : VK} {E : XK} (ha : H a = some (.lst ((l.map (·.1)).map V.int))) (hb : H b = some (.lst ((l.map (·.2)).map V.str))) (h0 : ∀ p ∈ l, 0 ≤ p.1 ∧ p.1 ≤ 60) (hl : l.length ≤ 62)
    (h : ∀ (t : Addr) (ts : List V) H', Same H H' → H' t = some (.tup ts) → TreesAt H' ts (forestR l 0) → Q (.ref t) H') : sp_trees K ([.ref a, .ref b] ++ []) H Q E := ⟨a, b, l, rfl, ha, hb, h0, hl, h⟩
abbrev n__law_trees : List Str := ["depths", "names", "k", "rows", "children"]
def t__law_trees (K : PySem.W.Frag) (w : World) : TS :=
  (tSeq (tAsg (tLc (iRng1 (tCons (tC (.int 62)) tNil)) (gName 2) tYes (tLst tNil) [2]) (gName 3))
    (tSeq (tFor (iRng3 (tCons (tOp oSub (tCB (oLen K) (tCons (tVar 0) tNil)) (tC (.int 1))) (tCons (tUn oNeg (tC (.int 1))) (tCons (tUn oNeg (tC (.int 1))) tNil)))) (gName 2)
    (tSeq (tAsg (tOp (rIxL K) (tVar 3) (tOp oAdd (tOp (rIxL K) (tVar 0) (tVar 2)) (tC (.int 1)))) (gName 4))
    (tSeq (tAsg (tLst tNil) (gSub (tVar 3) (tOp oAdd (tOp (rIxL K) (tVar 0) (tVar 2)) (tC (.int 1))) rSetL))
    (tAsg (tOp rCat (tLst (tCons (tTup (tCons (tOp (rIxL K) (tVar 1) (tVar 2)) (tCons (tThen (tVar 4) (kTup K)) tNil))) tNil)) (tOp (rIxL K) (tVar 3) (tOp (rIxL K) (tVar 0) (tVar 2)))) (gSub (tVar 3) (tOp (rIxL K) (tVar 0) (tVar 2)) rSetL)))))
    (tRet (tThen (tOp (rIxL K) (tVar 3) (tC (.int 0))) (kTup K)))))
theorem r_trees {K : PySem.W.Frag} {w : World} (vs : List V) (H : Hp) (Q : VK) (E : XK) (h : sp_trees K vs H Q E) : t__law_trees K w { nx := fun _ H' => Q .non H', rt := Q } (start n__law_trees vs) H := by
  obtain ⟨a, b, l, rfl, ha, hb, h0, hl, q⟩ := h
  unfold t__law_trees
  walk_at "T"
  rename_i D hD
  refine lc_w (w_rng (lo := 0) (n := 62)) (fun i H' => Same H H' ∧ ∃ as : List Addr, as.length = i ∧ H' D = some (.lst (as.map V.ref)) ∧ ∀ a ∈ as, a ≠ D ∧ H' a = some (.lst [])) ⟨L2.Same.new hD, [], rfl, upd_same, fun _ h => nomatch h⟩ (fun _ _ _ _ => trivial) ?_ ?_
  · rintro i _ x H' hi ⟨s1, as, hl1, e1, hz⟩ ⟨rfl, rfl⟩
    walk_at "T"
    rename_i e he
    refine ⟨_, u_old e1 he, by rw [List.length_map, sizeLine_eq]; omega, (s1.upd he).mut hD, as ++ [e], by rw [List.length_append, hl1]; rfl, by rw [upd_same, List.map_append]; rfl, fun c hc => ?_⟩
    have neD : e ≠ D := (ne_none he e1).symm
    rcases List.mem_append.mp hc with hc | hc
    · exact ⟨(hz c hc).1, u_oth (hz c hc).1 (u_old (hz c hc).2 he)⟩
    · rw [List.mem_singleton.mp hc]
      exact ⟨neD, u_oth neD upd_same⟩
  · rintro H1 ⟨s1, as, hl1, e1, hz⟩
    walk_at "T"
    refine i_rng3 ?_
    have lma : ((l.map (·.1)).length : Int) = (l.length : Nat) := by rw [List.length_map]
    have sa1 : SqL K H1 a ((l.map (·.1)).map V.int) := SqL.of (s1 _ _ ha)
    walk_at "T"
    rw [lma]
    refine i_rng3E (by omega) ?_
    rw [show ((l.length : Int) - 1 - -1).toNat = l.length by omega]
    clear lma sa1
    have hD0 := hD
    refine for_w w_rngC (fun i σ H' => ∃ (y2 y4 : Option V) (bs : List Addr), σ = [some (.ref a), some (.ref b), y2, some (.ref D), y4] ∧ Same H H' ∧ RowsAt H' D bs (forestR (l.drop (l.length - i))))
      ⟨_, _, as, rfl, s1, hl1, e1, fun j c hc => ?_⟩ (fun _ _ _ _ _ => trivial) ?_ ?_
    · have hm := hz c (mem_of_get hc)
      refine ⟨hm.1, [], hm.2, ?_⟩
      rw [Nat.sub_zero, List.drop_length]
      exact .nil
    · rintro i σ _ y H' hi ⟨y2, y4, bs, rfl, s2, W⟩ ⟨rfl, rfl⟩
      obtain ⟨kk, hkk⟩ : ∃ kk, l.length - i = kk + 1 := ⟨l.length - i - 1, by omega⟩
      have hkl : kk < l.length := by omega
      rw [show ((l.length : Int) - 1 + (i : Int) * -1) = ((kk : Nat) : Int) by omega]
      rw [show l.length - (i + 1) = kk by omega]
      rw [hkk] at W
      obtain ⟨⟨d, n⟩, edn⟩ : ∃ p, l[kk]? = some p := ⟨_, List.getElem?_eq_getElem hkl⟩
      have hdn := h0 _ (mem_of_get edn)
      obtain ⟨d, rfl⟩ := Int.eq_ofNat_of_zero_le hdn.1
      have hd60 : d ≤ 60 := by
        have := hdn.2
        show d ≤ 60
        have h2 : ((d : Nat) : Int) ≤ 60 := this
        omega
      have hdrop : forestR (l.drop kk) = stepF (forestR (l.drop (kk + 1))) d n := by
        rw [List.drop_eq_getElem_cons hkl, (List.getElem?_eq_some_iff.mp edn).2]
        rfl
      rw [hdrop]
      have hRl := forest_len (l.drop (kk + 1)) d
      rw [List.length_drop] at hRl
      generalize forestR (l.drop (kk + 1)) = R at W hRl
      have xa : ((l.map (·.1)).map V.int)[kk]? = some (.int (d : Int)) := by
        rw [List.getElem?_map, List.getElem?_map, edn]
        rfl
      have xb : ((l.map (·.2)).map V.str)[kk]? = some (.str n) := by
        rw [List.getElem?_map, List.getElem?_map, edn]
        rfl
      have ea2 := s2 _ _ ha
      have eb2 := s2 _ _ hb
      have hbl := W.len
      obtain ⟨a1, ea1⟩ : ∃ x, bs[d + 1]? = some x := ⟨_, List.getElem?_eq_getElem (by omega)⟩
      obtain ⟨a0, ea0⟩ : ∃ x, bs[d]? = some x := ⟨_, List.getElem?_eq_getElem (by omega)⟩
      have x1 : (bs.map V.ref)[d + 1]? = some (.ref a1) := by rw [List.getElem?_map, ea1]; rfl
      have x0 : (bs.map V.ref)[d]? = some (.ref a0) := by rw [List.getElem?_map, ea0]; rfl
      obtain ⟨n1, vs1, f1, g1⟩ := W.row _ _ ea1
      obtain ⟨n0, vs0, f0, g0⟩ := W.row _ _ ea0
      walk_at "T"
      refine r_ixL (SqL.of ea2) (atI_nat xa) ?_
      walk_at "T"
      refine r_ixL (SqL.of W.at') (atI_nat (j := d + 1) x1) ?_
      walk_at "T"
      rename_i e he
      have neD : e ≠ D := (ne_none he W.at').symm
      refine r_ixL (SqL.of (u_old ea2 he)) (atI_nat xa) ?_
      walk_at "T"
      refine g_setL (xs := bs.map V.ref) (j := d + 1) (u_old W.at' he) (by rw [ix_nn (by omega) (by rw [List.length_map]; omega)]; congr 1) ?_
      have W1 := (W.new (o := .lst []) he).set (j := d + 1) (vs := []) (ts := []) upd_same neD .nil
      have s3 : Same H (upd (upd H' e (.lst [])) D (.lst ((bs.map V.ref).set (d + 1) (.ref e)))) := (s2.upd he).mut hD0
      have f3 : upd (upd H' e (.lst [])) D (.lst ((bs.map V.ref).set (d + 1) (.ref e))) a1 = some (.lst vs1) := u_oth n1 (u_old f1 he)
      have g3 : TreesAt (upd (upd H' e (.lst [])) D (.lst ((bs.map V.ref).set (d + 1) (.ref e)))) vs1 (R (d + 1)) := treesAt_mut (u_old W.at' he) (g1.same (L2.Same.new he))
      have ea0' : (bs.set (d + 1) e)[d]? = some a0 := by rw [List.getElem?_set_ne (by omega)]; exact ea0
      have x0' : ((bs.set (d + 1) e).map V.ref)[d]? = some (.ref a0) := by rw [List.getElem?_map, ea0']; rfl
      have hbl2 : (bs.set (d + 1) e).length = 62 := W1.len
      generalize upd (upd H' e (.lst [])) D (.lst ((bs.map V.ref).set (d + 1) (.ref e))) = H7 at W1 s3 f3 g3
      generalize bs.set (d + 1) e = bs1 at W1 ea0' x0' hbl2
      obtain ⟨_, vs4, f4, g4⟩ := W1.row _ _ ea0'
      have g4' : TreesAt H7 vs4 (R d) := by
        have := g4
        rw [if_neg (by omega)] at this
        exact this
      have ea3 := s3 _ _ ha
      have eb3 := s3 _ _ hb
      walk_at "T"
      refine r_ixL (SqL.of eb3) (atI_nat xb) ?_
      walk_at "T"
      refine r_tupL (SqL.of f3) fun c hc => ?_
      walk_at "T"
      rename_i t ht u hu
      have W2 := ((W1.new (o := .tup vs1) hc).new (o := .tup [.str n, .ref c]) ht).new (o := .lst [.ref t]) hu
      have s5 : Same H7 (upd (upd (upd H7 c (.tup vs1)) t (.tup [.str n, .ref c])) u (.lst [.ref t])) := ((L2.Same.new hc).upd ht).upd hu
      have tr : TreeAt (upd (upd (upd H7 c (.tup vs1)) t (.tup [.str n, .ref c])) u (.lst [.ref t])) (.ref t) (.mk n (R (d + 1))) := .mk (u_old upd_same hu) (u_old (u_old upd_same ht) hu) (g3.same s5)
      have f5 : upd (upd (upd H7 c (.tup vs1)) t (.tup [.str n, .ref c])) u (.lst [.ref t]) u = some (.lst [.ref t]) := upd_same
      show rIxL K _ _ (upd (upd (upd H7 c (.tup vs1)) t (.tup [.str n, .ref c])) u (.lst [.ref t])) _
      generalize upd (upd (upd H7 c (.tup vs1)) t (.tup [.str n, .ref c])) u (.lst [.ref t]) = H8 at W2 s5 tr f5
      have f6 := s5 _ _ f4
      have g6 := g4'.same s5
      have ea5 := s5 _ _ ea3
      refine r_ixL (SqL.of ea5) (atI_nat xa) ?_
      walk_at "T"
      refine r_ixL (SqL.of W2.at') (atI_nat x0') ?_
      refine r_cat f5 f6 (by have := trees_len g4'; show 1 + vs4.length ≤ _; omega) fun z hz => ?_
      walk_at "T"
      refine r_ixL (SqL.of (u_old ea5 hz)) (atI_nat xa) ?_
      have W3 := W2.new (o := .lst ([.ref t] ++ vs4)) hz
      have nzD : z ≠ D := (ne_none hz W2.at').symm
      refine g_setL (xs := bs1.map V.ref) (j := d) W3.at' (by rw [ix_nn (by omega) (by rw [List.length_map]; omega)]; congr 1) ?_
      have W4 := W3.set (j := d) (q := z) (vs := [.ref t] ++ vs4) (ts := .mk n (R (d + 1)) :: R d) upd_same nzD (.cons (tr.same (L2.Same.new hz)) (g6.same (L2.Same.new hz)))
      refine ⟨_, _, bs1.set d z, rfl, ((s3.trans s5).upd hz).mut hD0, ?_⟩
      have eR : stepF R d n = fun i => if i = d then .mk n (R (d + 1)) :: R d else if i = d + 1 then [] else R i := by
        funext i
        unfold LM.stepF
        by_cases e1 : i = d
        · rw [if_neg (by omega), if_pos e1, if_pos e1]
        · by_cases e2 : i = d + 1
          · rw [if_pos e2, if_neg e1, if_pos e2]
          · rw [if_neg e2, if_neg e1, if_neg e1, if_neg e2]
      rw [eR]
      exact W4
    · rintro σ H' ⟨y2, y4, bs, rfl, s2, W⟩
      rw [Nat.sub_self, List.drop_zero] at W
      obtain ⟨a0, ea0⟩ : ∃ x, bs[0]? = some x := ⟨_, List.getElem?_eq_getElem (by rw [W.len]; decide)⟩
      obtain ⟨n0, vs0, f0, g0⟩ := W.row _ _ ea0
      walk_at "T"
      refine r_ixL (SqL.of W.at') (atI_nat (j := 0) (by rw [List.getElem?_map, ea0]; rfl)) ?_
      refine r_tupL (SqL.of f0) fun t ht => ?_
      walk_at "T"
      exact q t vs0 _ (s2.upd ht) upd_same (g0.same (L2.Same.new ht))
end K15

end
section
set_option Elab.async false
set_option linter.all false
set_option maxRecDepth 100000
set_option maxHeartbeats 4000000
namespace K15
open PySem hiding Tree
open PySem.Spec PyProof.Rows L2 LW LM LV
/-! ### steps of a reading, heaps: short tactics -/
local macro_rules | `(tactic| walk_at "ne") => `(tactic| first
  | assumption
  | (apply Ne.symm; assumption)
  | exact ne_none (by assumption) (by assumption)
  | exact (ne_none (by assumption) (by assumption)).symm
  | exact ne_of (by assumption) (by assumption) (by intro z; cases z))
local macro_rules | `(tactic| walk_at "hp") => `(tactic| first
  | assumption
  | with_reducible exact upd_same
  | ((first
      | with_reducible refine u_old ?_ (by assumption)
      | with_reducible refine u_oth (by walk_at "ne") ?_
      | with_reducible refine same_app (by assumption) ?_
      | with_reducible refine kb_app (by assumption) (by walk_at "ne") ?_); walk_at "hp")
  | ((with_reducible refine u_kind ?h (by assumption) ?d); (case h => walk_at "hp"); (case d => (intro z; cases z))))
local macro_rules | `(tactic| walk_at "sq") => `(tactic| first
  | assumption
  | exact SqL.of (by walk_at "hp")
  | exact SqT.of (by walk_at "hp")
  | (with_reducible refine same_sqT (by assumption) ?_; walk_at "sq")
  | (with_reducible refine same_sqL (by assumption) ?_; walk_at "sq")
  | (with_reducible refine new_sqT (by assumption) ?_; walk_at "sq")
  | (with_reducible refine new_sqL (by assumption) ?_; walk_at "sq")
  | ((with_reducible refine mut_sqT (u := ?uu) ?hd ?hm ?_); (case hd => walk_at "hp"); (case hm => exact trivial); walk_at "sq"))
local macro_rules | `(tactic| walk_at "rd") => `(tactic| first
  | assumption
  | exact .inl (by walk_at "hp")
  | exact .inr ⟨_, by walk_at "hp"⟩)
local macro_rules | `(tactic| walk_at "s") => `(tactic| first
  | with_reducible refine s_seq ?_
  | with_reducible refine s_asg ?_
  | with_reducible refine g_name ?_
  | ((with_reducible refine e_var (v := ?vv) ?hv ?_); (case hv => rfl))
  | with_reducible refine e_c ?_
  | with_reducible refine e_op ?_
  | with_reducible refine a_cons ?_
  | with_reducible refine a_nil ?_
  | with_reducible refine e_cb ?_
  | with_reducible refine e_call ?_
  | with_reducible refine e_callK ?_
  | with_reducible refine s_ret ?_
  | with_reducible refine s_retN ?_
  | with_reducible refine s_drop ?_
  | with_reducible refine s_ifs ?_
  | with_reducible refine s_next ?_
  | with_reducible refine s_cont ?_
  | with_reducible refine s_brk ?_
  | with_reducible refine s_par ?_
  | with_reducible refine s_par3 ?_
  | with_reducible refine e_un ?_
  | with_reducible refine e_if ?_
  | with_reducible refine e_andV ?_
  | with_reducible refine e_orV ?_
  | with_reducible refine e_notV ?_
  | with_reducible refine e_dget ?_
  | with_reducible refine e_dget2 ?_
  | with_reducible refine e_din ?_
  | with_reducible refine e_dnotin ?_
  | with_reducible refine e_then ?_
  | with_reducible refine e_bm ?_
  | with_reducible refine e_bm0 ?_
  | with_reducible refine e_sl ?_
  | with_reducible refine o_none ?_
  | with_reducible refine o_part ?_
  | with_reducible refine g_sub ?_
  | with_reducible refine g_nil ?_
  | with_reducible refine g_cons ?_
  | with_reducible refine t_test ?_
  | with_reducible refine t_B ?_
  | with_reducible refine t_and ?_
  | with_reducible refine t_or ?_
  | with_reducible refine t_not ?_
  | ((with_reducible refine r_ixI (ns := ?ns) ?hs ?h0 ?h1 ?_); (case hs => walk_at "sq"); (case h0 => omega); (case h1 => omega))
  | ((with_reducible refine r_ixL (xs := ?xs) (v := ?vv) ?hs ?hi ?_); (case hs => walk_at "sq"); (case hi => rfl))
  | ((with_reducible refine r_ixT (xs := ?xs) (v := ?vv) ?hs ?hi ?_); (case hs => walk_at "sq"); (case hi => rfl))
  | ((with_reducible refine g_setL (xs := ?xs) (j := ?jj) ?hp ?hj ?_); (case hp => walk_at "hp"); (case hj => rfl))
  | ((with_reducible refine r_mul ?hc ?_); (case hc => first | exact .inr (by decide) | exact .inl (by decide) | exact .inl ⟨by omega, by omega⟩ | exact .inr ⟨by omega, by omega⟩))
  | ((with_reducible refine r_mod ?hc ?_); (case hc => first | decide | omega))
  | ((with_reducible refine r_fdivN ?hc ?_); (case hc => exact ⟨by first | decide | omega, by first | decide | omega⟩))
  | ((with_reducible refine r_pow ?hc ?_); (case hc => first | decide | exact ⟨by decide, by decide⟩ | (unfold CPow; decide)))
  | ((with_reducible refine r_lenI (ns := ?ns) ?hs ?_); (case hs => walk_at "sq"))
  | ((with_reducible refine r_lenTI (ns := ?ns) ?hs ?_); (case hs => walk_at "sq"))
  | ((with_reducible refine r_lenL (xs := ?xs) ?hs ?_); (case hs => walk_at "sq"))
  | ((with_reducible refine r_lenT (xs := ?xs) ?hs ?_); (case hs => walk_at "sq"))
  | ((with_reducible refine r_tyL (xs := ?xs) ?hs ?_); (case hs => walk_at "sq"))
  | with_reducible refine r_add ?_
  | with_reducible refine r_sub ?_
  | with_reducible refine r_lt ?_
  | with_reducible refine r_le ?_
  | with_reducible refine r_gt ?_
  | with_reducible refine r_ge ?_
  | with_reducible refine r_eqI ?_
  | with_reducible refine r_neI ?_
  | with_reducible refine r_int ?_
  | with_reducible refine r_intb ?_
  | with_reducible refine r_neg ?_
  | with_reducible refine r_max2 ?_
  | with_reducible refine r_min2 ?_
  | with_reducible refine c_sp1 ?_
  | with_reducible refine c_sp2 ?_
  | with_reducible refine c_sp3 ?_
  | with_reducible refine c_sp4 ?_
  | with_reducible refine c_sp5 ?_
  | with_reducible refine t_end ?_
  | with_reducible refine o_part_end ?_
  | ((with_reducible refine s_aug (x := ?xx) ?hx ?_); (case hx => rfl))
  | with_reducible refine s_for ?_
  | with_reducible refine i_list ?_
  | with_reducible refine i_tup ?_
  | with_reducible refine i_rng1 ?_
  | with_reducible refine i_rng2 ?_
  | with_reducible refine i_keys ?_
  | with_reducible refine i_items ?_
  | with_reducible refine i_zip2 ?_
  | with_reducible refine i_enum2 ?_
  | ((with_reducible refine i_rng1E ?h1 ?h2 ?_); (case h1 => omega); (case h2 => omega))
  | ((with_reducible refine i_rng2E ?h1 ?_); (case h1 => omega))
  | ((with_reducible refine i_listE (xs := ?xs) ?hs ?_); (case hs => walk_at "sq"))
  | ((with_reducible refine i_tupE (xs := ?xs) ?hs ?_); (case hs => walk_at "sq"))
  | ((with_reducible refine q_isD ?hi ?_); (case hi => first | exact isD_K (by walk_at "rd") | exact isD_T (by walk_at "rd")))
  | with_reducible refine q_ref ?_
  | with_reducible refine e_dnewK ?_
  | with_reducible refine e_dnewT ?_
  | with_reducible refine e_tup ?_
  | with_reducible refine e_lst ?_
  | ((with_reducible refine r_new ?hn ?_); (case hn => exact Nat.le_of_ble_eq_true rfl))
  | with_reducible refine r_fresh fun _ _ => ?_
  | with_reducible refine s_par_end ?_
  | with_reducible refine s_par3_end ?_
  | with_reducible refine e_lc ?_
  | with_reducible refine e_dc ?_
  | with_reducible refine e_dcT ?_
  | with_reducible refine t_tyes ?_
  | with_reducible refine t_tt ?_
  | with_reducible refine t_ff ?_
  | with_reducible refine c_wipe rfl ?_)
local macro_rules | `(tactic| walk_at "S") => `(tactic| repeat' first | walk_at "s" | with_reducible refine s_dput ?_)
local macro_rules | `(tactic| walk_at "T") => `(tactic| repeat' walk_at "s")

/-! ### _law_first -/
def zI (k : Int) : List Int := List.replicate k.toNat 0
theorem zs_map (ns : List Str) (k : Int) : (zs k).map (numM ns) = zI k := by
  unfold zs zI
  rw [List.map_replicate]
  rfl
/-- the numbers from here on: ahead of them the depth p -/
def tlI (ns : List Str) (p : Int) (l : Doc) : List Int := (tlM p l).map (numM ns)
theorem r_zeros {K : PySem.W.Frag} {n : Nat} {H1 : Hp} {D : Addr} (hn : n ≤ 1000) (hD : H1 D = none) : True := trivial
theorem q_index {K : PySem.W.Frag} {H : Hp} {a : Addr} {ns : List Str} {z : Str} {Q : VK} (ha : SqL K H a (ns.map V.str)) (hin : z ∈ ns) (h : Q (.int (ns.idxOf z : Nat)) H) : rIndex K (.ref a) [.str z] H Q := by
  obtain ⟨h1, h2⟩ := idx_first hin
  refine ⟨a, _, .str z, ns.idxOf z, .str z, rfl, rfl, ha, rfl, ?_, by rw [List.getElem?_map, h1]; rfl, ?_, ?_⟩
  · rw [List.all_eq_true]
    intro v hv
    obtain ⟨x, _, rfl⟩ := List.mem_map.mp hv
    rfl
  · show (z == z) = true
    exact beq_self_eq_true z
  · refine ⟨fun m z' hm hz' => ?_, h⟩
    obtain ⟨x, ex, rfl⟩ := map_str_get hz'
    show (x == z) = false
    exact beq_eq_false_iff_ne.mpr fun e => h2 m hm (e ▸ ex)
theorem okD_bd : ∀ {l : Doc} {p : Int}, -1 ≤ p → okD p l → ∀ q ∈ l, 0 ≤ q.1 ∧ q.1 ≤ p + l.length
  | (d, n) :: l, p, hp, h, q, hq => by
    rw [List.length_cons]
    rcases List.mem_cons.mp hq with rfl | hq
    · have h1 := h.1
      have h2 := h.2.1
      refine ⟨h1, ?_⟩
      show d ≤ _
      omega
    · have h1 := h.1
      have := okD_bd (by omega) h.2.2 q hq
      have h2 := h.2.1
      refine ⟨this.1, ?_⟩
      omega
theorem given_zI (k : Int) : given (fun _ => true) (fun _ => V.int 0) k.toNat = (zI k).map V.int := by
  have eg := given_filter (zI k) (fun _ => true) V.int (fun _ => true) (fun _ => V.int 0) fun i x ex => by
    have := (List.mem_replicate.mp (mem_of_get ex)).2
    rw [this]
    exact ⟨rfl, fun _ => rfl⟩
  unfold zI at eg ⊢
  rw [List.length_replicate, List.filter_eq_self.mpr (fun _ _ => rfl)] at eg
  exact eg
def sp_first (K : PySem.W.Frag) : Sp := fun vs H Q _ => ∃ (a b o : Addr) (l : Doc) (ns : List Str), vs = [.ref a, .ref b, .ref o] ∧ H a = some (.lst ((l.map (·.1)).map V.int)) ∧ H b = some (.lst ((l.map (·.2)).map V.str)) ∧ H o = some (.lst (ns.map V.str)) ∧ DocOk l ∧ (∀ s ∈ l.map (·.2), s ∈ ns) ∧
  ∀ (r : Addr) H', Same H H' → H' r = some (.lst (((firstM l).map (numM ns)).map V.int)) → Q (.ref r) H'
theorem c_first {K : PySem.W.Frag} {H : Hp} {a b o : Addr} {l : Doc} {ns : List Str} {Q : VK} {E : XK} (ha : H a = some (.lst ((l.map (·.1)).map V.int))) (hb : H b = some (.lst ((l.map (·.2)).map V.str))) (ho : H o = some (.lst (ns.map V.str))) (ok : DocOk l) (hin : ∀ s ∈ l.map (·.2), s ∈ ns)
    (h : ∀ (r : Addr) H', Same H H' → H' r = some (.lst (((firstM l).map (numM ns)).map V.int)) → Q (.ref r) H') : sp_first K ([.ref a, .ref b, .ref o] ++ []) H Q E := ⟨a, b, o, l, ns, rfl, ha, hb, ho, ok, hin, h⟩
abbrev n__law_first : List Str := ["depths", "names", "over", "row", "k", "j"]
def t__law_first (K : PySem.W.Frag) (w : World) : TS :=
  (tSeq (tAsg (tLst tNil) (gName 3))
    (tSeq (tFor (iRng1 (tCons (tCB (oLen K) (tCons (tVar 0) tNil)) tNil)) (gName 4)
    (tSeq (tIfS (tTest (tOp oGt (tVar 4) (tC (.int 0)))) (tDrop (tBM K "list" rExtend (tVar 3) (tCons (tLc (iRng1 (tCons (tOp oSub (tOp oAdd (tOp (rIxL K) (tVar 0) (tOp oSub (tVar 4) (tC (.int 1)))) (tC (.int 1))) (tOp (rIxL K) (tVar 0) (tVar 4))) tNil)) (gName 5) tYes (tC (.int 0)) [5]) tNil))) tNext)
    (tDrop (tBM K "list" rAppend (tVar 3) (tCons (tOp oAdd (tBM K "list" (rIndex K) (tVar 2) (tCons (tOp (rIxL K) (tVar 1) (tVar 4)) tNil)) (tC (.int 1))) tNil)))))
    (tSeq (tIfS (tTest (tOp oGt (tCB (oLen K) (tCons (tVar 0) tNil)) (tC (.int 0)))) (tDrop (tBM K "list" rExtend (tVar 3) (tCons (tLc (iRng1 (tCons (tOp oAdd (tOp (rIxL K) (tVar 0) (tUn oNeg (tC (.int 1)))) (tC (.int 1))) tNil)) (gName 5) tYes (tC (.int 0)) [5]) tNil))) tNext)
    (tRet (tVar 3)))))
theorem r_first {K : PySem.W.Frag} {w : World} (vs : List V) (H : Hp) (Q : VK) (E : XK) (h : sp_first K vs H Q E) : t__law_first K w { nx := fun _ H' => Q .non H', rt := Q } (start n__law_first vs) H := by
  obtain ⟨a, b, o, l, ns, rfl, ha, hb, ho, ⟨okd, hg, hll⟩, hin, q⟩ := h
  unfold t__law_first
  walk_at "T"
  rename_i r hr
  have hr0 := hr
  rw [List.length_map]
  refine i_rng1E (by omega) (by omega) ?_
  walk_at "T"
  rw [Int.toNat_natCast]
  have hWl : ((firstM l).map (numM ns)).length ≤ 120 := by
    rw [List.length_map, first_len okd]
    omega
  have hbd := okD_bd (Int.le_refl _) okd
  refine for_w (w_rng (lo := 0) (n := l.length)) (fun i σ H' => ∃ (y4 : Option V) (ws : List Int), σ = [some (.ref a), some (.ref b), some (.ref o), some (.ref r), y4, none] ∧ Same H H' ∧ H' r = some (.lst (ws.map V.int)) ∧
      ((i = 0 ∧ ws = []) ∨ ∃ (p : Int) (n' : Str), 0 < i ∧ l[i - 1]? = some (p, n') ∧ okD p (l.drop i) ∧ ws ++ tlI ns p (l.drop i) = (firstM l).map (numM ns)))
    ⟨_, [], rfl, L2.Same.new hr, upd_same, .inl ⟨rfl, rfl⟩⟩ (fun _ _ _ _ _ => trivial) ?_ ?_
  · rintro i σ _ y H' hi ⟨y4, ws, rfl, s1, er, hcase⟩ ⟨rfl, rfl⟩
    rw [show (0 + (i : Int)) = (i : Int) by omega]
    obtain ⟨⟨d, n⟩, edn⟩ : ∃ p, l[i]? = some p := ⟨_, List.getElem?_eq_getElem hi⟩
    have hdrop : l.drop i = (d, n) :: l.drop (i + 1) := by
      rw [List.drop_eq_getElem_cons hi, (List.getElem?_eq_some_iff.mp edn).2]
    have xa : ((l.map (·.1)).map V.int)[i]? = some (.int d) := by
      rw [List.getElem?_map, List.getElem?_map, edn]
      rfl
    have xb : ((l.map (·.2)).map V.str)[i]? = some (.str n) := by
      rw [List.getElem?_map, List.getElem?_map, edn]
      rfl
    have hn : n ∈ l.map (·.2) := List.mem_map_of_mem (f := fun p : Int × Str => p.2) (mem_of_get edn)
    have hnn := good_ne (hg n hn)
    have enum' : numM ns n = (ns.idxOf n : Nat) + 1 := by
      unfold numM
      rw [if_neg hnn]
      omega
    have hd := hbd _ (mem_of_get edn)
    have hd0 : 0 ≤ d := hd.1
    have hd1 : d ≤ 60 := by
      have : d ≤ -1 + (l.length : Int) := hd.2
      omega
    have fin : ∀ (us : List Int) (H9 : Hp) (y : Option V), Same H H9 → H9 r = some (.lst (us.map V.int)) → us ++ numM ns n :: tlI ns d (l.drop (i + 1)) = (firstM l).map (numM ns) → okD d (l.drop (i + 1)) →
        ∃ (y4 : Option V) (ws : List Int), [some (V.ref a), some (.ref b), some (.ref o), some (.ref r), y, none] = [some (.ref a), some (.ref b), some (.ref o), some (.ref r), y4, none] ∧ Same H (upd H9 r (.lst ((us ++ [numM ns n]).map V.int))) ∧ upd H9 r (.lst ((us ++ [numM ns n]).map V.int)) r = some (.lst (ws.map V.int)) ∧
        ((i + 1 = 0 ∧ ws = []) ∨ ∃ (p : Int) (n' : Str), 0 < i + 1 ∧ l[i + 1 - 1]? = some (p, n') ∧ okD p (l.drop (i + 1)) ∧ ws ++ tlI ns p (l.drop (i + 1)) = (firstM l).map (numM ns)) := by
      intro us H9 y s9 e9 h1 h2
      refine ⟨_, _, rfl, s9.mut hr0, upd_same, .inr ⟨d, n, Nat.succ_pos _, by rw [Nat.add_sub_cancel]; exact edn, h2, ?_⟩⟩
      rw [← h1, List.append_assoc]
      rfl
    have ea1 := s1 _ _ ha
    rcases hcase with ⟨rfl, rfl⟩ | ⟨p, n', hi0, ep, hok, hW⟩
    · have hl0 : l = (d, n) :: l.drop 1 := hdrop
      have hW0 : (firstM l).map (numM ns) = numM ns n :: tlI ns d (l.drop 1) := by
        rw [hl0]
        rfl
      have ok0 : okD d (l.drop 1) := by
        rw [hl0] at okd
        exact okd.2.2
      have eb1 := s1 _ _ hb
      have eo1 : SqL K H' o (ns.map V.str) := SqL.of (s1 _ _ ho)
      walk_at "T"
      rw [show decide ((0 : Int) < ((0 : Nat) : Int)) = false from rfl]
      walk_at "T"
      refine r_ixL (SqL.of eb1) (atI_nat xb) ?_
      walk_at "T"
      refine q_index eo1 (hin n hn) ?_
      walk_at "T"
      rw [← enum']
      refine r_appI er (by show 0 < _; decide) ?_
      walk_at "T"
      exact fin [] H' _ s1 er (by rw [hW0]; rfl) ok0
    · have hWl2 := hWl
      rw [← hW, List.length_append] at hWl2
      have xp : ((l.map (·.1)).map V.int)[i - 1]? = some (.int p) := by
        rw [List.getElem?_map, List.getElem?_map, ep]
        rfl
      have hp := hbd _ (mem_of_get ep)
      have hp1 : p ≤ 60 := by
        have : p ≤ -1 + (l.length : Int) := hp.2
        omega
      have hp0 : 0 ≤ p := hp.1
      rw [hdrop] at hok hW
      have hW2 : ws ++ (zI (p + 1 - d) ++ numM ns n :: tlI ns d (l.drop (i + 1))) = (firstM l).map (numM ns) := by
        rw [← hW]
        show _ = ws ++ (zs (p + 1 - d) ++ n :: tlM d (l.drop (i + 1))).map (numM ns)
        rw [List.map_append, zs_map]
        rfl
      walk_at "T"
      rw [decide_eq_true (show (0 : Int) < (i : Int) by omega)]
      walk_at "T"
      refine r_ixL (SqL.of ea1) (by rw [show ((i : Int) - 1) = ((i - 1 : Nat) : Int) by omega]; exact atI_nat xp) ?_
      walk_at "T"
      refine r_ixL (SqL.of ea1) (atI_nat xa) ?_
      walk_at "T"
      rename_i D hD
      have hzl : (p + 1 - d).toNat ≤ 61 := by omega
      refine lcp_w (w_rng (lo := 0) (n := (p + 1 - d).toNat)) (fun _ => true) (fun _ => V.int 0) (by omega) hD (fun H6 s6 => trivial) ?_ ?_ ?_
      · rintro j H6 x _ ⟨rfl, _⟩
        exact Same.refl _
      · rintro j _ x H6 Rt Rf hj s6 ⟨rfl, rfl⟩ kt kf
        walk_at "T"
        exact kt _ (Same.refl _) rfl
      · rintro H6 s6 h6
        rw [given_zI] at h6
        have hzl2 : (zI (p + 1 - d)).length ≤ 61 := by
          unfold zI
          rw [List.length_replicate]
          exact hzl
        have er6 := s6 _ _ er
        have s7 := s1.trans s6
        have eb6 := s7 _ _ hb
        have eo6 := s7 _ _ ho
        walk_at "T"
        refine r_ext er6 h6 (by rw [List.length_map, List.length_map]; omega) ?_
        rw [← List.map_append]
        have e8 : upd H6 r (.lst ((ws ++ zI (p + 1 - d)).map V.int)) r = some (.lst ((ws ++ zI (p + 1 - d)).map V.int)) := upd_same
        have s8 : Same H (upd H6 r (.lst ((ws ++ zI (p + 1 - d)).map V.int))) := s7.mut hr0
        have nbr : b ≠ r := ne_none hr0 hb
        have nor : o ≠ r := ne_none hr0 ho
        have eb8 : upd H6 r (.lst ((ws ++ zI (p + 1 - d)).map V.int)) b = some (.lst ((l.map (·.2)).map V.str)) := u_oth nbr eb6
        have eo8 : SqL K (upd H6 r (.lst ((ws ++ zI (p + 1 - d)).map V.int))) o (ns.map V.str) := SqL.of (u_oth nor eo6)
        generalize upd H6 r (.lst ((ws ++ zI (p + 1 - d)).map V.int)) = H8 at e8 s8 eb8 eo8
        walk_at "T"
        refine r_ixL (SqL.of eb8) (atI_nat xb) ?_
        walk_at "T"
        refine q_index eo8 (hin n hn) ?_
        walk_at "T"
        rw [← enum']
        refine r_appI e8 (by rw [List.length_append]; omega) ?_
        walk_at "T"
        exact fin (ws ++ zI (p + 1 - d)) H8 _ s8 e8 (by rw [List.append_assoc]; exact hW2) hok.2.2
  · rintro σ H' ⟨y4, ws, rfl, s1, er, hcase⟩
    have ea1 := s1 _ _ ha
    walk_at "T"
    rcases hcase with ⟨h0, rfl⟩ | ⟨p, n', hi0, ep, hok, hW⟩
    · have : l = [] := List.eq_nil_of_length_eq_zero h0
      subst this
      show if false = true then _ else _
      walk_at "T"
      exact q r H' s1 er
    · rw [List.length_map]
      rw [decide_eq_true (show (0 : Int) < ((l.length : Nat) : Int) by omega)]
      have hWl2 := hWl
      rw [← hW, List.length_append] at hWl2
      have hp := hbd _ (mem_of_get ep)
      have hp1 : p ≤ 60 := by
        have : p ≤ -1 + (l.length : Int) := hp.2
        omega
      have hp0 : 0 ≤ p := hp.1
      rw [List.drop_length] at hW
      have hW2 : ws ++ zI (p + 1) = (firstM l).map (numM ns) := by
        rw [← hW]
        show _ = ws ++ (zs (p + 1)).map (numM ns)
        rw [zs_map]
      have hlast : (l.map (·.1)).map V.int = ((l.take (l.length - 1)).map (·.1)).map V.int ++ [.int p] := by
        have h2 := take_snoc ep
        rw [Nat.sub_add_cancel hi0, List.take_length] at h2
        have h3 := congrArg (fun z : Doc => (z.map (·.1)).map V.int) h2
        rw [List.map_append, List.map_append] at h3
        exact h3
      walk_at "T"
      refine r_ixL (v := .int p) (SqL.of ea1) (by rw [hlast]; exact at_lastV) ?_
      walk_at "T"
      rename_i D hD
      have hzl : (p + 1).toNat ≤ 61 := by omega
      refine lcp_w (w_rng (lo := 0) (n := (p + 1).toNat)) (fun _ => true) (fun _ => V.int 0) (by omega) hD (fun H6 s6 => trivial) ?_ ?_ ?_
      · rintro j H6 x _ ⟨rfl, _⟩
        exact Same.refl _
      · rintro j _ x H6 Rt Rf hj s6 ⟨rfl, rfl⟩ kt kf
        walk_at "T"
        exact kt _ (Same.refl _) rfl
      · rintro H6 s6 h6
        rw [given_zI] at h6
        have hzl2 : (zI (p + 1)).length ≤ 61 := by
          unfold zI
          rw [List.length_replicate]
          exact hzl
        have er6 := s6 _ _ er
        have s7 := s1.trans s6
        walk_at "T"
        refine r_ext er6 h6 (by rw [List.length_map, List.length_map]; omega) ?_
        rw [← List.map_append]
        walk_at "T"
        refine q r _ (s7.mut hr0) ?_
        rw [upd_same, ← hW2]
end K15

end
section
set_option Elab.async false
set_option linter.all false
set_option maxRecDepth 100000
set_option maxHeartbeats 4000000
namespace K15
open PySem hiding Tree
open PySem.Spec PyProof.Rows L2 LW LM LV
/-! ### steps of a reading, heaps: short tactics -/
local macro_rules | `(tactic| walk_at "ne") => `(tactic| first
  | assumption
  | (apply Ne.symm; assumption)
  | exact ne_none (by assumption) (by assumption)
  | exact (ne_none (by assumption) (by assumption)).symm
  | exact ne_of (by assumption) (by assumption) (by intro z; cases z))
local macro_rules | `(tactic| walk_at "hp") => `(tactic| first
  | assumption
  | with_reducible exact upd_same
  | ((first
      | with_reducible refine u_old ?_ (by assumption)
      | with_reducible refine u_oth (by walk_at "ne") ?_
      | with_reducible refine same_app (by assumption) ?_
      | with_reducible refine kb_app (by assumption) (by walk_at "ne") ?_); walk_at "hp")
  | ((with_reducible refine u_kind ?h (by assumption) ?d); (case h => walk_at "hp"); (case d => (intro z; cases z))))
local macro_rules | `(tactic| walk_at "sq") => `(tactic| first
  | assumption
  | exact SqL.of (by walk_at "hp")
  | exact SqT.of (by walk_at "hp")
  | (with_reducible refine same_sqT (by assumption) ?_; walk_at "sq")
  | (with_reducible refine same_sqL (by assumption) ?_; walk_at "sq")
  | (with_reducible refine new_sqT (by assumption) ?_; walk_at "sq")
  | (with_reducible refine new_sqL (by assumption) ?_; walk_at "sq")
  | ((with_reducible refine mut_sqT (u := ?uu) ?hd ?hm ?_); (case hd => walk_at "hp"); (case hm => exact trivial); walk_at "sq"))
local macro_rules | `(tactic| walk_at "rd") => `(tactic| first
  | assumption
  | exact .inl (by walk_at "hp")
  | exact .inr ⟨_, by walk_at "hp"⟩)
local macro_rules | `(tactic| walk_at "s") => `(tactic| first
  | with_reducible refine s_seq ?_
  | with_reducible refine s_asg ?_
  | with_reducible refine g_name ?_
  | ((with_reducible refine e_var (v := ?vv) ?hv ?_); (case hv => rfl))
  | with_reducible refine e_c ?_
  | with_reducible refine e_op ?_
  | with_reducible refine a_cons ?_
  | with_reducible refine a_nil ?_
  | with_reducible refine e_cb ?_
  | with_reducible refine e_call ?_
  | with_reducible refine e_callK ?_
  | with_reducible refine s_ret ?_
  | with_reducible refine s_retN ?_
  | with_reducible refine s_drop ?_
  | with_reducible refine s_ifs ?_
  | with_reducible refine s_next ?_
  | with_reducible refine s_cont ?_
  | with_reducible refine s_brk ?_
  | with_reducible refine s_par ?_
  | with_reducible refine s_par3 ?_
  | with_reducible refine e_un ?_
  | with_reducible refine e_if ?_
  | with_reducible refine e_andV ?_
  | with_reducible refine e_orV ?_
  | with_reducible refine e_notV ?_
  | with_reducible refine e_dget ?_
  | with_reducible refine e_dget2 ?_
  | with_reducible refine e_din ?_
  | with_reducible refine e_dnotin ?_
  | with_reducible refine e_then ?_
  | with_reducible refine e_bm ?_
  | with_reducible refine e_bm0 ?_
  | with_reducible refine e_sl ?_
  | with_reducible refine o_none ?_
  | with_reducible refine o_part ?_
  | with_reducible refine g_sub ?_
  | with_reducible refine g_nil ?_
  | with_reducible refine g_cons ?_
  | with_reducible refine t_test ?_
  | with_reducible refine t_B ?_
  | with_reducible refine t_and ?_
  | with_reducible refine t_or ?_
  | with_reducible refine t_not ?_
  | ((with_reducible refine r_ixI (ns := ?ns) ?hs ?h0 ?h1 ?_); (case hs => walk_at "sq"); (case h0 => omega); (case h1 => omega))
  | ((with_reducible refine r_ixL (xs := ?xs) (v := ?vv) ?hs ?hi ?_); (case hs => walk_at "sq"); (case hi => rfl))
  | ((with_reducible refine r_ixT (xs := ?xs) (v := ?vv) ?hs ?hi ?_); (case hs => walk_at "sq"); (case hi => rfl))
  | ((with_reducible refine g_setL (xs := ?xs) (j := ?jj) ?hp ?hj ?_); (case hp => walk_at "hp"); (case hj => rfl))
  | ((with_reducible refine r_mul ?hc ?_); (case hc => first | exact .inr (by decide) | exact .inl (by decide) | exact .inl ⟨by omega, by omega⟩ | exact .inr ⟨by omega, by omega⟩))
  | ((with_reducible refine r_mod ?hc ?_); (case hc => first | decide | omega))
  | ((with_reducible refine r_fdivN ?hc ?_); (case hc => exact ⟨by first | decide | omega, by first | decide | omega⟩))
  | ((with_reducible refine r_pow ?hc ?_); (case hc => first | decide | exact ⟨by decide, by decide⟩ | (unfold CPow; decide)))
  | ((with_reducible refine r_lenI (ns := ?ns) ?hs ?_); (case hs => walk_at "sq"))
  | ((with_reducible refine r_lenTI (ns := ?ns) ?hs ?_); (case hs => walk_at "sq"))
  | ((with_reducible refine r_lenL (xs := ?xs) ?hs ?_); (case hs => walk_at "sq"))
  | ((with_reducible refine r_lenT (xs := ?xs) ?hs ?_); (case hs => walk_at "sq"))
  | ((with_reducible refine r_tyL (xs := ?xs) ?hs ?_); (case hs => walk_at "sq"))
  | with_reducible refine r_add ?_
  | with_reducible refine r_sub ?_
  | with_reducible refine r_lt ?_
  | with_reducible refine r_le ?_
  | with_reducible refine r_gt ?_
  | with_reducible refine r_ge ?_
  | with_reducible refine r_eqI ?_
  | with_reducible refine r_neI ?_
  | with_reducible refine r_int ?_
  | with_reducible refine r_intb ?_
  | with_reducible refine r_neg ?_
  | with_reducible refine r_max2 ?_
  | with_reducible refine r_min2 ?_
  | with_reducible refine c_sp1 ?_
  | with_reducible refine c_sp2 ?_
  | with_reducible refine c_sp3 ?_
  | with_reducible refine c_sp4 ?_
  | with_reducible refine c_sp5 ?_
  | with_reducible refine t_end ?_
  | with_reducible refine o_part_end ?_
  | ((with_reducible refine s_aug (x := ?xx) ?hx ?_); (case hx => rfl))
  | with_reducible refine s_for ?_
  | with_reducible refine i_list ?_
  | with_reducible refine i_tup ?_
  | with_reducible refine i_rng1 ?_
  | with_reducible refine i_rng2 ?_
  | with_reducible refine i_keys ?_
  | with_reducible refine i_items ?_
  | with_reducible refine i_zip2 ?_
  | with_reducible refine i_enum2 ?_
  | ((with_reducible refine i_rng1E ?h1 ?h2 ?_); (case h1 => omega); (case h2 => omega))
  | ((with_reducible refine i_rng2E ?h1 ?_); (case h1 => omega))
  | ((with_reducible refine i_listE (xs := ?xs) ?hs ?_); (case hs => walk_at "sq"))
  | ((with_reducible refine i_tupE (xs := ?xs) ?hs ?_); (case hs => walk_at "sq"))
  | ((with_reducible refine q_isD ?hi ?_); (case hi => first | exact isD_K (by walk_at "rd") | exact isD_T (by walk_at "rd")))
  | with_reducible refine q_ref ?_
  | with_reducible refine e_dnewK ?_
  | with_reducible refine e_dnewT ?_
  | with_reducible refine e_tup ?_
  | with_reducible refine e_lst ?_
  | ((with_reducible refine r_new ?hn ?_); (case hn => exact Nat.le_of_ble_eq_true rfl))
  | with_reducible refine r_fresh fun _ _ => ?_
  | with_reducible refine s_par_end ?_
  | with_reducible refine s_par3_end ?_
  | with_reducible refine e_lc ?_
  | with_reducible refine e_dc ?_
  | with_reducible refine e_dcT ?_
  | with_reducible refine t_tyes ?_
  | with_reducible refine t_tt ?_
  | with_reducible refine t_ff ?_
  | with_reducible refine c_wipe rfl ?_)
local macro_rules | `(tactic| walk_at "S") => `(tactic| repeat' first | walk_at "s" | with_reducible refine s_dput ?_)
local macro_rules | `(tactic| walk_at "T") => `(tactic| repeat' walk_at "s")

/-! ### _law_layers -/
def sp_law_layers (K : PySem.W.Frag) : Sp := sp1 fun x H Q => ∃ (D : Addr) (l : Doc), x = .ref D ∧ DocAt H D (l.map (·.1)) (l.map (·.2)) ∧ DocOk l ∧ ∀ (t : Addr) H', Same H H' → LayAt H' t l → Q (.ref t) H'
theorem c_law_layers {K : PySem.W.Frag} {H : Hp} {D : Addr} {l : Doc} {Q : VK} {E : XK} (hD : DocAt H D (l.map (·.1)) (l.map (·.2))) (ok : DocOk l) (h : ∀ (t : Addr) H', Same H H' → LayAt H' t l → Q (.ref t) H') : sp_law_layers K ([.ref D] ++ []) H Q E := ⟨_, rfl, D, l, rfl, hD, ok, h⟩
theorem ref_ints {H : Hp} {x y : Addr} {ns : List Int} {bs : List Addr} (h0 : 0 < ns.length) (hx : H x = some (.lst (ns.map V.int))) (hy : H y = some (.lst (bs.map V.ref))) : x ≠ y := by
  intro e
  subst e
  rw [hx] at hy
  cases ns with
  | nil => exact absurd h0 (Nat.lt_irrefl 0)
  | cons n ns =>
    cases bs with
    | nil => cases hy
    | cons b bs => cases hy
abbrev n__law_layers : List Str := ["document", "over", "row", "used", "rounds", "blocks", "lefts", "pairs"]
def t__law_layers (K : PySem.W.Frag) (w : World) : TS :=
  (tSeq (tAsg (tCB (LU.rSortSetS w) (tCons (tCB (LU.rSetS K w) (tCons (tOp (rIxL K) (tVar 0) (tC (.int 1))) tNil)) tNil)) (gName 1))
    (tSeq (tAsg (tCall (sp_first K) [] E0 (tCons (tOp (rIxL K) (tVar 0) (tC (.int 0))) (tCons (tOp (rIxL K) (tVar 0) (tC (.int 1))) (tCons (tVar 1) tNil)))) (gName 2))
    (tSeq (tIfS (tTest (tOp rEq (tCB (oLen K) (tCons (tVar 2) tNil)) (tC (.int 0)))) (tRet (tTup (tCons (tTup tNil) (tCons (tTup tNil) (tCons (tC .non) tNil))))) tNext)
    (tSeq (tAsg (tOp oAdd (tCB (oLen K) (tCons (tVar 1) tNil)) (tC (.int 1))) (gName 3))
    (tSeq (tAsg (tLst tNil) (gName 4))
    (tSeq (tWhile (tTest (tOp oGt (tCB (oLen K) (tCons (tVar 2) tNil)) (tC (.int 1)))) (tSeq (tAsg (tCall (sp_pressed_runs K) [] E0 (tCons (tVar 2) (tCons (tVar 3) tNil))) (gLst K 2 (gCons (gName 2) (gCons (gName 5) gNil))))
    (tSeq (tAsg (tOp oAdd (tVar 3) (tCB (oLen K) (tCons (tVar 5) tNil))) (gName 3))
    (tSeq (tAsg (tTup (tCons (tTup tNil) (tCons (tTup tNil) tNil))) (gTup K 2 (gCons (gName 6) (gCons (gName 7) gNil))))
    (tSeq (tIfS (tTest (tOp oGt (tCB (oLen K) (tCons (tVar 2) tNil)) (tC (.int 1)))) (tSeq (tAsg (tCall (sp_mleft K) [] E0 (tCons (tVar 2) tNil)) (gName 6))
    (tSeq (tAsg (tCall (sp_pressed_pairs K) [] E0 (tCons (tVar 2) (tCons (tVar 6) (tCons (tVar 3) tNil)))) (gLst K 2 (gCons (gName 2) (gCons (gName 7) gNil))))
    (tAsg (tOp oAdd (tVar 3) (tCB (oLen K) (tCons (tVar 7) tNil))) (gName 3)))) tNext)
    (tDrop (tBM K "list" rAppend (tVar 4) (tCons (tTup (tCons (tVar 5) (tCons (tVar 6) (tCons (tVar 7) tNil)))) tNil))))))))
    (tRet (tTup (tCons (tThen (tVar 1) (kTup K)) (tCons (tThen (tVar 4) (kTup K)) (tCons (tOp (rIxL K) (tVar 2) (tC (.int 0))) tNil)))))))))))
theorem r_law_layers {K : PySem.W.Frag} {w : World} (vs : List V) (H : Hp) (Q : VK) (E : XK) (h : sp_law_layers K vs H Q E) : t__law_layers K w { nx := fun _ H' => Q .non H', rt := Q } (start n__law_layers vs) H := by
  obtain ⟨_, rfl, D, l, rfl, ⟨a, b, eD, ea, eb⟩, ok, q⟩ := h
  obtain ⟨okd, hg, hll⟩ := id ok
  have hml := first_len okd
  have hnl := names_len l
  have hrl := row_len okd
  have hu0 : 0 ≤ usOf l := by unfold usOf; omega
  unfold t__law_layers
  walk_at "T"
  refine ⟨b, l.map (·.2), rfl, SqL.of eb, by rw [List.length_map]; omega, fun p c hp hc => ?_⟩
  walk_at "T"
  refine ⟨p, l.map (·.2), c, rfl, upd_same, hc, by rw [List.length_map]; omega, fun o ho => ?_⟩
  have s1 : Same H (upd (upd H p (LU.SetXO w p (fun j => decide (j ∈ l.map (·.2))) c)) o (.lst ((LU.sortS (dedup (l.map (·.2)))).map V.str))) := (L2.Same.new hp).upd ho
  have e1 : upd (upd H p (LU.SetXO w p (fun j => decide (j ∈ l.map (·.2))) c)) o (.lst ((LU.sortS (dedup (l.map (·.2)))).map V.str)) o = some (.lst ((namesOf l).map V.str)) := upd_same
  generalize upd (upd H p (LU.SetXO w p (fun j => decide (j ∈ l.map (·.2))) c)) o (.lst ((LU.sortS (dedup (l.map (·.2)))).map V.str)) = H1 at s1 e1
  have eD1 := s1 _ _ eD
  walk_at "T"
  refine c_first (s1 _ _ ea) (s1 _ _ eb) e1 ok (fun s hs => mem_names.mpr hs) fun r0 H2 s2 e2 => ?_
  have e2' : H2 r0 = some (.lst ((rowOf l).map V.int)) := e2
  have s02 := s1.trans s2
  have eo2 := s2 _ _ e1
  have so2 : SqL K H2 o ((namesOf l).map V.str) := SqL.of eo2
  walk_at "T"
  refine t_iteD (fun hz => ?_) (fun hz => ?_)
  · have hl0 : l = [] := List.eq_nil_of_length_eq_zero (by
      have : ((rowOf l).length : Int) = 0 := hz
      omega)
    subst hl0
    walk_at "T"
    rename_i n1 h1 n2 h2 t ht
    have f1 : upd (upd (upd H2 n1 (.tup [])) n2 (.tup [])) t (.tup [.ref n1, .ref n2, .non]) n1 = some (.tup []) := u_old (u_old upd_same h2) ht
    have f2 : upd (upd (upd H2 n1 (.tup [])) n2 (.tup [])) t (.tup [.ref n1, .ref n2, .non]) n2 = some (.tup []) := u_old upd_same ht
    refine q t _ (((s02.upd h1).upd h2).upd ht) ⟨n1, n2, [], upd_same, .inl f1, f2, (fun j r h => nomatch h), fun j h => absurd h (Nat.not_lt_zero j), ?_⟩
    show ¬ 1 < 0
    decide
  · have hpos : 0 < (rowOf l).length := by
      have : ¬ ((rowOf l).length : Int) = 0 := hz
      omega
    walk_at "T"
    rename_i L hL
    rw [List.length_map]
    have hL0 : H L = none := none_of s02 hL
    refine ⟨fun m σ H' => ∃ (k : Nat) (y5 y6 y7 : Option V) (r : Addr) (rs : List Addr), σ = [some (.ref D), some (.ref o), some (.ref r), some (.int (rowAt (rowOf l) (usOf l) k).2), some (.ref L), y5, y6, y7] ∧ m = (rowAt (rowOf l) (usOf l) k).1.length ∧ Same H2 H' ∧
        H' r = some (.lst ((rowAt (rowOf l) (usOf l) k).1.map V.int)) ∧ H' L = some (.lst (rs.map V.ref)) ∧ rs.length = k ∧ RoundsAt H' (rowOf l) (usOf l) rs ∧ ∀ j, j < k → 1 < (rowAt (rowOf l) (usOf l) j).1.length,
      ⟨_, 0, none, none, none, r0, [], rfl, rfl, L2.Same.new hL, u_old e2' hL, upd_same, rfl, (fun j r h => nomatch h), fun j h => absurd h (Nat.not_lt_zero j)⟩, ?_⟩
    rintro m σ H5 ⟨k, y5, y6, y7, r, rs, rfl, rfl, s5, hr5, hL5, hk, hrs, hall⟩
    obtain ⟨z1, z0, z2, z3⟩ := rowAt_ok hpos (row_nn l) hu0 k hall
    have sr5 : SqL K H5 r ((rowAt (rowOf l) (usOf l) k).1.map V.int) := SqL.of hr5
    have hnx : ∀ x, rowAt (rowOf l) (usOf l) (k + 1) = x → x = ((rndAt (rowOf l) (usOf l) k).row, (rndAt (rowOf l) (usOf l) k).used) := fun x h => h.symm
    have hrd : rndAt (rowOf l) (usOf l) k = round (rowAt (rowOf l) (usOf l) k).1 (rowAt (rowOf l) (usOf l) k).2 := rfl
    walk_at "T"
    refine t_iteD (fun hlt => ?_) (fun hlt => ?_)
    · have hlt' : 1 < (rowAt (rowOf l) (usOf l) k).1.length := by omega
      have hdn := round_lt (us := (rowAt (rowOf l) (usOf l) k).2) hlt'
      have hdn2 : (rowAt (rowOf l) (usOf l) (k + 1)).1.length < (rowAt (rowOf l) (usOf l) k).1.length := hdn
      refine ⟨fun σ' H' => ∃ (y5 y6 y7 : Option V) (r : Addr) (rs : List Addr), σ' = [some (.ref D), some (.ref o), some (.ref r), some (.int (rowAt (rowOf l) (usOf l) (k + 1)).2), some (.ref L), y5, y6, y7] ∧ Same H2 H' ∧
        H' r = some (.lst ((rowAt (rowOf l) (usOf l) (k + 1)).1.map V.int)) ∧ H' L = some (.lst (rs.map V.ref)) ∧ rs.length = k + 1 ∧ RoundsAt H' (rowOf l) (usOf l) rs, ?_, ?_⟩
      · rintro σ' H' ⟨y5', y6', y7', r', rs', rfl, a1, a2, a3, a4, a5⟩
        refine ⟨_, hdn2, k + 1, y5', y6', y7', r', rs', rfl, rfl, a1, a2, a3, a4, a5, fun j hj => ?_⟩
        by_cases e : j = k
        · subst e
          exact hlt'
        · exact hall j (by omega)
      rw [hnx _ rfl]
      rw [hrd]
      generalize hrow : (rowAt (rowOf l) (usOf l) k).1 = row at z1 z0 z2 hr5 sr5 hlt' hlt hdn hdn2 hrd ⊢
      generalize husd : (rowAt (rowOf l) (usOf l) k).2 = us at z3 hdn hrd ⊢
      walk_at "T"
      refine c_pressed_runs sr5 (by omega) z2 fun t t1 t2 bs H6 s6 e6 e61 e62 a6 => ?_
      refine LY.g_lst (xs := [.ref t1, .ref t2]) (SqL.of e6) rfl ?_
      have hbl6 := atPs_len a6
      have hbn := block_nn (us := us) z2 z3
      have hbp := block_pos (us := us) z0
      walk_at "T"
      rw [show ((bs.map V.ref).length : Int) = ((blocksOf row).length : Nat) by rw [List.length_map, hbl6]]
      rename_i w1 hw1 w2 hw2 w3 hw3
      refine g_tup (xs := [.ref w1, .ref w2]) (SqT.of upd_same) rfl ?_
      have fin : ∀ (rr lf pp q : Addr) (cs : List Addr) (us2 : Int) (H9 : Hp), us2 = (round row us).used → Same H6 H9 → H9 q = none → H9 rr = some (.lst ((round row us).row.map V.int)) → H9 lf = some (.tup ((round row us).lefts.map V.int)) → H9 pp = some (.tup (cs.map V.ref)) → LS.AtPs H9 cs (round row us).pairs →
          ∃ (y5 y6 y7 : Option V) (r' : Addr) (rs' : List Addr), [some (V.ref D), some (.ref o), some (.ref rr), some (.int us2), some (.ref L), some (.ref t2), some (.ref lf), some (.ref pp)] = [some (V.ref D), some (.ref o), some (.ref r'), some (.int ((round row us).row, (round row us).used).2), some (.ref L), y5, y6, y7] ∧
            Same H2 (upd (upd H9 q (.tup [.ref t2, .ref lf, .ref pp])) L (.lst (rs.map V.ref ++ [.ref q]))) ∧ upd (upd H9 q (.tup [.ref t2, .ref lf, .ref pp])) L (.lst (rs.map V.ref ++ [.ref q])) r' = some (.lst (((round row us).row, (round row us).used).1.map V.int)) ∧
            upd (upd H9 q (.tup [.ref t2, .ref lf, .ref pp])) L (.lst (rs.map V.ref ++ [.ref q])) L = some (.lst (rs'.map V.ref)) ∧ rs'.length = k + 1 ∧ RoundsAt (upd (upd H9 q (.tup [.ref t2, .ref lf, .ref pp])) L (.lst (rs.map V.ref ++ [.ref q]))) (rowOf l) (usOf l) rs' := by
        intro rr lf pp q cs us2 H9 hus2 s9 hq h1 h2 h3 h4
        have s49 := (s5.trans s6).trans s9
        have hL9 : H9 L = some (.lst (rs.map V.ref)) := s9 _ _ (s6 _ _ hL5)
        have hrL : rr ≠ L := ref_ints (round_pos z0) h1 hL9
        have hqL : upd H9 q (.tup [.ref t2, .ref lf, .ref pp]) L = some (.lst (rs.map V.ref)) := u_old hL9 hq
        have h5 : H9 t2 = some (.tup (bs.map V.ref)) := s9 _ _ e62
        subst hus2
        refine ⟨_, _, _, rr, rs ++ [q], rfl, (s49.upd hq).mut hL, u_oth hrL (u_old h1 hq), by rw [upd_same, List.map_append]; rfl, by rw [List.length_append, hk]; rfl, ?_⟩
        intro j x hx
        by_cases hj : j < rs.length
        · rw [List.getElem?_append_left hj] at hx
          exact (((hrs j x hx).same (s6.trans s9)).same (L2.Same.new hq)).mut hqL trivial
        · have ej : j = k := by
            have := (List.getElem?_eq_some_iff.mp hx).1
            rw [List.length_append, List.length_singleton] at this
            omega
          subst ej
          rw [List.getElem?_append_right (by omega), hk, Nat.sub_self] at hx
          cases hx
          rw [hrd]
          have hb2 : (round row us).blocks = blocksOf row := by
            unfold round
            simp only
            split <;> rfl
          exact RoundAt.mut ⟨t2, lf, pp, bs, cs, upd_same, u_old h5 hq, by rw [hb2]; exact atPs_same (s9.trans (L2.Same.new hq)) a6, u_old h2 hq, u_old h3 hq, atPs_same (L2.Same.new hq) h4⟩ hqL trivial
      have hrsl : rs.length < 1000 := by omega
      walk_at "T"
      refine t_iteD (fun h1 => ?_) (fun h1 => ?_)
      · have h1' : 1 < (blockRow row us).length := by omega
        have ery := round_yes (us := us) h1'
        have hbl := block_le row us
        have s7 : Same H6 (upd (upd (upd H6 w1 (.tup [])) w2 (.tup [])) w3 (.tup [.ref w1, .ref w2])) := ((L2.Same.new hw1).upd hw2).upd hw3
        generalize upd (upd (upd H6 w1 (.tup [])) w2 (.tup [])) w3 (.tup [.ref w1, .ref w2]) = H7 at s7
        have e71 := s7 _ _ e61
        walk_at "T"
        refine c_mleft (SqL.of e71) hbp (by omega) fun lf H8 s8 e8 => ?_
        walk_at "T"
        refine c_pressed_pairs (SqL.of (s8 _ _ e71)) (SqT.of e8) (by omega) hbn hbp fun u u1 u2 cs H9 s9 g g1 g2 g3 => ?_
        refine LY.g_lst (xs := [.ref u1, .ref u2]) (SqL.of g) rfl ?_
        have hL9 : H9 L = some (.lst (rs.map V.ref)) := s9 _ _ (s8 _ _ (s7 _ _ (s6 _ _ hL5)))
        have sg2 : SqT K H9 u2 (cs.map V.ref) := SqT.of g2
        walk_at "T"
        rw [show ((cs.map V.ref).length : Int) = ((LM.pairsOf (blockRow row us) (inL (leftNums (blockRow row us)))).length : Nat) by rw [List.length_map, atPs_len g3]]
        rename_i q hq
        refine r_app (u_old hL9 hq) (by rw [List.length_map, sizeLine_eq]; omega) ?_
        walk_at "T"
        refine fin u1 lf u2 q cs _ H9 ?_ ((s7.trans s8).trans s9) hq ?_ ?_ g2 ?_
        · rw [ery]
          rfl
        · rw [ery]
          exact g1
        · rw [ery]
          exact s9 _ _ e8
        · rw [ery]
          exact g3
      · have h1' : ¬ 1 < (blockRow row us).length := by omega
        have ern := round_no (us := us) h1'
        have s7 : Same H6 (upd (upd (upd H6 w1 (.tup [])) w2 (.tup [])) w3 (.tup [.ref w1, .ref w2])) := ((L2.Same.new hw1).upd hw2).upd hw3
        have f1 : upd (upd (upd H6 w1 (.tup [])) w2 (.tup [])) w3 (.tup [.ref w1, .ref w2]) w1 = some (.tup []) := u_old (u_old upd_same hw2) hw3
        have f2 : upd (upd (upd H6 w1 (.tup [])) w2 (.tup [])) w3 (.tup [.ref w1, .ref w2]) w2 = some (.tup []) := u_old upd_same hw3
        generalize upd (upd (upd H6 w1 (.tup [])) w2 (.tup [])) w3 (.tup [.ref w1, .ref w2]) = H7 at s7 f1 f2
        have hL7 : H7 L = some (.lst (rs.map V.ref)) := s7 _ _ (s6 _ _ hL5)
        walk_at "T"
        rename_i q hq
        refine r_app (u_old hL7 hq) (by rw [List.length_map, sizeLine_eq]; omega) ?_
        walk_at "T"
        refine fin t1 w1 w2 q [] _ H7 ?_ s7 hq ?_ ?_ f2 ?_
        · rw [ern]
        · rw [ern]
          exact s7 _ _ e61
        · rw [ern]
          exact f1
        · rw [ern]
          exact .nil
    · have s45 := s02.trans s5
      have eo5 := s5 _ _ eo2
      have hlt' : ¬ 1 < (rowAt (rowOf l) (usOf l) rs.length).1.length := by rw [hk]; omega
      have fin : ∀ (a' b' t : Addr) (z : V), H5 a' = none → upd H5 a' (.tup ((namesOf l).map V.str)) b' = none → upd (upd H5 a' (.tup ((namesOf l).map V.str))) b' (.tup (rs.map V.ref)) t = none → z = lastV (rowAt (rowOf l) (usOf l) rs.length).1 →
          Q (.ref t) (upd (upd (upd H5 a' (.tup ((namesOf l).map V.str))) b' (.tup (rs.map V.ref))) t (.tup [.ref a', .ref b', z])) := by
        intro a' b' t z ha' hb' ht hz
        subst hz
        have s9 : Same H5 (upd (upd (upd H5 a' (.tup ((namesOf l).map V.str))) b' (.tup (rs.map V.ref))) t (.tup [.ref a', .ref b', lastV (rowAt (rowOf l) (usOf l) rs.length).1])) := ((L2.Same.new ha').upd hb').upd ht
        exact q t _ (s45.trans s9) ⟨a', b', rs, upd_same, .inl (u_old (u_old upd_same hb') ht), u_old upd_same ht, fun j x hx => (hrs j x hx).same s9, fun j hj => hall j (by omega), hlt'⟩
      rw [hk] at fin
      walk_at "T"
      refine r_tupL (SqL.of eo5) fun a' ha' => ?_
      walk_at "T"
      refine r_tupL (SqL.of (u_old hL5 ha')) fun b' hb' => ?_
      walk_at "T"
      rename_i t ht
      refine fin a' b' t _ ha' hb' ht ?_
      cases hrow : (rowAt (rowOf l) (usOf l) k).1 with
      | nil =>
        rw [hrow] at z0
        exact absurd z0 (Nat.lt_irrefl 0)
      | cons x xs => rfl
end K15

end
section
set_option Elab.async false
set_option linter.all false
set_option maxRecDepth 100000
set_option maxHeartbeats 4000000
namespace K15
open PySem hiding Tree
open PySem.Spec PyProof.Rows L2 LW LM LV
/-! ### steps of a reading, heaps: short tactics -/
local macro_rules | `(tactic| walk_at "ne") => `(tactic| first
  | assumption
  | (apply Ne.symm; assumption)
  | exact ne_none (by assumption) (by assumption)
  | exact (ne_none (by assumption) (by assumption)).symm
  | exact ne_of (by assumption) (by assumption) (by intro z; cases z))
local macro_rules | `(tactic| walk_at "hp") => `(tactic| first
  | assumption
  | with_reducible exact upd_same
  | ((first
      | with_reducible refine u_old ?_ (by assumption)
      | with_reducible refine u_oth (by walk_at "ne") ?_
      | with_reducible refine same_app (by assumption) ?_
      | with_reducible refine kb_app (by assumption) (by walk_at "ne") ?_); walk_at "hp")
  | ((with_reducible refine u_kind ?h (by assumption) ?d); (case h => walk_at "hp"); (case d => (intro z; cases z))))
local macro_rules | `(tactic| walk_at "sq") => `(tactic| first
  | assumption
  | exact SqL.of (by walk_at "hp")
  | exact SqT.of (by walk_at "hp")
  | (with_reducible refine same_sqT (by assumption) ?_; walk_at "sq")
  | (with_reducible refine same_sqL (by assumption) ?_; walk_at "sq")
  | (with_reducible refine new_sqT (by assumption) ?_; walk_at "sq")
  | (with_reducible refine new_sqL (by assumption) ?_; walk_at "sq")
  | ((with_reducible refine mut_sqT (u := ?uu) ?hd ?hm ?_); (case hd => walk_at "hp"); (case hm => exact trivial); walk_at "sq"))
local macro_rules | `(tactic| walk_at "rd") => `(tactic| first
  | assumption
  | exact .inl (by walk_at "hp")
  | exact .inr ⟨_, by walk_at "hp"⟩)
local macro_rules | `(tactic| walk_at "s") => `(tactic| first
  | with_reducible refine s_seq ?_
  | with_reducible refine s_asg ?_
  | with_reducible refine g_name ?_
  | ((with_reducible refine e_var (v := ?vv) ?hv ?_); (case hv => rfl))
  | with_reducible refine e_c ?_
  | with_reducible refine e_op ?_
  | with_reducible refine a_cons ?_
  | with_reducible refine a_nil ?_
  | with_reducible refine e_cb ?_
  | with_reducible refine e_call ?_
  | with_reducible refine e_callK ?_
  | with_reducible refine s_ret ?_
  | with_reducible refine s_retN ?_
  | with_reducible refine s_drop ?_
  | with_reducible refine s_ifs ?_
  | with_reducible refine s_next ?_
  | with_reducible refine s_cont ?_
  | with_reducible refine s_brk ?_
  | with_reducible refine s_par ?_
  | with_reducible refine s_par3 ?_
  | with_reducible refine e_un ?_
  | with_reducible refine e_if ?_
  | with_reducible refine e_andV ?_
  | with_reducible refine e_orV ?_
  | with_reducible refine e_notV ?_
  | with_reducible refine e_dget ?_
  | with_reducible refine e_dget2 ?_
  | with_reducible refine e_din ?_
  | with_reducible refine e_dnotin ?_
  | with_reducible refine e_then ?_
  | with_reducible refine e_bm ?_
  | with_reducible refine e_bm0 ?_
  | with_reducible refine e_sl ?_
  | with_reducible refine o_none ?_
  | with_reducible refine o_part ?_
  | with_reducible refine g_sub ?_
  | with_reducible refine g_nil ?_
  | with_reducible refine g_cons ?_
  | with_reducible refine t_test ?_
  | with_reducible refine t_B ?_
  | with_reducible refine t_and ?_
  | with_reducible refine t_or ?_
  | with_reducible refine t_not ?_
  | ((with_reducible refine r_ixI (ns := ?ns) ?hs ?h0 ?h1 ?_); (case hs => walk_at "sq"); (case h0 => omega); (case h1 => omega))
  | ((with_reducible refine r_ixL (xs := ?xs) (v := ?vv) ?hs ?hi ?_); (case hs => walk_at "sq"); (case hi => rfl))
  | ((with_reducible refine r_ixT (xs := ?xs) (v := ?vv) ?hs ?hi ?_); (case hs => walk_at "sq"); (case hi => rfl))
  | ((with_reducible refine g_setL (xs := ?xs) (j := ?jj) ?hp ?hj ?_); (case hp => walk_at "hp"); (case hj => rfl))
  | ((with_reducible refine r_mul ?hc ?_); (case hc => first | exact .inr (by decide) | exact .inl (by decide) | exact .inl ⟨by omega, by omega⟩ | exact .inr ⟨by omega, by omega⟩))
  | ((with_reducible refine r_mod ?hc ?_); (case hc => first | decide | omega))
  | ((with_reducible refine r_fdivN ?hc ?_); (case hc => exact ⟨by first | decide | omega, by first | decide | omega⟩))
  | ((with_reducible refine r_pow ?hc ?_); (case hc => first | decide | exact ⟨by decide, by decide⟩ | (unfold CPow; decide)))
  | ((with_reducible refine r_lenI (ns := ?ns) ?hs ?_); (case hs => walk_at "sq"))
  | ((with_reducible refine r_lenTI (ns := ?ns) ?hs ?_); (case hs => walk_at "sq"))
  | ((with_reducible refine r_lenL (xs := ?xs) ?hs ?_); (case hs => walk_at "sq"))
  | ((with_reducible refine r_lenT (xs := ?xs) ?hs ?_); (case hs => walk_at "sq"))
  | ((with_reducible refine r_tyL (xs := ?xs) ?hs ?_); (case hs => walk_at "sq"))
  | with_reducible refine r_add ?_
  | with_reducible refine r_sub ?_
  | with_reducible refine r_lt ?_
  | with_reducible refine r_le ?_
  | with_reducible refine r_gt ?_
  | with_reducible refine r_ge ?_
  | with_reducible refine r_eqI ?_
  | with_reducible refine r_neI ?_
  | with_reducible refine r_int ?_
  | with_reducible refine r_intb ?_
  | with_reducible refine r_neg ?_
  | with_reducible refine r_max2 ?_
  | with_reducible refine r_min2 ?_
  | with_reducible refine c_sp1 ?_
  | with_reducible refine c_sp2 ?_
  | with_reducible refine c_sp3 ?_
  | with_reducible refine c_sp4 ?_
  | with_reducible refine c_sp5 ?_
  | with_reducible refine t_end ?_
  | with_reducible refine o_part_end ?_
  | ((with_reducible refine s_aug (x := ?xx) ?hx ?_); (case hx => rfl))
  | with_reducible refine s_for ?_
  | with_reducible refine i_list ?_
  | with_reducible refine i_tup ?_
  | with_reducible refine i_rng1 ?_
  | with_reducible refine i_rng2 ?_
  | with_reducible refine i_keys ?_
  | with_reducible refine i_items ?_
  | with_reducible refine i_zip2 ?_
  | with_reducible refine i_enum2 ?_
  | ((with_reducible refine i_rng1E ?h1 ?h2 ?_); (case h1 => omega); (case h2 => omega))
  | ((with_reducible refine i_rng2E ?h1 ?_); (case h1 => omega))
  | ((with_reducible refine i_listE (xs := ?xs) ?hs ?_); (case hs => walk_at "sq"))
  | ((with_reducible refine i_tupE (xs := ?xs) ?hs ?_); (case hs => walk_at "sq"))
  | ((with_reducible refine q_isD ?hi ?_); (case hi => first | exact isD_K (by walk_at "rd") | exact isD_T (by walk_at "rd")))
  | with_reducible refine q_ref ?_
  | with_reducible refine e_dnewK ?_
  | with_reducible refine e_dnewT ?_
  | with_reducible refine e_tup ?_
  | with_reducible refine e_lst ?_
  | ((with_reducible refine r_new ?hn ?_); (case hn => exact Nat.le_of_ble_eq_true rfl))
  | with_reducible refine r_fresh fun _ _ => ?_
  | with_reducible refine s_par_end ?_
  | with_reducible refine s_par3_end ?_
  | with_reducible refine e_lc ?_
  | with_reducible refine e_dc ?_
  | with_reducible refine e_dcT ?_
  | with_reducible refine t_tyes ?_
  | with_reducible refine t_tt ?_
  | with_reducible refine t_ff ?_
  | with_reducible refine c_wipe rfl ?_)
local macro_rules | `(tactic| walk_at "S") => `(tactic| repeat' first | walk_at "s" | with_reducible refine s_dput ?_)
local macro_rules | `(tactic| walk_at "T") => `(tactic| repeat' walk_at "s")

/-! ### _law_right -/
def sp_right (K : PySem.W.Frag) : Sp := sp2 fun x y H Q => ∃ (D : Addr) (l : Doc) (b : Bool), x = .ref D ∧ y = .bl b ∧ DocAt H D (l.map (·.1)) (l.map (·.2)) ∧ DocOk l ∧ ∀ H', Same H H' → Q (.bl true) H'
theorem c_right {K : PySem.W.Frag} {H : Hp} {D : Addr} {l : Doc} {b : Bool} {Q : VK} {E : XK} (hD : DocAt H D (l.map (·.1)) (l.map (·.2))) (ok : DocOk l) (h : ∀ H', Same H H' → Q (.bl true) H') : sp_right K ([.ref D, .bl b] ++ []) H Q E := ⟨_, _, rfl, D, l, b, rfl, rfl, hD, ok, h⟩
theorem LayAt.same {H H' : Hp} {t : Addr} {l : Doc} (L : LayAt H t l) (s : Same H H') : LayAt H' t l := by
  obtain ⟨a, b, rs, a1, a2, a3, a4, a5, a6⟩ := L.ex
  exact ⟨a, b, rs, s _ _ a1, a2.elim (fun h => .inl (s _ _ h)) (fun ⟨o, h⟩ => .inr ⟨o, s _ _ h⟩), s _ _ a3, fun j r h => (a4 j r h).same s, a5, a6⟩
abbrev n__law_right : List Str := ["document", "named", "form", "told"]
def t__law_right (K : PySem.W.Frag) (w : World) : TS :=
  (tSeq (tAsg (tCall (sp_trees K) [] E0 (tCons (tOp (rIxL K) (tVar 0) (tC (.int 0))) (tCons (tOp (rIxL K) (tVar 0) (tC (.int 1))) tNil))) (gName 2))
    (tSeq (tIfS (tB (tVar 1)) (tAsg (tCallK (sp_layers K) LD.gKw1 E0 tNil (tCons (tVar 2) tNil)) (gName 3)) (tAsg (tCall (sp_layers K) [] E0 (tCons (tVar 2) tNil)) (gName 3)))
    (tRet (tCall (sp_like 5) [] E0 (tCons (tVar 3) (tCons (tCall (sp_law_layers K) [] E0 (tCons (tVar 0) tNil)) tNil))))))
theorem r_right {K : PySem.W.Frag} {w : World} (vs : List V) (H : Hp) (Q : VK) (E : XK) (h : sp_right K vs H Q E) : t__law_right K w { nx := fun _ H' => Q .non H', rt := Q } (start n__law_right vs) H := by
  obtain ⟨_, _, rfl, D, l, b, rfl, rfl, ⟨a, n, eD, ea, en⟩, ok, q⟩ := h
  obtain ⟨okd, hg, hll⟩ := id ok
  have hrl := row_len okd
  have hnl := names_len l
  have hbd := okD_bd (Int.le_refl _) okd
  unfold t__law_right
  walk_at "T"
  refine c_trees ea en (fun p hp => ⟨(hbd p hp).1, by have := (hbd p hp).2; omega⟩) (by omega) fun f ts H1 s1 e1 g1 => ?_
  have fin : ∀ (t : Addr) (H2 : Hp), Same H1 H2 → LayAt H2 t l → tRet (tCall (sp_like 5) [] E0 (tCons (tVar 3) (tCons (tCall (sp_law_layers K) [] E0 (tCons (tVar 0) tNil)) tNil))) { nx := fun _ H' => Q .non H', rt := Q } [some (.ref D), some (.bl b), some (.ref f), some (.ref t)] H2 := by
    intro t H2 s2 hL
    have s12 := s1.trans s2
    walk_at "T"
    refine c_law_layers ⟨a, n, s12 _ _ eD, s12 _ _ ea, s12 _ _ en⟩ ok fun u H3 s3 hL3 => ?_
    walk_at "T"
    refine c_like (like_lay (hL.same s3) hL3 (by omega) (by omega)) ?_
    exact q H3 (s12.trans s3)
  walk_at "T"
  cases b with
  | true =>
    walk_at "T"
    refine c_layers e1 g1 ok fun t H2 s2 hL => ?_
    refine g_name ?_
    exact fin t H2 s2 hL
  | false =>
    walk_at "T"
    refine c_layers e1 g1 ok fun t H2 s2 hL => ?_
    refine g_name ?_
    exact fin t H2 s2 hL
end K15

end
section
set_option Elab.async false
set_option linter.all false
set_option maxRecDepth 100000
set_option maxHeartbeats 4000000
namespace K15
open PySem hiding Tree
open PySem.Spec PyProof.Rows L2 LW LM LV
/-! ### steps of a reading, heaps: short tactics -/
local macro_rules | `(tactic| walk_at "ne") => `(tactic| first
  | assumption
  | (apply Ne.symm; assumption)
  | exact ne_none (by assumption) (by assumption)
  | exact (ne_none (by assumption) (by assumption)).symm
  | exact ne_of (by assumption) (by assumption) (by intro z; cases z))
local macro_rules | `(tactic| walk_at "hp") => `(tactic| first
  | assumption
  | with_reducible exact upd_same
  | ((first
      | with_reducible refine u_old ?_ (by assumption)
      | with_reducible refine u_oth (by walk_at "ne") ?_
      | with_reducible refine same_app (by assumption) ?_
      | with_reducible refine kb_app (by assumption) (by walk_at "ne") ?_); walk_at "hp")
  | ((with_reducible refine u_kind ?h (by assumption) ?d); (case h => walk_at "hp"); (case d => (intro z; cases z))))
local macro_rules | `(tactic| walk_at "sq") => `(tactic| first
  | assumption
  | exact SqL.of (by walk_at "hp")
  | exact SqT.of (by walk_at "hp")
  | (with_reducible refine same_sqT (by assumption) ?_; walk_at "sq")
  | (with_reducible refine same_sqL (by assumption) ?_; walk_at "sq")
  | (with_reducible refine new_sqT (by assumption) ?_; walk_at "sq")
  | (with_reducible refine new_sqL (by assumption) ?_; walk_at "sq")
  | ((with_reducible refine mut_sqT (u := ?uu) ?hd ?hm ?_); (case hd => walk_at "hp"); (case hm => exact trivial); walk_at "sq"))
local macro_rules | `(tactic| walk_at "rd") => `(tactic| first
  | assumption
  | exact .inl (by walk_at "hp")
  | exact .inr ⟨_, by walk_at "hp"⟩)
local macro_rules | `(tactic| walk_at "s") => `(tactic| first
  | with_reducible refine s_seq ?_
  | with_reducible refine s_asg ?_
  | with_reducible refine g_name ?_
  | ((with_reducible refine e_var (v := ?vv) ?hv ?_); (case hv => rfl))
  | with_reducible refine e_c ?_
  | with_reducible refine e_op ?_
  | with_reducible refine a_cons ?_
  | with_reducible refine a_nil ?_
  | with_reducible refine e_cb ?_
  | with_reducible refine e_call ?_
  | with_reducible refine e_callK ?_
  | with_reducible refine s_ret ?_
  | with_reducible refine s_retN ?_
  | with_reducible refine s_drop ?_
  | with_reducible refine s_ifs ?_
  | with_reducible refine s_next ?_
  | with_reducible refine s_cont ?_
  | with_reducible refine s_brk ?_
  | with_reducible refine s_par ?_
  | with_reducible refine s_par3 ?_
  | with_reducible refine e_un ?_
  | with_reducible refine e_if ?_
  | with_reducible refine e_andV ?_
  | with_reducible refine e_orV ?_
  | with_reducible refine e_notV ?_
  | with_reducible refine e_dget ?_
  | with_reducible refine e_dget2 ?_
  | with_reducible refine e_din ?_
  | with_reducible refine e_dnotin ?_
  | with_reducible refine e_then ?_
  | with_reducible refine e_bm ?_
  | with_reducible refine e_bm0 ?_
  | with_reducible refine e_sl ?_
  | with_reducible refine o_none ?_
  | with_reducible refine o_part ?_
  | with_reducible refine g_sub ?_
  | with_reducible refine g_nil ?_
  | with_reducible refine g_cons ?_
  | with_reducible refine t_test ?_
  | with_reducible refine t_B ?_
  | with_reducible refine t_and ?_
  | with_reducible refine t_or ?_
  | with_reducible refine t_not ?_
  | ((with_reducible refine r_ixI (ns := ?ns) ?hs ?h0 ?h1 ?_); (case hs => walk_at "sq"); (case h0 => omega); (case h1 => omega))
  | ((with_reducible refine r_ixL (xs := ?xs) (v := ?vv) ?hs ?hi ?_); (case hs => walk_at "sq"); (case hi => rfl))
  | ((with_reducible refine r_ixT (xs := ?xs) (v := ?vv) ?hs ?hi ?_); (case hs => walk_at "sq"); (case hi => rfl))
  | ((with_reducible refine g_setL (xs := ?xs) (j := ?jj) ?hp ?hj ?_); (case hp => walk_at "hp"); (case hj => rfl))
  | ((with_reducible refine r_mul ?hc ?_); (case hc => first | exact .inr (by decide) | exact .inl (by decide) | exact .inl ⟨by omega, by omega⟩ | exact .inr ⟨by omega, by omega⟩))
  | ((with_reducible refine r_mod ?hc ?_); (case hc => first | decide | omega))
  | ((with_reducible refine r_fdivN ?hc ?_); (case hc => exact ⟨by first | decide | omega, by first | decide | omega⟩))
  | ((with_reducible refine r_pow ?hc ?_); (case hc => first | decide | exact ⟨by decide, by decide⟩ | (unfold CPow; decide)))
  | ((with_reducible refine r_lenI (ns := ?ns) ?hs ?_); (case hs => walk_at "sq"))
  | ((with_reducible refine r_lenTI (ns := ?ns) ?hs ?_); (case hs => walk_at "sq"))
  | ((with_reducible refine r_lenL (xs := ?xs) ?hs ?_); (case hs => walk_at "sq"))
  | ((with_reducible refine r_lenT (xs := ?xs) ?hs ?_); (case hs => walk_at "sq"))
  | ((with_reducible refine r_tyL (xs := ?xs) ?hs ?_); (case hs => walk_at "sq"))
  | with_reducible refine r_add ?_
  | with_reducible refine r_sub ?_
  | with_reducible refine r_lt ?_
  | with_reducible refine r_le ?_
  | with_reducible refine r_gt ?_
  | with_reducible refine r_ge ?_
  | with_reducible refine r_eqI ?_
  | with_reducible refine r_neI ?_
  | with_reducible refine r_int ?_
  | with_reducible refine r_intb ?_
  | with_reducible refine r_neg ?_
  | with_reducible refine r_max2 ?_
  | with_reducible refine r_min2 ?_
  | with_reducible refine c_sp1 ?_
  | with_reducible refine c_sp2 ?_
  | with_reducible refine c_sp3 ?_
  | with_reducible refine c_sp4 ?_
  | with_reducible refine c_sp5 ?_
  | with_reducible refine t_end ?_
  | with_reducible refine o_part_end ?_
  | ((with_reducible refine s_aug (x := ?xx) ?hx ?_); (case hx => rfl))
  | with_reducible refine s_for ?_
  | with_reducible refine i_list ?_
  | with_reducible refine i_tup ?_
  | with_reducible refine i_rng1 ?_
  | with_reducible refine i_rng2 ?_
  | with_reducible refine i_keys ?_
  | with_reducible refine i_items ?_
  | with_reducible refine i_zip2 ?_
  | with_reducible refine i_enum2 ?_
  | ((with_reducible refine i_rng1E ?h1 ?h2 ?_); (case h1 => omega); (case h2 => omega))
  | ((with_reducible refine i_rng2E ?h1 ?_); (case h1 => omega))
  | ((with_reducible refine i_listE (xs := ?xs) ?hs ?_); (case hs => walk_at "sq"))
  | ((with_reducible refine i_tupE (xs := ?xs) ?hs ?_); (case hs => walk_at "sq"))
  | ((with_reducible refine q_isD ?hi ?_); (case hi => first | exact isD_K (by walk_at "rd") | exact isD_T (by walk_at "rd")))
  | with_reducible refine q_ref ?_
  | with_reducible refine e_dnewK ?_
  | with_reducible refine e_dnewT ?_
  | with_reducible refine e_tup ?_
  | with_reducible refine e_lst ?_
  | ((with_reducible refine r_new ?hn ?_); (case hn => exact Nat.le_of_ble_eq_true rfl))
  | with_reducible refine r_fresh fun _ _ => ?_
  | with_reducible refine s_par_end ?_
  | with_reducible refine s_par3_end ?_
  | with_reducible refine e_lc ?_
  | with_reducible refine e_dc ?_
  | with_reducible refine e_dcT ?_
  | with_reducible refine t_tyes ?_
  | with_reducible refine t_tt ?_
  | with_reducible refine t_ff ?_
  | with_reducible refine c_wipe rfl ?_)
local macro_rules | `(tactic| walk_at "S") => `(tactic| repeat' first | walk_at "s" | with_reducible refine s_dput ?_)
local macro_rules | `(tactic| walk_at "T") => `(tactic| repeat' walk_at "s")

/-! ### depths alone -/
def okI : Int → List Int → Prop
  | _, [] => True
  | p, d :: r => 0 ≤ d ∧ d ≤ p + 1 ∧ okI d r
theorem okD_I : ∀ {l : Doc} {p : Int}, okD p l ↔ okI p (l.map (·.1))
  | [], _ => Iff.rfl
  | (d, n) :: l, p => ⟨fun h => ⟨h.1, h.2.1, okD_I.mp h.2.2⟩, fun h => ⟨h.1, h.2.1, okD_I.mpr h.2.2⟩⟩
theorem okI_set : ∀ {ds : List Int} {p v : Int} {k : Nat}, okI p ds → 0 ≤ v → v ≤ (p :: ds).getD k 0 + 1 → (∀ e, ds[k + 1]? = some e → e ≤ v + 1) → okI p (ds.set k v)
  | [], _, _, _, _, _, _, _ => trivial
  | d :: r, p, v, 0, h, h0, h1, h2 => by
    refine ⟨h0, h1, ?_⟩
    cases r with
    | nil => trivial
    | cons e r => exact ⟨h.2.2.1, h2 e rfl, h.2.2.2.2⟩
  | d :: r, p, v, k + 1, h, h0, h1, h2 => ⟨h.1, h.2.1, okI_set h.2.2 h0 h1 fun e he => h2 e he⟩
theorem okI_at : ∀ {ds : List Int} {p : Int} {k : Nat} {d : Int}, okI p ds → ds[k]? = some d → 0 ≤ d ∧ d ≤ (p :: ds).getD k 0 + 1
  | d :: r, p, 0, e, h, he => by
    cases he
    exact ⟨h.1, h.2.1⟩
  | d :: r, p, k + 1, e, h, he => okI_at (ds := r) (p := d) (k := k) h.2.2 he
theorem zip_doc {ds : List Int} {ss : List Str} (h : ds.length = ss.length) : (ds.zip ss).map (·.1) = ds ∧ (ds.zip ss).map (·.2) = ss :=
  ⟨List.map_fst_zip (Nat.le_of_eq h), List.map_snd_zip (Nat.le_of_eq h.symm)⟩
/-- a good document by its two rows -/
def DocG (ds : List Int) (ss : List Str) : Prop := okI (-1) ds ∧ GoodN ss ∧ ds.length = ss.length ∧ ss.length ≤ 60
theorem DocG.ok {ds : List Int} {ss : List Str} (h : DocG ds ss) : ∃ l : Doc, DocOk l ∧ l.map (·.1) = ds ∧ l.map (·.2) = ss := by
  obtain ⟨h1, h2, h3, h4⟩ := h
  obtain ⟨e1, e2⟩ := zip_doc h3
  refine ⟨ds.zip ss, ⟨okD_I.mpr (by rw [e1]; exact h1), by rw [e2]; exact h2, ?_⟩, e1, e2⟩
  rw [List.length_zip]
  omega
def sp_moved (K : PySem.W.Frag) : Sp := fun vs H Q _ => ∃ (b ce D : Addr) (ds : List Int) (ss : List Str), vs = [.ref b, .ref D] ∧ Bag H b ce ∧ DocAt H D ds ss ∧ DocG ds ss ∧ 0 < ss.length ∧
  ∀ (D' : Addr) (ds' : List Int) H', Bag H' b ce → Kb b H H' → DocAt H' D' ds' ss → DocG ds' ss → Q (.ref D') H'
theorem c_moved {K : PySem.W.Frag} {H : Hp} {b ce D : Addr} {ds : List Int} {ss : List Str} {Q : VK} {E : XK} (B : Bag H b ce) (hD : DocAt H D ds ss) (G : DocG ds ss) (h0 : 0 < ss.length)
    (h : ∀ (D' : Addr) (ds' : List Int) H', Bag H' b ce → Kb b H H' → DocAt H' D' ds' ss → DocG ds' ss → Q (.ref D') H') : sp_moved K ([.ref b, .ref D] ++ []) H Q E := ⟨b, ce, D, ds, ss, rfl, B, hD, G, h0, h⟩
theorem map_int_some {ds : List Int} {k : Nat} (h : k < ds.length) : (ds.map V.int)[k]? = some (.int (ds.getD k 0)) := by
  rw [List.getElem?_map, List.getD_eq_getElem?_getD, List.getElem?_eq_getElem h]
  rfl
theorem ds_some {ds : List Int} {k : Nat} (h : k < ds.length) : ds[k]? = some (ds.getD k 0) := by
  rw [List.getD_eq_getElem?_getD, List.getElem?_eq_getElem h]
  rfl
abbrev n__law_moved : List Str := ["urn", "document", "depths", "at"]
def t__law_moved (K : PySem.W.Frag) (w : World) : TS :=
  (tSeq (tAsg (tCB (oListOf K) (tCons (tOp (rIxL K) (tVar 1) (tC (.int 0))) tNil)) (gName 2))
    (tSeq (tAsg (tCall sp_draw [] E0 (tCons (tVar 0) (tCons (tCB (oLen K) (tCons (tVar 2) tNil)) tNil))) (gName 3))
    (tSeq (tIfS (tAnd (tTest (tOp oLt (tOp oAdd (tVar 3) (tC (.int 1))) (tCB (oLen K) (tCons (tVar 2) tNil)))) (tTest (tOp oGt (tOp (rIxL K) (tVar 2) (tOp oAdd (tVar 3) (tC (.int 1)))) (tOp (rIxL K) (tVar 2) (tVar 3))))) (tAsg (tOp oSub (tCB (oLen K) (tCons (tVar 2) tNil)) (tC (.int 1))) (gName 3)) tNext)
    (tSeq (tIfS (tTest (tOp oGt (tVar 3) (tC (.int 0)))) (tSeq (tAsg (tCall sp_draw [] E0 (tCons (tVar 0) (tCons (tOp oAdd (tOp (rIxL K) (tVar 2) (tOp oSub (tVar 3) (tC (.int 1)))) (tC (.int 2))) tNil))) (gSub (tVar 2) (tVar 3) rSetL))
    (tIfS (tTest (tOp oLt (tOp oAdd (tVar 3) (tC (.int 1))) (tCB (oLen K) (tCons (tVar 2) tNil)))) (tAsg (tCB oMax2 (tCons (tOp (rIxL K) (tVar 2) (tVar 3)) (tCons (tOp oSub (tOp (rIxL K) (tVar 2) (tOp oAdd (tVar 3) (tC (.int 1)))) (tC (.int 1))) tNil))) (gSub (tVar 2) (tVar 3) rSetL)) tNext)) tNext)
    (tRet (tLst (tCons (tVar 2) (tCons (tOp (rIxL K) (tVar 1) (tC (.int 1))) tNil))))))))
theorem r_moved {K : PySem.W.Frag} {w : World} (vs : List V) (H : Hp) (Q : VK) (E : XK) (h : sp_moved K vs H Q E) : t__law_moved K w { nx := fun _ H' => Q .non H', rt := Q } (start n__law_moved vs) H := by
  obtain ⟨b, ce, D, ds, ss, rfl, B, ⟨a, n, eD, ea, en⟩, ⟨g1, g2, g3, g4⟩, h0, q⟩ := h
  have nD := B.ntwo eD
  have na := B.nint ea
  have nn := B.nstr en
  unfold t__law_moved
  walk_at "T"
  refine r_listL (SqL.of ea) fun l hl0 => ?_
  walk_at "T"
  refine c_draw (B.new hl0) (by omega) fun v H1 v0 v1 B1 k1 => ?_
  have nl := B.nb hl0
  have nlc := B.nc hl0
  have el : H1 l = some (.lst (ds.map V.int)) := kb_app k1 nl upd_same
  have k01 : Kb b H H1 := ((Kb.refl b H).new hl0).trans k1
  obtain ⟨at0, rfl⟩ := Int.eq_ofNat_of_zero_le v0
  have hat0 : at0 < ds.length := by omega
  have fin : ∀ (ds' : List Int) (H' : Hp) (x : Option V), Bag H' b ce → Kb b H H' → H' l = some (.lst (ds'.map V.int)) → okI (-1) ds' → ds'.length = ds.length →
      tRet (tLst (tCons (tVar 2) (tCons (tOp (rIxL K) (tVar 1) (tC (.int 1))) tNil))) { nx := fun _ H' => Q .non H', rt := Q } [some (.ref b), some (.ref D), some (.ref l), x] H' := by
    intro ds' H' x B' k' el' ok' hl'
    have eD' := kb_app k' nD eD
    have en' := kb_app k' nn en
    walk_at "T"
    rename_i D' hD'
    exact q D' ds' _ (B'.new hD') (k'.new hD') ⟨l, n, upd_same, u_old el' hD', u_old en' hD'⟩ ⟨ok', g2, by omega, g4⟩
  refine g_name ?_
  with_reducible refine s_seqR (fun σ' H' => ∃ at' : Nat, σ' = [some (.ref b), some (.ref D), some (.ref l), some (.int (at' : Int))] ∧ H' = H1 ∧ at' < ds.length ∧ (at' + 1 < ds.length → ds.getD (at' + 1) 0 ≤ ds.getD at' 0)) ?_ ?_
  · rintro _ _ ⟨at', rfl, rfl, hat, hnext⟩
    walk_at "T"
    refine t_iteD (fun hp => ?_) (fun hp => ?_)
    · have hpv := okI_at g1 (ds_some (k := at' - 1) (by omega))
      walk_at "T"
      rw [show ((at' : Int) - 1).toNat = at' - 1 by omega]
      have hpd := hpv.1
      refine c_draw B1 (by omega) fun v2 H2 w0 w1 B2 k2 => ?_
      have el2 := kb_app k2 nl el
      have k02 := k01.trans k2
      walk_at "T"
      refine g_setL (xs := ds.map V.int) (j := at') el2 (by rw [ix_nn (by omega) (by rw [List.length_map]; omega)]; rfl) ?_
      rw [← List.map_set]
      have B3 := B2.mut (o := .lst ((ds.set at' v2).map V.int)) nl nlc
      have k03 := k02.mut (o := .lst ((ds.set at' v2).map V.int)) hl0
      have e3 : upd H2 l (.lst ((ds.set at' v2).map V.int)) l = some (.lst ((ds.set at' v2).map V.int)) := upd_same
      generalize upd H2 l (.lst ((ds.set at' v2).map V.int)) = H3 at B3 k03 e3
      have hprev : ((-1 : Int) :: ds).getD at' 0 = ds.getD (at' - 1) 0 := by
        obtain ⟨j, rfl⟩ : ∃ j, at' = j + 1 := ⟨at' - 1, by omega⟩
        rfl
      have hlen3 : (ds.set at' v2).length = ds.length := List.length_set
      have gat : (ds.set at' v2).getD at' 0 = v2 := by
        rw [List.getD_eq_getElem?_getD, List.getElem?_set_self hat]
        rfl
      have gnx : (ds.set at' v2).getD (at' + 1) 0 = ds.getD (at' + 1) 0 := by
        rw [List.getD_eq_getElem?_getD, List.getElem?_set_ne (by omega), ← List.getD_eq_getElem?_getD]
      walk_at "T"
      rw [hlen3]
      refine t_iteD (fun hn => ?_) (fun hn => ?_)
      · have hn' : at' + 1 < ds.length := by omega
        walk_at "T"
        rw [show ((at' : Int) + 1).toNat = at' + 1 by omega, Int.toNat_natCast, gat, gnx]
        refine g_setL (xs := (ds.set at' v2).map V.int) (j := at') e3 (by rw [ix_nn (by omega) (by rw [List.length_map]; omega)]; rfl) ?_
        rw [← List.map_set, List.set_set]
        have hat2 := okI_at g1 (ds_some hat)
        have hnx := hnext hn'
        rw [hprev] at hat2
        refine fin _ _ _ (B3.mut nl nlc) (k03.mut hl0) upd_same (okI_set g1 ?_ ?_ ?_) List.length_set
        · split <;> omega
        · rw [hprev]
          split <;> omega
        · intro e he
          rw [ds_some hn'] at he
          cases he
          split <;> omega
      · refine s_next ?_
        refine fin _ _ _ B3 k03 e3 (okI_set g1 w0 (by rw [hprev]; omega) fun e he => ?_) List.length_set
        have := (List.getElem?_eq_some_iff.mp he).1
        omega
    · refine s_next ?_
      exact fin ds _ _ B1 k01 el g1 rfl
  · intro NX k
    walk_at "T"
    refine t_iteD (fun h => ?_) (fun h => ?_)
    · have h' : at0 + 1 < ds.length := by
        omega
      walk_at "T"
      rw [show ((at0 : Int) + 1).toNat = at0 + 1 by omega, Int.toNat_natCast]
      refine t_iteD (fun h2 => ?_) (fun h2 => ?_)
      · walk_at "T"
        refine k _ _ ⟨ds.length - 1, ?_, rfl, by omega, fun z => by omega⟩
        rw [show ((ds.length - 1 : Nat) : Int) = (ds.length : Int) - 1 by omega]
        rfl
      · walk_at "T"
        exact k _ _ ⟨at0, rfl, rfl, hat0, fun _ => by omega⟩
    · have h' : ¬ at0 + 1 < ds.length := by
        omega
      walk_at "T"
      exact k _ _ ⟨at0, rfl, rfl, hat0, fun z => absurd z h'⟩
end K15

end
section
set_option autoImplicit false
set_option linter.all false
/-! Full trees walked from the top: by trying all of them. -/
namespace LM
def depF (b : Nat) : Nat → Nat → Nat
  | 0, _ => 0
  | f + 1, v => if v = 0 then 0 else depF b f ((v - 1) / b) + 1
def dep (b v : Nat) : Nat := depF b v v
theorem depF_any (b : Nat) : ∀ (f g v : Nat), v ≤ f → v ≤ g → depF b f v = depF b g v
  | 0, 0, v, _, _ => rfl
  | 0, g + 1, v, h, _ => by
    have : v = 0 := by omega
    subst this
    rfl
  | f + 1, 0, v, _, h => by
    have : v = 0 := by omega
    subst this
    rfl
  | f + 1, g + 1, v, h1, h2 => by
    show (if v = 0 then 0 else depF b f ((v - 1) / b) + 1) = (if v = 0 then 0 else depF b g ((v - 1) / b) + 1)
    by_cases e : v = 0
    · rw [if_pos e, if_pos e]
    · rw [if_neg e, if_neg e]
      have : (v - 1) / b ≤ v - 1 := Nat.div_le_self _ _
      rw [depF_any b f g _ (by omega) (by omega)]
theorem dep_succ (b k : Nat) : dep b (k + 1) = dep b (k / b) + 1 := by
  show (if k + 1 = 0 then 0 else depF b k ((k + 1 - 1) / b) + 1) = _
  rw [if_neg (by omega), Nat.add_sub_cancel]
  have : k / b ≤ k := Nat.div_le_self _ _
  rw [depF_any b k (k / b) _ this (Nat.le_refl _)]
  rfl
def kidsI (b n v : Nat) (rest : List Nat) : Nat → List Nat
  | 0 => rest
  | i + 1 => if b * v + (b - i) < n then (b * v + (b - i)) :: kidsI b n v rest i else kidsI b n v rest i
def runW (b n : Nat) : Nat → List Nat → Bool
  | 0, todo => todo.isEmpty
  | _ + 1, [] => false
  | f + 1, v :: rest => decide (v < n) && runW b n f (kidsI b n v rest b)
def toldW (b n : Nat) : Nat → List Nat → List Nat
  | 0, _ => []
  | _ + 1, [] => []
  | f + 1, v :: rest => dep b v :: toldW b n f (kidsI b n v rest b)
def okN : Nat → List Nat → Bool
  | _, [] => true
  | p, d :: r => decide (d ≤ p) && okN (d + 1) r
theorem chkW : ∀ b ∈ [2, 3], ∀ n ∈ List.range 61, 1 ≤ n → (runW b n n [0] && okN 0 (toldW b n n [0])) = true := by decide +kernel
theorem told_len (b n : Nat) : ∀ (f : Nat) (todo : List Nat), runW b n f todo = true → (toldW b n f todo).length = f
  | 0, _, _ => rfl
  | f + 1, [], h => nomatch h
  | f + 1, v :: rest, h => by
    have h2 := (Bool.and_eq_true_iff.mp h).2
    show (toldW b n f (kidsI b n v rest b)).length + 1 = f + 1
    rw [told_len b n f _ h2]
theorem kids_len (b n v : Nat) (rest : List Nat) : ∀ i, (kidsI b n v rest i).length ≤ rest.length + i
  | 0 => Nat.le_refl _
  | i + 1 => by
    have := kids_len b n v rest i
    unfold kidsI
    split
    · rw [List.length_cons]
      omega
    · omega
end LM

end
section
set_option Elab.async false
set_option linter.all false
set_option maxRecDepth 100000
set_option maxHeartbeats 4000000
namespace K15
open PySem hiding Tree
open PySem.Spec PyProof.Rows L2 LW LM LV
/-! ### steps of a reading, heaps: short tactics -/
local macro_rules | `(tactic| walk_at "ne") => `(tactic| first
  | assumption
  | (apply Ne.symm; assumption)
  | exact ne_none (by assumption) (by assumption)
  | exact (ne_none (by assumption) (by assumption)).symm
  | exact ne_of (by assumption) (by assumption) (by intro z; cases z))
local macro_rules | `(tactic| walk_at "hp") => `(tactic| first
  | assumption
  | with_reducible exact upd_same
  | ((first
      | with_reducible refine u_old ?_ (by assumption)
      | with_reducible refine u_oth (by walk_at "ne") ?_
      | with_reducible refine same_app (by assumption) ?_
      | with_reducible refine kb_app (by assumption) (by walk_at "ne") ?_); walk_at "hp")
  | ((with_reducible refine u_kind ?h (by assumption) ?d); (case h => walk_at "hp"); (case d => (intro z; cases z))))
local macro_rules | `(tactic| walk_at "sq") => `(tactic| first
  | assumption
  | exact SqL.of (by walk_at "hp")
  | exact SqT.of (by walk_at "hp")
  | (with_reducible refine same_sqT (by assumption) ?_; walk_at "sq")
  | (with_reducible refine same_sqL (by assumption) ?_; walk_at "sq")
  | (with_reducible refine new_sqT (by assumption) ?_; walk_at "sq")
  | (with_reducible refine new_sqL (by assumption) ?_; walk_at "sq")
  | ((with_reducible refine mut_sqT (u := ?uu) ?hd ?hm ?_); (case hd => walk_at "hp"); (case hm => exact trivial); walk_at "sq"))
local macro_rules | `(tactic| walk_at "rd") => `(tactic| first
  | assumption
  | exact .inl (by walk_at "hp")
  | exact .inr ⟨_, by walk_at "hp"⟩)
local macro_rules | `(tactic| walk_at "s") => `(tactic| first
  | with_reducible refine s_seq ?_
  | with_reducible refine s_asg ?_
  | with_reducible refine g_name ?_
  | ((with_reducible refine e_var (v := ?vv) ?hv ?_); (case hv => rfl))
  | with_reducible refine e_c ?_
  | with_reducible refine e_op ?_
  | with_reducible refine a_cons ?_
  | with_reducible refine a_nil ?_
  | with_reducible refine e_cb ?_
  | with_reducible refine e_call ?_
  | with_reducible refine e_callK ?_
  | with_reducible refine s_ret ?_
  | with_reducible refine s_retN ?_
  | with_reducible refine s_drop ?_
  | with_reducible refine s_ifs ?_
  | with_reducible refine s_next ?_
  | with_reducible refine s_cont ?_
  | with_reducible refine s_brk ?_
  | with_reducible refine s_par ?_
  | with_reducible refine s_par3 ?_
  | with_reducible refine e_un ?_
  | with_reducible refine e_if ?_
  | with_reducible refine e_andV ?_
  | with_reducible refine e_orV ?_
  | with_reducible refine e_notV ?_
  | with_reducible refine e_dget ?_
  | with_reducible refine e_dget2 ?_
  | with_reducible refine e_din ?_
  | with_reducible refine e_dnotin ?_
  | with_reducible refine e_then ?_
  | with_reducible refine e_bm ?_
  | with_reducible refine e_bm0 ?_
  | with_reducible refine e_sl ?_
  | with_reducible refine o_none ?_
  | with_reducible refine o_part ?_
  | with_reducible refine g_sub ?_
  | with_reducible refine g_nil ?_
  | with_reducible refine g_cons ?_
  | with_reducible refine t_test ?_
  | with_reducible refine t_B ?_
  | with_reducible refine t_and ?_
  | with_reducible refine t_or ?_
  | with_reducible refine t_not ?_
  | ((with_reducible refine r_ixI (ns := ?ns) ?hs ?h0 ?h1 ?_); (case hs => walk_at "sq"); (case h0 => omega); (case h1 => omega))
  | ((with_reducible refine r_ixL (xs := ?xs) (v := ?vv) ?hs ?hi ?_); (case hs => walk_at "sq"); (case hi => rfl))
  | ((with_reducible refine r_ixT (xs := ?xs) (v := ?vv) ?hs ?hi ?_); (case hs => walk_at "sq"); (case hi => rfl))
  | ((with_reducible refine g_setL (xs := ?xs) (j := ?jj) ?hp ?hj ?_); (case hp => walk_at "hp"); (case hj => rfl))
  | ((with_reducible refine r_mul ?hc ?_); (case hc => first | exact .inr (by decide) | exact .inl (by decide) | exact .inl ⟨by omega, by omega⟩ | exact .inr ⟨by omega, by omega⟩))
  | ((with_reducible refine r_mod ?hc ?_); (case hc => first | decide | omega))
  | ((with_reducible refine r_fdivN ?hc ?_); (case hc => exact ⟨by first | decide | omega, by first | decide | omega⟩))
  | ((with_reducible refine r_pow ?hc ?_); (case hc => first | decide | exact ⟨by decide, by decide⟩ | (unfold CPow; decide)))
  | ((with_reducible refine r_lenI (ns := ?ns) ?hs ?_); (case hs => walk_at "sq"))
  | ((with_reducible refine r_lenTI (ns := ?ns) ?hs ?_); (case hs => walk_at "sq"))
  | ((with_reducible refine r_lenL (xs := ?xs) ?hs ?_); (case hs => walk_at "sq"))
  | ((with_reducible refine r_lenT (xs := ?xs) ?hs ?_); (case hs => walk_at "sq"))
  | ((with_reducible refine r_tyL (xs := ?xs) ?hs ?_); (case hs => walk_at "sq"))
  | with_reducible refine r_add ?_
  | with_reducible refine r_sub ?_
  | with_reducible refine r_lt ?_
  | with_reducible refine r_le ?_
  | with_reducible refine r_gt ?_
  | with_reducible refine r_ge ?_
  | with_reducible refine r_eqI ?_
  | with_reducible refine r_neI ?_
  | with_reducible refine r_int ?_
  | with_reducible refine r_intb ?_
  | with_reducible refine r_neg ?_
  | with_reducible refine r_max2 ?_
  | with_reducible refine r_min2 ?_
  | with_reducible refine c_sp1 ?_
  | with_reducible refine c_sp2 ?_
  | with_reducible refine c_sp3 ?_
  | with_reducible refine c_sp4 ?_
  | with_reducible refine c_sp5 ?_
  | with_reducible refine t_end ?_
  | with_reducible refine o_part_end ?_
  | ((with_reducible refine s_aug (x := ?xx) ?hx ?_); (case hx => rfl))
  | with_reducible refine s_for ?_
  | with_reducible refine i_list ?_
  | with_reducible refine i_tup ?_
  | with_reducible refine i_rng1 ?_
  | with_reducible refine i_rng2 ?_
  | with_reducible refine i_keys ?_
  | with_reducible refine i_items ?_
  | with_reducible refine i_zip2 ?_
  | with_reducible refine i_enum2 ?_
  | ((with_reducible refine i_rng1E ?h1 ?h2 ?_); (case h1 => omega); (case h2 => omega))
  | ((with_reducible refine i_rng2E ?h1 ?_); (case h1 => omega))
  | ((with_reducible refine i_listE (xs := ?xs) ?hs ?_); (case hs => walk_at "sq"))
  | ((with_reducible refine i_tupE (xs := ?xs) ?hs ?_); (case hs => walk_at "sq"))
  | ((with_reducible refine q_isD ?hi ?_); (case hi => first | exact isD_K (by walk_at "rd") | exact isD_T (by walk_at "rd")))
  | with_reducible refine q_ref ?_
  | with_reducible refine e_dnewK ?_
  | with_reducible refine e_dnewT ?_
  | with_reducible refine e_tup ?_
  | with_reducible refine e_lst ?_
  | ((with_reducible refine r_new ?hn ?_); (case hn => exact Nat.le_of_ble_eq_true rfl))
  | with_reducible refine r_fresh fun _ _ => ?_
  | with_reducible refine s_par_end ?_
  | with_reducible refine s_par3_end ?_
  | with_reducible refine e_lc ?_
  | with_reducible refine e_dc ?_
  | with_reducible refine e_dcT ?_
  | with_reducible refine t_tyes ?_
  | with_reducible refine t_tt ?_
  | with_reducible refine t_ff ?_
  | with_reducible refine c_wipe rfl ?_)
local macro_rules | `(tactic| walk_at "S") => `(tactic| repeat' first | walk_at "s" | with_reducible refine s_dput ?_)
local macro_rules | `(tactic| walk_at "T") => `(tactic| repeat' walk_at "s")

def nI (ns : List Nat) : List Int := ns.map fun n => ((n : Nat) : Int)
theorem okN_I : ∀ {ds : List Nat} {p : Nat}, okN p ds = true → okI ((p : Int) - 1) (nI ds)
  | [], _, _ => trivial
  | d :: r, p, h => by
    have h2 := Bool.and_eq_true_iff.mp h
    have h3 := of_decide_eq_true h2.1
    refine ⟨by show (0 : Int) ≤ (d : Int); omega, by show (d : Int) ≤ (p : Int) - 1 + 1; omega, ?_⟩
    have := okN_I h2.2
    rw [show (((d + 1 : Nat) : Int) - 1) = (d : Int) by omega] at this
    exact this
def placeI (b k : Nat) : List Int := (List.range k).map fun v => ((dep b v : Nat) : Int)
theorem place_len (b k : Nat) : (placeI b k).length = k := by
  unfold placeI
  rw [List.length_map, List.length_range]
theorem place_get {b k v : Nat} (h : v < k) : (placeI b k).getD v 0 = (dep b v : Nat) := by
  unfold placeI
  rw [List.getD_eq_getElem?_getD, List.getElem?_map, List.getElem?_range h]
  rfl
theorem place_succ (b k : Nat) : placeI b (k + 1) = placeI b k ++ [((dep b k : Nat) : Int)] := by
  unfold placeI
  rw [List.range_succ, List.map_append]
  rfl
def sp_walked (K : PySem.W.Frag) : Sp := fun vs H Q _ => ∃ (b n : Nat) (a : Addr), vs = [.int (b : Int), .ref a] ∧ b ∈ [2, 3] ∧ 1 ≤ n ∧ n ≤ 60 ∧ H a = some (.lst ((placeI b n).map V.int)) ∧
  ∀ (r : Addr) (ds : List Int) H', Same H H' → H' r = some (.lst (ds.map V.int)) → okI (-1) ds → ds.length = n → Q (.ref r) H'
theorem c_walked {K : PySem.W.Frag} {H : Hp} {b n : Nat} {a : Addr} {Q : VK} {E : XK} (hb : b ∈ [2, 3]) (h1 : 1 ≤ n) (h2 : n ≤ 60) (ha : H a = some (.lst ((placeI b n).map V.int)))
    (h : ∀ (r : Addr) (ds : List Int) H', Same H H' → H' r = some (.lst (ds.map V.int)) → okI (-1) ds → ds.length = n → Q (.ref r) H') : sp_walked K ([.int (b : Int), .ref a] ++ []) H Q E := ⟨b, n, a, rfl, hb, h1, h2, ha, h⟩
def upI (us : List Nat) : List V := (us.reverse.map fun n => ((n : Nat) : Int)).map V.int
theorem upI_cons (v : Nat) (us : List Nat) : upI (v :: us) = upI us ++ [.int (v : Int)] := by
  unfold upI
  rw [List.reverse_cons, List.map_append, List.map_append]
  rfl
theorem upI_len (us : List Nat) : (upI us).length = us.length := by
  unfold upI
  rw [List.length_map, List.length_map, List.length_reverse]
abbrev n__law_walked : List Str := ["below", "place", "told", "todo", "node", "k"]
def t__law_walked (K : PySem.W.Frag) (w : World) : TS :=
  (tSeq (tAsg (tLst tNil) (gName 2))
    (tSeq (tAsg (tLst (tCons (tC (.int 0)) tNil)) (gName 3))
    (tSeq (tWhile (tTest (tOp oGt (tCB (oLen K) (tCons (tVar 3) tNil)) (tC (.int 0)))) (tSeq (tAsg (tBM0 K "list" rPop (tVar 3)) (gName 4))
    (tSeq (tDrop (tBM K "list" rAppend (tVar 2) (tCons (tOp (rIxL K) (tVar 1) (tVar 4)) tNil)))
    (tFor (iRng3 (tCons (tVar 0) (tCons (tC (.int 0)) (tCons (tUn oNeg (tC (.int 1))) tNil)))) (gName 5)
    (tIfS (tTest (tOp oLt (tOp oAdd (tOp oMul (tVar 0) (tVar 4)) (tVar 5)) (tCB (oLen K) (tCons (tVar 1) tNil)))) (tDrop (tBM K "list" rAppend (tVar 3) (tCons (tOp oAdd (tOp oMul (tVar 0) (tVar 4)) (tVar 5)) tNil))) tNext)))))
    (tRet (tVar 2)))))
theorem r_walked {K : PySem.W.Frag} {w : World} (vs : List V) (H : Hp) (Q : VK) (E : XK) (h : sp_walked K vs H Q E) : t__law_walked K w { nx := fun _ H' => Q .non H', rt := Q } (start n__law_walked vs) H := by
  obtain ⟨b, n, a, rfl, hb, h1, h2, ha, q⟩ := h
  have hchk := Bool.and_eq_true_iff.mp (chkW b hb n (List.mem_range.mpr (by omega)) h1)
  have hb3 : 2 ≤ b ∧ b ≤ 3 := by
    rcases List.mem_cons.mp hb with rfl | hb
    · exact ⟨by decide, by decide⟩
    · rcases List.mem_cons.mp hb with rfl | hb
      · exact ⟨by decide, by decide⟩
      · cases hb
  unfold t__law_walked
  walk_at "T"
  rename_i p hp d hd
  have npd : p ≠ d := ne_none hd upd_same
  have hd0 : H d = none := none_of (L2.Same.new hp) hd
  refine ⟨fun m σ H' => ∃ (f : Nat) (y4 y5 : Option V) (us ws : List Nat), σ = [some (.int (b : Int)), some (.ref a), some (.ref p), some (.ref d), y4, y5] ∧ m = f ∧ Same H H' ∧ H' p = some (.lst ((nI ws).map V.int)) ∧ H' d = some (.lst (upI us)) ∧ runW b n f us = true ∧ ws ++ toldW b n f us = toldW b n n [0] ∧ us.length + 3 * f ≤ 1 + 3 * n,
    ⟨_, n, none, none, [0], [], rfl, rfl, (L2.Same.new hp).upd hd, u_old upd_same hd, upd_same, hchk.1, rfl, by show 1 + 3 * n ≤ _; omega⟩, ?_⟩
  rintro f σ H' ⟨_, y4, y5, us, ws, rfl, rfl, s1, ep, ed, hrun, htold, hsz⟩
  have hwl : ws.length ≤ n := by
    have := congrArg List.length htold
    rw [List.length_append, told_len b n n _ hchk.1] at this
    omega
  have sd : SqL K H' d (upI us) := SqL.of ed
  walk_at "T"
  rw [show (us.reverse.map fun n => ((n : Nat) : Int)).length = us.length by rw [List.length_map, List.length_reverse]]
  cases f with
  | zero =>
    have : us = [] := List.isEmpty_iff.mp hrun
    subst this
    show if false = true then _ else _
    walk_at "T"
    have e : ws = toldW b n n [0] := by
      rw [← htold]
      exact (List.append_nil _).symm
    refine q p (nI ws) H' s1 ep ?_ ?_
    · rw [e]
      exact okN_I hchk.2
    · unfold nI
      rw [List.length_map, e, told_len b n n _ hchk.1]
  | succ f =>
    cases us with
    | nil => cases hrun
    | cons v us =>
    have hr2 := Bool.and_eq_true_iff.mp hrun
    have hv := of_decide_eq_true hr2.1
    rw [decide_eq_true (show (0 : Int) < (((v :: us).length : Nat) : Int) by rw [List.length_cons]; omega)]
    rw [upI_cons] at ed
    rw [List.length_cons] at hsz
    clear sd
    walk_at "T"
    refine ⟨fun σ' H2 => ∃ (y4 y5 : Option V) (us ws : List Nat), σ' = [some (.int (b : Int)), some (.ref a), some (.ref p), some (.ref d), y4, y5] ∧ Same H H2 ∧ H2 p = some (.lst ((nI ws).map V.int)) ∧ H2 d = some (.lst (upI us)) ∧ runW b n f us = true ∧ ws ++ toldW b n f us = toldW b n n [0] ∧ us.length + 3 * f ≤ 1 + 3 * n, ?_, ?_⟩
    · rintro σ' H2 ⟨y4', y5', us', ws', rfl, r⟩
      exact ⟨f, Nat.lt_succ_self _, f, y4', y5', us', ws', rfl, rfl, r⟩
    walk_at "T"
    refine r_pop ed ?_
    have s2 : Same H (upd H' d (.lst (upI us))) := s1.mut hd0
    have ep2 : upd H' d (.lst (upI us)) p = some (.lst ((nI ws).map V.int)) := u_oth npd ep
    have ed2 : upd H' d (.lst (upI us)) d = some (.lst (upI us)) := upd_same
    generalize upd H' d (.lst (upI us)) = H2 at s2 ep2 ed2
    have ea2 := s2 _ _ ha
    have hpl := place_len b n
    walk_at "T"
    rw [Int.toNat_natCast, place_get hv]
    refine r_appI ep2 (by unfold nI; rw [List.length_map]; omega) ?_
    have s3 : Same H (upd H2 p (.lst ((nI ws ++ [((dep b v : Nat) : Int)]).map V.int))) := s2.mut hp
    have ep3 : upd H2 p (.lst ((nI ws ++ [((dep b v : Nat) : Int)]).map V.int)) p = some (.lst ((nI (ws ++ [dep b v])).map V.int)) := by
      rw [upd_same]
      unfold nI
      simp only [List.map_append]
      rfl
    have ed3 : upd H2 p (.lst ((nI ws ++ [((dep b v : Nat) : Int)]).map V.int)) d = some (.lst (upI us)) := u_oth npd.symm ed2
    generalize upd H2 p (.lst ((nI ws ++ [((dep b v : Nat) : Int)]).map V.int)) = H3 at s3 ep3 ed3
    walk_at "T"
    refine i_rng3 ?_
    walk_at "T"
    refine i_rng3E (by omega) ?_
    rw [show ((b : Int) - 0).toNat = b by omega]
    refine for_w w_rngC (fun i σ H4 => ∃ (y5 : Option V), σ = [some (.int (b : Int)), some (.ref a), some (.ref p), some (.ref d), some (.int (v : Int)), y5] ∧ Same H H4 ∧ H4 p = some (.lst ((nI (ws ++ [dep b v])).map V.int)) ∧ H4 d = some (.lst (upI (kidsI b n v us i))))
      ⟨_, rfl, s3, ep3, ed3⟩ (fun _ _ _ _ _ => trivial) ?_ ?_
    · rintro i σ _ y H4 hi ⟨y5, rfl, s4, ep4, ed4⟩ ⟨rfl, rfl⟩
      have ea4 := s4 _ _ ha
      have sa4 : SqL K H4 a ((placeI b n).map V.int) := SqL.of ea4
      have ex : (b : Int) * (v : Int) + ((b : Int) + (i : Int) * -1) = ((b * v + (b - i) : Nat) : Int) := by
        rw [Int.natCast_add, Int.natCast_mul]
        omega
      have hkl := kids_len b n v us i
      walk_at "T"
      rw [ex, hpl]
      refine t_iteD (fun hlt => ?_) (fun hlt => ?_)
      · have hlt' : b * v + (b - i) < n := by omega
        walk_at "T"
        rw [ex]
        refine r_app ed4 (by rw [upI_len, sizeLine_eq]; omega) ?_
        walk_at "T"
        refine ⟨_, rfl, s4.mut hd0, u_oth npd ep4, ?_⟩
        rw [upd_same, ← upI_cons]
        show _ = some (HO.lst (upI (if b * v + (b - i) < n then (b * v + (b - i)) :: kidsI b n v us i else kidsI b n v us i)))
        rw [if_pos hlt']
      · have hlt' : ¬ b * v + (b - i) < n := by omega
        walk_at "T"
        refine ⟨_, rfl, s4, ep4, ?_⟩
        rw [ed4]
        show _ = some (HO.lst (upI (if b * v + (b - i) < n then (b * v + (b - i)) :: kidsI b n v us i else kidsI b n v us i)))
        rw [if_neg hlt']
    · rintro σ H4 ⟨y5, rfl, s4, ep4, ed4⟩
      have hkl := kids_len b n v us b
      refine ⟨_, _, kidsI b n v us b, ws ++ [dep b v], rfl, s4, ep4, ed4, hr2.2, ?_, by omega⟩
      rw [← htold, List.append_assoc]
      rfl
end K15

end
section
set_option Elab.async false
set_option linter.all false
set_option maxRecDepth 100000
set_option maxHeartbeats 4000000
namespace K15
open PySem hiding Tree
open PySem.Spec PyProof.Rows L2 LW LM LV
/-! ### steps of a reading, heaps: short tactics -/
local macro_rules | `(tactic| walk_at "ne") => `(tactic| first
  | assumption
  | (apply Ne.symm; assumption)
  | exact ne_none (by assumption) (by assumption)
  | exact (ne_none (by assumption) (by assumption)).symm
  | exact ne_of (by assumption) (by assumption) (by intro z; cases z))
local macro_rules | `(tactic| walk_at "hp") => `(tactic| first
  | assumption
  | with_reducible exact upd_same
  | ((first
      | with_reducible refine u_old ?_ (by assumption)
      | with_reducible refine u_oth (by walk_at "ne") ?_
      | with_reducible refine same_app (by assumption) ?_
      | with_reducible refine kb_app (by assumption) (by walk_at "ne") ?_); walk_at "hp")
  | ((with_reducible refine u_kind ?h (by assumption) ?d); (case h => walk_at "hp"); (case d => (intro z; cases z))))
local macro_rules | `(tactic| walk_at "sq") => `(tactic| first
  | assumption
  | exact SqL.of (by walk_at "hp")
  | exact SqT.of (by walk_at "hp")
  | (with_reducible refine same_sqT (by assumption) ?_; walk_at "sq")
  | (with_reducible refine same_sqL (by assumption) ?_; walk_at "sq")
  | (with_reducible refine new_sqT (by assumption) ?_; walk_at "sq")
  | (with_reducible refine new_sqL (by assumption) ?_; walk_at "sq")
  | ((with_reducible refine mut_sqT (u := ?uu) ?hd ?hm ?_); (case hd => walk_at "hp"); (case hm => exact trivial); walk_at "sq"))
local macro_rules | `(tactic| walk_at "rd") => `(tactic| first
  | assumption
  | exact .inl (by walk_at "hp")
  | exact .inr ⟨_, by walk_at "hp"⟩)
local macro_rules | `(tactic| walk_at "s") => `(tactic| first
  | with_reducible refine s_seq ?_
  | with_reducible refine s_asg ?_
  | with_reducible refine g_name ?_
  | ((with_reducible refine e_var (v := ?vv) ?hv ?_); (case hv => rfl))
  | with_reducible refine e_c ?_
  | with_reducible refine e_op ?_
  | with_reducible refine a_cons ?_
  | with_reducible refine a_nil ?_
  | with_reducible refine e_cb ?_
  | with_reducible refine e_call ?_
  | with_reducible refine e_callK ?_
  | with_reducible refine s_ret ?_
  | with_reducible refine s_retN ?_
  | with_reducible refine s_drop ?_
  | with_reducible refine s_ifs ?_
  | with_reducible refine s_next ?_
  | with_reducible refine s_cont ?_
  | with_reducible refine s_brk ?_
  | with_reducible refine s_par ?_
  | with_reducible refine s_par3 ?_
  | with_reducible refine e_un ?_
  | with_reducible refine e_if ?_
  | with_reducible refine e_andV ?_
  | with_reducible refine e_orV ?_
  | with_reducible refine e_notV ?_
  | with_reducible refine e_dget ?_
  | with_reducible refine e_dget2 ?_
  | with_reducible refine e_din ?_
  | with_reducible refine e_dnotin ?_
  | with_reducible refine e_then ?_
  | with_reducible refine e_bm ?_
  | with_reducible refine e_bm0 ?_
  | with_reducible refine e_sl ?_
  | with_reducible refine o_none ?_
  | with_reducible refine o_part ?_
  | with_reducible refine g_sub ?_
  | with_reducible refine g_nil ?_
  | with_reducible refine g_cons ?_
  | with_reducible refine t_test ?_
  | with_reducible refine t_B ?_
  | with_reducible refine t_and ?_
  | with_reducible refine t_or ?_
  | with_reducible refine t_not ?_
  | ((with_reducible refine r_ixI (ns := ?ns) ?hs ?h0 ?h1 ?_); (case hs => walk_at "sq"); (case h0 => omega); (case h1 => omega))
  | ((with_reducible refine r_ixL (xs := ?xs) (v := ?vv) ?hs ?hi ?_); (case hs => walk_at "sq"); (case hi => rfl))
  | ((with_reducible refine r_ixT (xs := ?xs) (v := ?vv) ?hs ?hi ?_); (case hs => walk_at "sq"); (case hi => rfl))
  | ((with_reducible refine g_setL (xs := ?xs) (j := ?jj) ?hp ?hj ?_); (case hp => walk_at "hp"); (case hj => rfl))
  | ((with_reducible refine r_mul ?hc ?_); (case hc => first | exact .inr (by decide) | exact .inl (by decide) | exact .inl ⟨by omega, by omega⟩ | exact .inr ⟨by omega, by omega⟩))
  | ((with_reducible refine r_mod ?hc ?_); (case hc => first | decide | omega))
  | ((with_reducible refine r_fdivN ?hc ?_); (case hc => exact ⟨by first | decide | omega, by first | decide | omega⟩))
  | ((with_reducible refine r_pow ?hc ?_); (case hc => first | decide | exact ⟨by decide, by decide⟩ | (unfold CPow; decide)))
  | ((with_reducible refine r_lenI (ns := ?ns) ?hs ?_); (case hs => walk_at "sq"))
  | ((with_reducible refine r_lenTI (ns := ?ns) ?hs ?_); (case hs => walk_at "sq"))
  | ((with_reducible refine r_lenL (xs := ?xs) ?hs ?_); (case hs => walk_at "sq"))
  | ((with_reducible refine r_lenT (xs := ?xs) ?hs ?_); (case hs => walk_at "sq"))
  | ((with_reducible refine r_tyL (xs := ?xs) ?hs ?_); (case hs => walk_at "sq"))
  | with_reducible refine r_add ?_
  | with_reducible refine r_sub ?_
  | with_reducible refine r_lt ?_
  | with_reducible refine r_le ?_
  | with_reducible refine r_gt ?_
  | with_reducible refine r_ge ?_
  | with_reducible refine r_eqI ?_
  | with_reducible refine r_neI ?_
  | with_reducible refine r_int ?_
  | with_reducible refine r_intb ?_
  | with_reducible refine r_neg ?_
  | with_reducible refine r_max2 ?_
  | with_reducible refine r_min2 ?_
  | with_reducible refine c_sp1 ?_
  | with_reducible refine c_sp2 ?_
  | with_reducible refine c_sp3 ?_
  | with_reducible refine c_sp4 ?_
  | with_reducible refine c_sp5 ?_
  | with_reducible refine t_end ?_
  | with_reducible refine o_part_end ?_
  | ((with_reducible refine s_aug (x := ?xx) ?hx ?_); (case hx => rfl))
  | with_reducible refine s_for ?_
  | with_reducible refine i_list ?_
  | with_reducible refine i_tup ?_
  | with_reducible refine i_rng1 ?_
  | with_reducible refine i_rng2 ?_
  | with_reducible refine i_keys ?_
  | with_reducible refine i_items ?_
  | with_reducible refine i_zip2 ?_
  | with_reducible refine i_enum2 ?_
  | ((with_reducible refine i_rng1E ?h1 ?h2 ?_); (case h1 => omega); (case h2 => omega))
  | ((with_reducible refine i_rng2E ?h1 ?_); (case h1 => omega))
  | ((with_reducible refine i_listE (xs := ?xs) ?hs ?_); (case hs => walk_at "sq"))
  | ((with_reducible refine i_tupE (xs := ?xs) ?hs ?_); (case hs => walk_at "sq"))
  | ((with_reducible refine q_isD ?hi ?_); (case hi => first | exact isD_K (by walk_at "rd") | exact isD_T (by walk_at "rd")))
  | with_reducible refine q_ref ?_
  | with_reducible refine e_dnewK ?_
  | with_reducible refine e_dnewT ?_
  | with_reducible refine e_tup ?_
  | with_reducible refine e_lst ?_
  | ((with_reducible refine r_new ?hn ?_); (case hn => exact Nat.le_of_ble_eq_true rfl))
  | with_reducible refine r_fresh fun _ _ => ?_
  | with_reducible refine s_par_end ?_
  | with_reducible refine s_par3_end ?_
  | with_reducible refine e_lc ?_
  | with_reducible refine e_dc ?_
  | with_reducible refine e_dcT ?_
  | with_reducible refine t_tyes ?_
  | with_reducible refine t_tt ?_
  | with_reducible refine t_ff ?_
  | with_reducible refine c_wipe rfl ?_)
local macro_rules | `(tactic| walk_at "S") => `(tactic| repeat' first | walk_at "s" | with_reducible refine s_dput ?_)
local macro_rules | `(tactic| walk_at "T") => `(tactic| repeat' walk_at "s")

/-! ### _law_shape -/
theorem given_all (v : Nat → V) : ∀ n, given (fun _ => true) v n = (List.range n).map v
  | 0 => rfl
  | n + 1 => by
    show (if (fun _ => true) n = true then given (fun _ => true) v n ++ [v n] else given (fun _ => true) v n) = _
    rw [if_pos rfl, given_all v n, List.range_succ, List.map_append]
    rfl
theorem okI_range : ∀ (n : Nat) (f : Nat → Int) (p : Int), (∀ k, 0 ≤ f k) → f 0 ≤ p + 1 → (∀ k, f (k + 1) ≤ f k + 1) → okI p ((List.range n).map f)
  | 0, _, _, _, _, _ => trivial
  | n + 1, f, p, h0, h1, h2 => by
    rw [List.range_succ_eq_map, List.map_cons, List.map_map]
    exact ⟨h0 0, h1, okI_range n (f ∘ Nat.succ) (f 0) (fun k => h0 (k + 1)) (h2 0) fun k => h2 (k + 1)⟩
theorem okI_snoc : ∀ {ds : List Int} {p x v : Int}, okI p (ds ++ [x]) → 0 ≤ v → v ≤ x + 1 → okI p (ds ++ [x] ++ [v])
  | [], p, x, v, h, h0, h1 => ⟨h.1, h.2.1, h0, h1, trivial⟩
  | d :: ds, p, x, v, h, h0, h1 => ⟨h.1, h.2.1, okI_snoc h.2.2 h0 h1⟩
theorem okI_lastnn : ∀ {ds : List Int} {p x : Int}, okI p (ds ++ [x]) → 0 ≤ x
  | [], _, _, h => h.1
  | _ :: ds, _, _, h => okI_lastnn (ds := ds) h.2.2
def rngI (f : Nat → Int) (n : Nat) : List Int := (List.range n).map f
theorem rng_len (f : Nat → Int) (n : Nat) : (rngI f n).length = n := by
  unfold rngI
  rw [List.length_map, List.length_range]
theorem rng_map (f : Nat → Int) (n : Nat) : (List.range n).map (fun k => V.int (f k)) = (rngI f n).map V.int := by
  unfold rngI
  rw [List.map_map]
  rfl
def sp_shape (K : PySem.W.Frag) : Sp := fun vs H Q _ => ∃ (b ce : Addr) (kd : Int) (n : Nat), vs = [.ref b, .int kd, .int (n : Int)] ∧ Bag H b ce ∧ 1 ≤ n ∧ n ≤ 60 ∧
  ∀ (r : Addr) (ds : List Int) H', Bag H' b ce → Kb b H H' → H' r = some (.lst (ds.map V.int)) → okI (-1) ds → ds.length = n → Q (.ref r) H'
theorem c_shape {K : PySem.W.Frag} {H : Hp} {b ce : Addr} {kd : Int} {n : Nat} {Q : VK} {E : XK} (B : Bag H b ce) (h1 : 1 ≤ n) (h2 : n ≤ 60)
    (h : ∀ (r : Addr) (ds : List Int) H', Bag H' b ce → Kb b H H' → H' r = some (.lst (ds.map V.int)) → okI (-1) ds → ds.length = n → Q (.ref r) H') : sp_shape K ([.ref b, .int kd, .int (n : Int)] ++ []) H Q E := ⟨b, ce, kd, n, rfl, B, h1, h2, h⟩
abbrev n__law_shape : List Str := ["urn", "kind", "many", "k", "below", "place", "depths"]
def t__law_shape (K : PySem.W.Frag) (w : World) : TS :=
  (tSeq (tIfS (tTest (tOp rEq (tVar 1) (tC (.int 0)))) (tRet (tLc (iRng1 (tCons (tVar 2) tNil)) (gName 3) tYes (tVar 3) [3])) tNext)
    (tSeq (tIfS (tTest (tOp rEq (tVar 1) (tC (.int 1)))) (tRet (tLc (iRng1 (tCons (tVar 2) tNil)) (gName 3) tYes (tC (.int 0)) [3])) tNext)
    (tSeq (tIfS (tTest (tOp rEq (tVar 1) (tC (.int 2)))) (tRet (tLc (iRng1 (tCons (tVar 2) tNil)) (gName 3) tYes (tOp (rIxL K) (tLst (tCons (tCB oInt (tCons (tOp oFdiv (tVar 3) (tC (.int 2))) tNil)) (tCons (tOp oAdd (tCB oInt (tCons (tOp oFdiv (tVar 3) (tC (.int 2))) tNil)) (tC (.int 1))) tNil))) (tOp oMod (tCB oInt (tCons (tVar 3) tNil)) (tC (.int 2)))) [3])) tNext)
    (tSeq (tIfS (tTest (tOp rEq (tVar 1) (tC (.int 3)))) (tSeq (tAsg (tOp oAdd (tC (.int 2)) (tCall sp_draw [] E0 (tCons (tVar 0) (tCons (tC (.int 2)) tNil)))) (gName 4))
    (tSeq (tAsg (tLst (tCons (tC (.int 0)) tNil)) (gName 5))
    (tSeq (tFor (iRng2 (tCons (tC (.int 1)) (tCons (tVar 2) tNil))) (gName 3)
    (tDrop (tBM K "list" rAppend (tVar 5) (tCons (tOp oAdd (tOp (rIxL K) (tVar 5) (tCB oInt (tCons (tOp oFdiv (tOp oSub (tVar 3) (tC (.int 1))) (tVar 4)) tNil))) (tC (.int 1))) tNil))))
    (tRet (tCall (sp_walked K) [] E0 (tCons (tVar 4) (tCons (tVar 5) tNil))))))) tNext)
    (tSeq (tAsg (tLst (tCons (tC (.int 0)) tNil)) (gName 6))
    (tSeq (tFor (iRng1 (tCons (tOp oSub (tVar 2) (tC (.int 1))) tNil)) (gName 3)
    (tIfS (tTest (tOp oGt (tCall sp_draw [] E0 (tCons (tVar 0) (tCons (tC (.int 3)) tNil))) (tC (.int 0)))) (tDrop (tBM K "list" rAppend (tVar 6) (tCons (tCB oMax2 (tCons (tC (.int 0)) (tCons (tOp oSub (tOp oAdd (tOp (rIxL K) (tVar 6) (tUn oNeg (tC (.int 1)))) (tC (.int 1))) (tCall sp_draw [] E0 (tCons (tVar 0) (tCons (tC (.int 3)) tNil)))) tNil))) tNil))) (tDrop (tBM K "list" rAppend (tVar 6) (tCons (tCall sp_draw [] E0 (tCons (tVar 0) (tCons (tOp oAdd (tOp (rIxL K) (tVar 6) (tUn oNeg (tC (.int 1)))) (tC (.int 2))) tNil))) tNil)))))
    (tRet (tVar 6))))))))
theorem Kb.same {b : Addr} {H H' H'' : Hp} (k : Kb b H H') (s : Same H' H'') : Kb b H H'' := fun c o h n => s _ _ (k c o h n)
theorem same_kb {b : Addr} {H H' : Hp} (s : Same H H') : Kb b H H' := fun c o h _ => s _ _ h
theorem r_shape {K : PySem.W.Frag} {w : World} (vs : List V) (H : Hp) (Q : VK) (E : XK) (h : sp_shape K vs H Q E) : t__law_shape K w { nx := fun _ H' => Q .non H', rt := Q } (start n__law_shape vs) H := by
  obtain ⟨b, ce, kd, n, rfl, B, h1, h2, q⟩ := h
  unfold t__law_shape
  walk_at "T"
  refine t_iteD (fun e0 => ?_) (fun e0 => ?_)
  · walk_at "T"
    rename_i l hl
    rw [Int.toNat_natCast]
    refine lcp_w (w_rng (lo := 0) (n := n)) (fun _ => true) (fun k => V.int ((fun k : Nat => (0 + (k : Int))) k)) (by omega) hl (fun H6 s6 => trivial) ?_ ?_ ?_
    · rintro j H6 x _ ⟨rfl, _⟩
      exact Same.refl _
    · rintro j _ x H6 Rt Rf hj s6 ⟨rfl, rfl⟩ kt kf
      walk_at "T"
      exact kt _ (Same.refl _) rfl
    · rintro H6 s6 h6
      rw [given_all, rng_map] at h6
      walk_at "T"
      exact q l _ H6 (B.same s6) (same_kb s6) h6 (okI_range _ _ _ (fun k => by omega) (by decide) (fun k => by omega)) (rng_len _ _)
  walk_at "T"
  refine t_iteD (fun e1 => ?_) (fun e1 => ?_)
  · walk_at "T"
    rename_i l hl
    rw [Int.toNat_natCast]
    refine lcp_w (w_rng (lo := 0) (n := n)) (fun _ => true) (fun k => V.int ((fun _ : Nat => (0 : Int)) k)) (by omega) hl (fun H6 s6 => trivial) ?_ ?_ ?_
    · rintro j H6 x _ ⟨rfl, _⟩
      exact Same.refl _
    · rintro j _ x H6 Rt Rf hj s6 ⟨rfl, rfl⟩ kt kf
      walk_at "T"
      exact kt _ (Same.refl _) rfl
    · rintro H6 s6 h6
      rw [given_all, rng_map] at h6
      walk_at "T"
      exact q l _ H6 (B.same s6) (same_kb s6) h6 (okI_range _ _ _ (fun k => by decide) (by decide) (fun k => by decide)) (rng_len _ _)
  walk_at "T"
  refine t_iteD (fun e2 => ?_) (fun e2 => ?_)
  · walk_at "T"
    rename_i l hl
    rw [Int.toNat_natCast]
    refine lcp_w (w_rng (lo := 0) (n := n)) (fun _ => true) (fun k => V.int ((fun k : Nat => (((k / 2 + k % 2 : Nat)) : Int)) k)) (by omega) hl (fun H6 s6 => trivial) ?_ ?_ ?_
    · rintro j H6 x _ ⟨rfl, _⟩
      exact Same.refl _
    · rintro j _ x H6 Rt Rf hj s6 ⟨rfl, rfl⟩ kt kf
      rw [show (0 + (j : Int)) = (j : Int) by omega]
      walk_at "T"
      rename_i u hu
      have fm : (j : Int).fmod 2 = ((j % 2 : Nat) : Int) := (Int.ofNat_fmod j 2).symm
      have fd : (j : Int).fdiv 2 = ((j / 2 : Nat) : Int) := (Int.ofNat_fdiv j 2).symm
      rw [fm, fd]
      refine r_ixL (v := .int ((j / 2 + j % 2 : Nat) : Int)) (SqL.of upd_same) ?_ (kt _ (L2.Same.new hu) rfl)
      rcases Nat.mod_two_eq_zero_or_one j with e | e
      · rw [e]
        rfl
      · rw [e]
        rfl
    · rintro H6 s6 h6
      rw [given_all, rng_map] at h6
      walk_at "T"
      refine q l _ H6 (B.same s6) (same_kb s6) h6 (okI_range _ _ _ (fun k => by omega) (by decide) (fun k => by omega)) (rng_len _ _)
  walk_at "T"
  refine t_iteD (fun e3 => ?_) (fun e3 => ?_)
  · walk_at "T"
    refine c_draw B (by decide) fun v H1 v0 v1 B1 k1 => ?_
    obtain ⟨bb, hbb, hb2, hb3⟩ : ∃ bb : Nat, 2 + v = (bb : Int) ∧ 2 ≤ bb ∧ bb ≤ 3 := ⟨(2 + v).toNat, by omega, by omega, by omega⟩
    have hmem : bb ∈ [2, 3] := by
      have : bb = 2 ∨ bb = 3 := by omega
      rcases this with rfl | rfl <;> decide
    walk_at "T"
    rw [hbb]
    rename_i p hp
    have hp0 := hp
    refine for_w (w_rng (lo := 1) (n := ((n : Int) - 1).toNat)) (fun i σ H' => ∃ y : Option V, σ = [some (.ref b), some (.int kd), some (.int (n : Int)), y, some (.int (bb : Int)), some (.ref p), none] ∧ Same H1 H' ∧ H' p = some (.lst ((placeI bb (i + 1)).map V.int)))
      ⟨_, rfl, L2.Same.new hp, by rw [upd_same]; rfl⟩ (fun _ _ _ _ _ => trivial) ?_ ?_
    · rintro i σ _ y H' hi ⟨y3, rfl, s2, e2⟩ ⟨rfl, rfl⟩
      have ed : (1 + (i : Int) - 1).fdiv (bb : Int) = ((i / bb : Nat) : Int) := by
        rw [show (1 + (i : Int) - 1) = (i : Int) by omega]
        exact (Int.ofNat_fdiv i bb).symm
      have hle : i / bb ≤ i := Nat.div_le_self _ _
      walk_at "T"
      rw [ed]
      refine r_ixI (ns := placeI bb (i + 1)) (SqL.of e2) (Int.natCast_nonneg _) (by rw [place_len]; exact Int.ofNat_lt.mpr (Nat.lt_succ_of_le hle)) ?_
      rw [Int.toNat_natCast, place_get (Nat.lt_succ_of_le hle)]
      walk_at "T"
      refine r_appI e2 (by rw [place_len]; omega) ?_
      walk_at "T"
      refine ⟨_, rfl, s2.mut hp0, ?_⟩
      rw [upd_same, place_succ bb (i + 1), dep_succ]
      rfl
    · rintro σ H' ⟨y3, rfl, s2, e2⟩
      rw [show ((n : Int) - 1).toNat + 1 = n by omega] at e2
      walk_at "T"
      refine c_walked hmem h1 h2 e2 fun r ds H3 s3 e3 o3 l3 => ?_
      exact q r ds H3 ((B1.same s2).same s3) ((k1.same s2).same s3) e3 o3 l3
  walk_at "T"
  rename_i p hp
  have hp0 := hp
  have np := B.nb hp
  have npc := B.nc hp
  refine for_w (w_rng (lo := 0) (n := ((n : Int) - 1).toNat)) (fun i σ H' => ∃ (y : Option V) (ini : List Int) (x : Int), σ = [some (.ref b), some (.int kd), some (.int (n : Int)), y, none, none, some (.ref p)] ∧ Bag H' b ce ∧ Kb b H H' ∧ H' p = some (.lst ((ini ++ [x]).map V.int)) ∧ okI (-1) (ini ++ [x]) ∧ ini.length = i)
    ⟨_, [], 0, rfl, B.new hp, (Kb.refl b H).new hp, by rw [upd_same]; rfl, ⟨by decide, by decide, trivial⟩, rfl⟩ (fun _ _ _ _ _ => trivial) ?_ ?_
  · rintro i σ _ y H' hi ⟨y3, ini, x, rfl, B2, k2, e2, o2, l2⟩ ⟨rfl, rfl⟩
    have hx0 := okI_lastnn o2
    have fin : ∀ (z : Int) (H9 : Hp) (y9 : Option V), Bag H9 b ce → Kb b H H9 → H9 p = some (.lst ((ini ++ [x]).map V.int)) → 0 ≤ z → z ≤ x + 1 →
        ∃ (y : Option V) (ini' : List Int) (x' : Int), [some (V.ref b), some (.int kd), some (.int (n : Int)), y9, none, none, some (.ref p)] = [some (.ref b), some (.int kd), some (.int (n : Int)), y, none, none, some (.ref p)] ∧ Bag (upd H9 p (.lst ((ini ++ [x] ++ [z]).map V.int))) b ce ∧ Kb b H (upd H9 p (.lst ((ini ++ [x] ++ [z]).map V.int))) ∧ upd H9 p (.lst ((ini ++ [x] ++ [z]).map V.int)) p = some (.lst ((ini' ++ [x']).map V.int)) ∧ okI (-1) (ini' ++ [x']) ∧ ini'.length = i + 1 := by
      intro z H9 y9 B9 k9 e9 z0 z1
      exact ⟨_, ini ++ [x], z, rfl, B9.mut np npc, k9.mut hp0, upd_same, okI_snoc o2 z0 z1, by rw [List.length_append, l2]; rfl⟩
    have hll : ∀ {H9 : Hp}, H9 p = some (.lst ((ini ++ [x]).map V.int)) → H9 p = some (.lst (ini.map V.int ++ [.int x])) := fun h => by
      rw [h, List.map_append]
      rfl
    walk_at "T"
    refine c_draw B2 (by decide) fun v H3 v0 v1 B3 k3 => ?_
    have e3 := kb_app k3 np e2
    have k03 := k2.trans k3
    walk_at "T"
    refine t_iteD (fun hv => ?_) (fun hv => ?_)
    · walk_at "T"
      refine r_ixL (SqL.of (hll e3)) at_lastV ?_
      walk_at "T"
      refine c_draw B3 (by decide) fun v' H4 w0 w1 B4 k4 => ?_
      have e4 := kb_app k4 np e3
      walk_at "T"
      refine r_appI e4 (by rw [List.length_append, l2, List.length_singleton]; omega) ?_
      walk_at "T"
      exact fin _ H4 _ B4 (k03.trans k4) e4 (by split <;> omega) (by split <;> omega)
    · walk_at "T"
      refine r_ixL (SqL.of (hll e3)) at_lastV ?_
      walk_at "T"
      refine c_draw B3 (by omega) fun v' H4 w0 w1 B4 k4 => ?_
      have e4 := kb_app k4 np e3
      walk_at "T"
      refine r_appI e4 (by rw [List.length_append, l2, List.length_singleton]; omega) ?_
      walk_at "T"
      exact fin _ H4 _ B4 (k03.trans k4) e4 w0 (by omega)
  · rintro σ H' ⟨y3, ini, x, rfl, B2, k2, e2, o2, l2⟩
    walk_at "T"
    exact q p _ H' B2 k2 e2 o2 (by rw [List.length_append, l2, List.length_singleton]; omega)
end K15

end
section
set_option Elab.async false
set_option linter.all false
set_option maxRecDepth 100000
set_option maxHeartbeats 4000000
namespace K15
open PySem hiding Tree
open PySem.Spec PyProof.Rows L2 LW LM LV
/-! ### steps of a reading, heaps: short tactics -/
local macro_rules | `(tactic| walk_at "ne") => `(tactic| first
  | assumption
  | (apply Ne.symm; assumption)
  | exact ne_none (by assumption) (by assumption)
  | exact (ne_none (by assumption) (by assumption)).symm
  | exact ne_of (by assumption) (by assumption) (by intro z; cases z))
local macro_rules | `(tactic| walk_at "hp") => `(tactic| first
  | assumption
  | with_reducible exact upd_same
  | ((first
      | with_reducible refine u_old ?_ (by assumption)
      | with_reducible refine u_oth (by walk_at "ne") ?_
      | with_reducible refine same_app (by assumption) ?_
      | with_reducible refine kb_app (by assumption) (by walk_at "ne") ?_); walk_at "hp")
  | ((with_reducible refine u_kind ?h (by assumption) ?d); (case h => walk_at "hp"); (case d => (intro z; cases z))))
local macro_rules | `(tactic| walk_at "sq") => `(tactic| first
  | assumption
  | exact SqL.of (by walk_at "hp")
  | exact SqT.of (by walk_at "hp")
  | (with_reducible refine same_sqT (by assumption) ?_; walk_at "sq")
  | (with_reducible refine same_sqL (by assumption) ?_; walk_at "sq")
  | (with_reducible refine new_sqT (by assumption) ?_; walk_at "sq")
  | (with_reducible refine new_sqL (by assumption) ?_; walk_at "sq")
  | ((with_reducible refine mut_sqT (u := ?uu) ?hd ?hm ?_); (case hd => walk_at "hp"); (case hm => exact trivial); walk_at "sq"))
local macro_rules | `(tactic| walk_at "rd") => `(tactic| first
  | assumption
  | exact .inl (by walk_at "hp")
  | exact .inr ⟨_, by walk_at "hp"⟩)
local macro_rules | `(tactic| walk_at "s") => `(tactic| first
  | with_reducible refine s_seq ?_
  | with_reducible refine s_asg ?_
  | with_reducible refine g_name ?_
  | ((with_reducible refine e_var (v := ?vv) ?hv ?_); (case hv => rfl))
  | with_reducible refine e_c ?_
  | with_reducible refine e_op ?_
  | with_reducible refine a_cons ?_
  | with_reducible refine a_nil ?_
  | with_reducible refine e_cb ?_
  | with_reducible refine e_call ?_
  | with_reducible refine e_callK ?_
  | with_reducible refine s_ret ?_
  | with_reducible refine s_retN ?_
  | with_reducible refine s_drop ?_
  | with_reducible refine s_ifs ?_
  | with_reducible refine s_next ?_
  | with_reducible refine s_cont ?_
  | with_reducible refine s_brk ?_
  | with_reducible refine s_par ?_
  | with_reducible refine s_par3 ?_
  | with_reducible refine e_un ?_
  | with_reducible refine e_if ?_
  | with_reducible refine e_andV ?_
  | with_reducible refine e_orV ?_
  | with_reducible refine e_notV ?_
  | with_reducible refine e_dget ?_
  | with_reducible refine e_dget2 ?_
  | with_reducible refine e_din ?_
  | with_reducible refine e_dnotin ?_
  | with_reducible refine e_then ?_
  | with_reducible refine e_bm ?_
  | with_reducible refine e_bm0 ?_
  | with_reducible refine e_sl ?_
  | with_reducible refine o_none ?_
  | with_reducible refine o_part ?_
  | with_reducible refine g_sub ?_
  | with_reducible refine g_nil ?_
  | with_reducible refine g_cons ?_
  | with_reducible refine t_test ?_
  | with_reducible refine t_B ?_
  | with_reducible refine t_and ?_
  | with_reducible refine t_or ?_
  | with_reducible refine t_not ?_
  | ((with_reducible refine r_ixI (ns := ?ns) ?hs ?h0 ?h1 ?_); (case hs => walk_at "sq"); (case h0 => omega); (case h1 => omega))
  | ((with_reducible refine r_ixL (xs := ?xs) (v := ?vv) ?hs ?hi ?_); (case hs => walk_at "sq"); (case hi => rfl))
  | ((with_reducible refine r_ixT (xs := ?xs) (v := ?vv) ?hs ?hi ?_); (case hs => walk_at "sq"); (case hi => rfl))
  | ((with_reducible refine g_setL (xs := ?xs) (j := ?jj) ?hp ?hj ?_); (case hp => walk_at "hp"); (case hj => rfl))
  | ((with_reducible refine r_mul ?hc ?_); (case hc => first | exact .inr (by decide) | exact .inl (by decide) | exact .inl ⟨by omega, by omega⟩ | exact .inr ⟨by omega, by omega⟩))
  | ((with_reducible refine r_mod ?hc ?_); (case hc => first | decide | omega))
  | ((with_reducible refine r_fdivN ?hc ?_); (case hc => exact ⟨by first | decide | omega, by first | decide | omega⟩))
  | ((with_reducible refine r_pow ?hc ?_); (case hc => first | decide | exact ⟨by decide, by decide⟩ | (unfold CPow; decide)))
  | ((with_reducible refine r_lenI (ns := ?ns) ?hs ?_); (case hs => walk_at "sq"))
  | ((with_reducible refine r_lenTI (ns := ?ns) ?hs ?_); (case hs => walk_at "sq"))
  | ((with_reducible refine r_lenL (xs := ?xs) ?hs ?_); (case hs => walk_at "sq"))
  | ((with_reducible refine r_lenT (xs := ?xs) ?hs ?_); (case hs => walk_at "sq"))
  | ((with_reducible refine r_tyL (xs := ?xs) ?hs ?_); (case hs => walk_at "sq"))
  | with_reducible refine r_add ?_
  | with_reducible refine r_sub ?_
  | with_reducible refine r_lt ?_
  | with_reducible refine r_le ?_
  | with_reducible refine r_gt ?_
  | with_reducible refine r_ge ?_
  | with_reducible refine r_eqI ?_
  | with_reducible refine r_neI ?_
  | with_reducible refine r_int ?_
  | with_reducible refine r_intb ?_
  | with_reducible refine r_neg ?_
  | with_reducible refine r_max2 ?_
  | with_reducible refine r_min2 ?_
  | with_reducible refine c_sp1 ?_
  | with_reducible refine c_sp2 ?_
  | with_reducible refine c_sp3 ?_
  | with_reducible refine c_sp4 ?_
  | with_reducible refine c_sp5 ?_
  | with_reducible refine t_end ?_
  | with_reducible refine o_part_end ?_
  | ((with_reducible refine s_aug (x := ?xx) ?hx ?_); (case hx => rfl))
  | with_reducible refine s_for ?_
  | with_reducible refine i_list ?_
  | with_reducible refine i_tup ?_
  | with_reducible refine i_rng1 ?_
  | with_reducible refine i_rng2 ?_
  | with_reducible refine i_keys ?_
  | with_reducible refine i_items ?_
  | with_reducible refine i_zip2 ?_
  | with_reducible refine i_enum2 ?_
  | ((with_reducible refine i_rng1E ?h1 ?h2 ?_); (case h1 => omega); (case h2 => omega))
  | ((with_reducible refine i_rng2E ?h1 ?_); (case h1 => omega))
  | ((with_reducible refine i_listE (xs := ?xs) ?hs ?_); (case hs => walk_at "sq"))
  | ((with_reducible refine i_tupE (xs := ?xs) ?hs ?_); (case hs => walk_at "sq"))
  | ((with_reducible refine q_isD ?hi ?_); (case hi => first | exact isD_K (by walk_at "rd") | exact isD_T (by walk_at "rd")))
  | with_reducible refine q_ref ?_
  | with_reducible refine e_dnewK ?_
  | with_reducible refine e_dnewT ?_
  | with_reducible refine e_tup ?_
  | with_reducible refine e_lst ?_
  | ((with_reducible refine r_new ?hn ?_); (case hn => exact Nat.le_of_ble_eq_true rfl))
  | with_reducible refine r_fresh fun _ _ => ?_
  | with_reducible refine s_par_end ?_
  | with_reducible refine s_par3_end ?_
  | with_reducible refine e_lc ?_
  | with_reducible refine e_dc ?_
  | with_reducible refine e_dcT ?_
  | with_reducible refine t_tyes ?_
  | with_reducible refine t_tt ?_
  | with_reducible refine t_ff ?_
  | with_reducible refine c_wipe rfl ?_)
local macro_rules | `(tactic| walk_at "S") => `(tactic| repeat' first | walk_at "s" | with_reducible refine s_dput ?_)
local macro_rules | `(tactic| walk_at "T") => `(tactic| repeat' walk_at "s")

/-! ### _law_document -/
theorem okI_wide : ∀ {b : List Int} {p : Int}, -1 ≤ p → okI (-1) b → okI p b
  | [], _, _, _ => trivial
  | d :: b, p, hp, h => ⟨h.1, by have := h.2.1; omega, h.2.2⟩
theorem okI_app : ∀ {a b : List Int} {p : Int}, -1 ≤ p → okI p a → okI (-1) b → okI p (a ++ b)
  | [], b, p, hp, _, hb => okI_wide hp hb
  | d :: a, b, p, hp, ha, hb => ⟨ha.1, ha.2.1, okI_app (by have := ha.1; omega) ha.2.2 hb⟩
theorem okI_copies {a : List Int} (h : okI (-1) a) : ∀ n, okI (-1) (copies a n)
  | 0 => trivial
  | n + 1 => okI_app (Int.le_refl _) (okI_copies h n) h
theorem good_copies {a : List Str} (h : GoodN a) : ∀ n, GoodN (copies a n)
  | 0 => fun _ z => nomatch z
  | n + 1 => fun s hs => by
    rcases List.mem_append.mp hs with hs | hs
    · exact good_copies h n s hs
    · exact h s hs
theorem good_get {ws : List Str} {k : Nat} (G : GoodN ws) (h : k < ws.length) : ws[k]? = some (ws.getD k nilS) ∧ GoodS (ws.getD k nilS) := by
  have e : ws[k]? = some (ws.getD k nilS) := by
    rw [List.getD_eq_getElem?_getD, List.getElem?_eq_getElem h]
    rfl
  exact ⟨e, G _ (mem_of_get e)⟩
theorem rng_str (f : Nat → Str) (n : Nat) : (List.range n).map (fun k => V.str (f k)) = ((List.range n).map f).map V.str := by
  rw [List.map_map]
  rfl
theorem good_range {f : Nat → Str} {n : Nat} (h : ∀ k, k < n → GoodS (f k)) : GoodN ((List.range n).map f) := by
  intro s hs
  obtain ⟨k, hk, rfl⟩ := List.mem_map.mp hs
  exact h k (List.mem_range.mp hk)
/-- names picked from a pool by draws -/
theorem r_picks {K : PySem.W.Frag} {b ce P D : Addr} {n : Nat} {ws : List Str} {x1 x3 x4 x5 x6 x7 x8 x9 : Option V} {H : Hp} {Qd : Hp → Prop} (B : Bag H b ce) (hP : H P = some (.lst (ws.map V.str))) (hw : 0 < ws.length) (hwl : ws.length ≤ 60) (hn : n ≤ 60) (G : GoodN ws) (hD : H D = none)
    (q : ∀ (ss : List Str) H', Bag H' b ce → Kb b H H' → H' D = some (.lst (ss.map V.str)) → GoodN ss → ss.length = n → Qd H') :
    ∃ W : Nat → Nat → Hp → Prop, (∃ m, W 0 m (upd H D (.lst []))) ∧ ∀ i m H, W i m H →
      ((Itr 0 n).stop i H ∧ Qd H) ∨ ((Itr 0 n).go i H ∧ ∃ Nx : Hp → Prop, (∀ H', Nx H' → ∃ m', m' < m ∧ W (i + 1) m' H') ∧ ∀ x H', (Itr 0 n).yld i H x H' → gName 8 x (wipe [some (.ref b), x1, some (.ref P), x3, x4, x5, x6, x7, x8, x9] [8]) H' fun σ2 H2 => wipe σ2 [8] = wipe [some (.ref b), x1, some (.ref P), x3, x4, x5, x6, x7, x8, x9] [8] ∧ tYes σ2 H2 fun b H3 =>
        if b = true then tOp (rIxL K) (tVar 2) (tCall sp_draw [] E0 (tCons (tVar 0) (tCons (tCB (oLen K) (tCons (tVar 2) tNil)) tNil))) σ2 H3 fun y H4 => ∃ acc, H4 D = some (.lst acc) ∧ acc.length < sizeLine ∧ Nx (upd H4 D (.lst (acc ++ [y]))) else Nx H3) := by
  have nP := B.nstr hP
  have nD := B.nb hD
  have nDc := B.nc hD
  refine lc_w (w_rng (lo := 0) (n := n)) (fun i H' => Bag H' b ce ∧ Kb b H H' ∧ ∃ ss : List Str, H' D = some (.lst (ss.map V.str)) ∧ GoodN ss ∧ ss.length = i) ⟨B.new hD, (Kb.refl b H).new hD, [], upd_same, (fun _ z => nomatch z), rfl⟩ (fun _ _ _ _ => trivial) ?_ ?_
  · rintro i _ x H' hi ⟨B1, k1, ss, e1, g1, l1⟩ ⟨rfl, rfl⟩
    have eP := kb_app k1 nP hP
    have sP : SqL K H' P (ws.map V.str) := SqL.of eP
    walk_at "T"
    refine c_draw B1 (by rw [List.length_map]; omega) fun v H2 v0 v1 B2 k2 => ?_
    rw [List.length_map] at v1
    obtain ⟨j, rfl⟩ := Int.eq_ofNat_of_zero_le v0
    obtain ⟨ej, gj⟩ := good_get G (k := j) (by omega)
    refine r_ixL (v := .str (ws.getD j nilS)) (SqL.of (kb_app k2 nP eP)) (atI_nat (by rw [List.getElem?_map, ej]; rfl)) ?_
    refine ⟨_, kb_app k2 nD e1, by rw [List.length_map, sizeLine_eq]; omega, B2.mut nD nDc, (k1.trans k2).mut hD, ss ++ [ws.getD j nilS], by rw [upd_same, List.map_append]; rfl, fun s hs => ?_, by rw [List.length_append, l1]; rfl⟩
    rcases List.mem_append.mp hs with hs | hs
    · exact g1 s hs
    · rw [List.mem_singleton.mp hs]
      exact gj
  · rintro H' ⟨B1, k1, ss, e1, g1, l1⟩
    exact q ss H' B1 k1 e1 g1 l1
def sp_document (K : PySem.W.Frag) : Sp := sp1 fun x H Q => ∃ (b ce : Addr), x = .ref b ∧ Bag H b ce ∧ ∀ (D : Addr) (ds : List Int) (ss : List Str) H', Bag H' b ce → Kb b H H' → DocAt H' D ds ss → DocG ds ss → 0 < ss.length → Q (.ref D) H'
theorem c_document {K : PySem.W.Frag} {H : Hp} {b ce : Addr} {Q : VK} {E : XK} (B : Bag H b ce) (h : ∀ (D : Addr) (ds : List Int) (ss : List Str) H', Bag H' b ce → Kb b H H' → DocAt H' D ds ss → DocG ds ss → 0 < ss.length → Q (.ref D) H') : sp_document K ([.ref b] ++ []) H Q E := ⟨_, rfl, b, ce, rfl, B, h⟩
abbrev n__law_document : List Str := ["urn", "kind", "pool", "depths", "habit", "one", "names", "other", "k", "depth"]
def t__law_document (K : PySem.W.Frag) (w : World) : TS :=
  (tSeq (tAsg (tCall sp_draw [] E0 (tCons (tVar 0) (tCons (tC (.int 7)) tNil))) (gName 1))
    (tSeq (tAsg (tLc (iRng1 (tCons (tOp (rIxL K) (tLst (tCons (tC (.int 1)) (tCons (tC (.int 2)) (tCons (tC (.int 3)) (tCons (tC (.int 4)) (tCons (tC (.int 60)) tNil)))))) (tCall sp_draw [] E0 (tCons (tVar 0) (tCons (tC (.int 5)) tNil)))) tNil)) (gName 8) tYes (tCall sp_word [] E0 (tCons (tVar 0) tNil)) [8]) (gName 2))
    (tSeq (tIfS (tTest (tOp oLt (tVar 1) (tC (.int 5)))) (tSeq (tAsg (tCall (sp_shape K) [] E0 (tCons (tVar 0) (tCons (tVar 1) (tCons (tOp (rIxL K) (tLst (tCons (tC (.int 1)) (tCons (tC (.int 2)) (tCons (tC (.int 60)) (tCons (tC (.int 8)) (tCons (tC (.int 16)) (tCons (tC (.int 31)) (tCons (tOp oAdd (tC (.int 3)) (tCall sp_draw [] E0 (tCons (tVar 0) (tCons (tC (.int 40)) tNil)))) tNil)))))))) (tCall sp_draw [] E0 (tCons (tVar 0) (tCons (tC (.int 7)) tNil)))) tNil)))) (gName 3))
    (tSeq (tAsg (tCall sp_draw [] E0 (tCons (tVar 0) (tCons (tC (.int 3)) tNil))) (gName 4))
    (tSeq (tIfS (tTest (tOp rEq (tVar 4) (tC (.int 0)))) (tRet (tLst (tCons (tVar 3) (tCons (tLc (iRng1 (tCons (tCB (oLen K) (tCons (tVar 3) tNil)) tNil)) (gName 8) tYes (tOp (rIxL K) (tVar 2) (tOp oMod (tCB oInt (tCons (tVar 8) tNil)) (tCB (oLen K) (tCons (tVar 2) tNil)))) [8]) tNil)))) tNext)
    (tSeq (tIfS (tTest (tOp rEq (tVar 4) (tC (.int 1)))) (tRet (tLst (tCons (tVar 3) (tCons (tLc (iList K (tVar 3)) (gName 9) tYes (tOp (rIxL K) (tVar 2) (tOp oMod (tCB oInt (tCons (tVar 9) tNil)) (tCB (oLen K) (tCons (tVar 2) tNil)))) [9]) tNil)))) tNext)
    (tRet (tLst (tCons (tVar 3) (tCons (tLc (iRng1 (tCons (tCB (oLen K) (tCons (tVar 3) tNil)) tNil)) (gName 8) tYes (tOp (rIxL K) (tVar 2) (tCall sp_draw [] E0 (tCons (tVar 0) (tCons (tCB (oLen K) (tCons (tVar 2) tNil)) tNil)))) [8]) tNil)))))))) tNext)
    (tSeq (tAsg (tCall (sp_shape K) [] E0 (tCons (tVar 0) (tCons (tOp (rIxL K) (tLst (tCons (tC (.int 0)) (tCons (tC (.int 1)) (tCons (tC (.int 4)) tNil)))) (tCall sp_draw [] E0 (tCons (tVar 0) (tCons (tC (.int 3)) tNil)))) (tCons (tOp oAdd (tC (.int 1)) (tCall sp_draw [] E0 (tCons (tVar 0) (tCons (tC (.int 7)) tNil)))) tNil)))) (gName 5))
    (tSeq (tAsg (tLc (iRng1 (tCons (tCB (oLen K) (tCons (tVar 5) tNil)) tNil)) (gName 8) tYes (tOp (rIxL K) (tVar 2) (tCall sp_draw [] E0 (tCons (tVar 0) (tCons (tCB (oLen K) (tCons (tVar 2) tNil)) tNil)))) [8]) (gName 6))
    (tSeq (tIfS (tTest (tOp rEq (tVar 1) (tC (.int 6)))) (tSeq (tAsg (tCall (sp_shape K) [] E0 (tCons (tVar 0) (tCons (tC (.int 4)) (tCons (tOp oAdd (tC (.int 1)) (tCall sp_draw [] E0 (tCons (tVar 0) (tCons (tC (.int 5)) tNil)))) tNil)))) (gName 7))
    (tSeq (tAsg (tOp rCat (tVar 6) (tLc (iRng1 (tCons (tCB (oLen K) (tCons (tVar 7) tNil)) tNil)) (gName 8) tYes (tOp (rIxL K) (tVar 2) (tCall sp_draw [] E0 (tCons (tVar 0) (tCons (tCB (oLen K) (tCons (tVar 2) tNil)) tNil)))) [8])) (gName 6))
    (tAsg (tOp rCat (tVar 5) (tVar 7)) (gName 5)))) tNext)
    (tRet (tCall (sp_copied K) [] E0 (tCons (tVar 5) (tCons (tVar 6) (tCons (tOp oAdd (tC (.int 1)) (tCall sp_draw [] E0 (tCons (tVar 0) (tCons (tCB oInt (tCons (tOp oFdiv (tC (.int 60)) (tCB (oLen K) (tCons (tVar 5) tNil))) tNil)) tNil)))) tNil)))))))))))
theorem r_document {K : PySem.W.Frag} {w : World} (vs : List V) (H : Hp) (Q : VK) (E : XK) (h : sp_document K vs H Q E) : t__law_document K w { nx := fun _ H' => Q .non H', rt := Q } (start n__law_document vs) H := by
  obtain ⟨_, rfl, b, ce, rfl, B, q⟩ := h
  unfold t__law_document
  walk_at "T"
  refine c_draw B (by decide) fun kd H1 v0 v1 B1 k1 => ?_
  walk_at "T"
  rename_i u hu
  refine c_draw (B1.new hu) (by decide) fun v H2 w0 w1 B2 k2 => ?_
  have nu := B1.nb hu
  have eu : H2 u = some (.lst [.int 1, .int 2, .int 3, .int 4, .int 60]) := kb_app k2 nu upd_same
  obtain ⟨c, hc, c0, c1⟩ : ∃ c : Nat, atI [V.int 1, V.int 2, V.int 3, V.int 4, V.int 60] v = some (.int (c : Int)) ∧ 1 ≤ c ∧ c ≤ 60 := by
    have : v = 0 ∨ v = 1 ∨ v = 2 ∨ v = 3 ∨ v = 4 := by omega
    rcases this with rfl | rfl | rfl | rfl | rfl
    · exact ⟨1, rfl, by decide, by decide⟩
    · exact ⟨2, rfl, by decide, by decide⟩
    · exact ⟨3, rfl, by decide, by decide⟩
    · exact ⟨4, rfl, by decide, by decide⟩
    · exact ⟨60, rfl, by decide, by decide⟩
  refine r_ixL (SqL.of eu) hc ?_
  walk_at "T"
  rename_i P hP
  rw [Int.toNat_natCast]
  have k02 : Kb b H H2 := (k1.new hu).trans k2
  have nP := B2.nb hP
  have nPc := B2.nc hP
  refine lc_w (w_rng (lo := 0) (n := c)) (fun i H' => Bag H' b ce ∧ Kb b H2 H' ∧ ∃ ws : List Str, H' P = some (.lst (ws.map V.str)) ∧ GoodN ws ∧ ws.length = i) ⟨B2.new hP, (Kb.refl b H2).new hP, [], upd_same, (fun _ z => nomatch z), rfl⟩ (fun _ _ _ _ => trivial) ?_ ?_
  · rintro i _ x H' hi ⟨B3, k3, ws, e3, g3, l3⟩ ⟨rfl, rfl⟩
    walk_at "T"
    refine c_word B3 fun s H4 z4 B4 k4 => ?_
    refine ⟨_, kb_app k4 nP e3, by rw [List.length_map, sizeLine_eq]; omega, B4.mut nP nPc, (k3.trans k4).mut hP, ws ++ [s], by rw [upd_same, List.map_append]; rfl, fun t ht => ?_, by rw [List.length_append, l3]; rfl⟩
    rcases List.mem_append.mp ht with ht | ht
    · exact g3 t ht
    · rw [List.mem_singleton.mp ht]
      exact z4
  · rintro H3 ⟨B3, k3, ws, e3, g3, l3⟩
    have k03 := k02.trans k3
    have hw0 : 0 < ws.length := by omega
    have hw6 : ws.length ≤ 60 := by omega
    walk_at "T"
    refine t_iteD (fun hkd => ?_) (fun hkd => ?_)
    · walk_at "T"
      refine c_draw B3 (by decide) fun z H4 z0 z1 B4 k4 => ?_
      have e4 := kb_app k4 nP e3
      walk_at "T"
      rename_i y hy
      refine c_draw (B4.new hy) (by decide) fun z' H5 y0 y1 B5 k5 => ?_
      have ny := B4.nb hy
      have ey : H5 y = some (.lst [.int 1, .int 2, .int 60, .int 8, .int 16, .int 31, .int (3 + z)]) := kb_app k5 ny upd_same
      have e5 := kb_app k5 nP (u_old e4 hy)
      have k05 : Kb b H H5 := ((k03.trans k4).new hy).trans k5
      obtain ⟨n, hn, n0, n1⟩ : ∃ n : Nat, atI [V.int 1, V.int 2, V.int 60, V.int 8, V.int 16, V.int 31, V.int (3 + z)] z' = some (.int (n : Int)) ∧ 1 ≤ n ∧ n ≤ 60 := by
        have : z' = 0 ∨ z' = 1 ∨ z' = 2 ∨ z' = 3 ∨ z' = 4 ∨ z' = 5 ∨ z' = 6 := by omega
        rcases this with rfl | rfl | rfl | rfl | rfl | rfl | rfl
        · exact ⟨1, rfl, by decide, by decide⟩
        · exact ⟨2, rfl, by decide, by decide⟩
        · exact ⟨60, rfl, by decide, by decide⟩
        · exact ⟨8, rfl, by decide, by decide⟩
        · exact ⟨16, rfl, by decide, by decide⟩
        · exact ⟨31, rfl, by decide, by decide⟩
        · refine ⟨(3 + z).toNat, ?_, by omega, by omega⟩
          rw [show (((3 + z).toNat : Nat) : Int) = 3 + z by omega]
          rfl
      refine r_ixL (SqL.of ey) hn ?_
      walk_at "T"
      refine c_shape B5 n0 n1 fun r ds H6 B6 k6 er6 o6 l6 => ?_
      have e6 := kb_app k6 nP e5
      have k06 := k05.trans k6
      have nr := B6.nint er6
      walk_at "T"
      refine c_draw B6 (by decide) fun hb H7 x0 x1 B7 k7 => ?_
      have e7 := kb_app k7 nP e6
      have er7 := kb_app k7 nr er6
      have k07 := k06.trans k7
      have se7 : SqL K H7 P (ws.map V.str) := SqL.of e7
      have sr7 : SqL K H7 r (ds.map V.int) := SqL.of er7
      have fin : ∀ (D N : Addr) (ss : List Str) (H8 : Hp), Bag H8 b ce → Kb b H7 H8 → H8 N = some (.lst (ss.map V.str)) → GoodN ss → ss.length = n → H8 D = none → Q (.ref D) (upd H8 D (.lst [.ref r, .ref N])) := by
        intro D N ss H8 B8 k8 e8 g8 l8 hD
        exact q D ds ss _ (B8.new hD) ((k07.trans k8).new hD) ⟨r, N, upd_same, u_old (kb_app k8 nr er7) hD, u_old e8 hD⟩ ⟨o6, g8, by omega, by omega⟩ (by omega)
      have hwm : (ws.map V.str).length = ws.length := List.length_map _
      walk_at "T"
      refine t_iteD (fun e0 => ?_) (fun e0 => ?_)
      · walk_at "T"
        rename_i N hN
        rw [Int.toNat_natCast]
        refine lcp_w (w_rng (lo := 0) (n := ds.length)) (fun _ => true) (fun k => V.str ((fun k : Nat => ws.getD (k % ws.length) nilS) k)) (by omega) hN (fun H6 s6 => trivial) ?_ ?_ ?_
        · rintro j H8 x _ ⟨rfl, _⟩
          exact Same.refl _
        · rintro j _ x H8 Rt Rf hj s8 ⟨rfl, rfl⟩ kt kf
          have hm := Nat.mod_lt j hw0
          rw [show (0 + (j : Int)) = (j : Int) by omega]
          walk_at "T"
          rw [hwm, (Int.ofNat_fmod j ws.length).symm]
          refine r_ixL (SqL.of (s8 _ _ e7)) (atI_nat (by rw [List.getElem?_map, (good_get g3 hm).1]; rfl)) (kt _ (Same.refl _) rfl)
        · rintro H8 s8 h8
          rw [given_all, rng_str] at h8
          walk_at "T"
          exact fin _ N _ H8 (B7.same s8) (same_kb s8) h8 (good_range fun k _ => (good_get g3 (Nat.mod_lt k hw0)).2) (by rw [List.length_map, List.length_range]; exact l6) (by assumption)
      walk_at "T"
      refine t_iteD (fun e1 => ?_) (fun e1 => ?_)
      · walk_at "T"
        rename_i N hN
        have hfm : ∀ d : Int, ∃ j : Nat, d.fmod (ws.length : Int) = (j : Int) ∧ j < ws.length := fun d => by
          have h0 := fm_nn (m := d) (n := (ws.length : Int)) (by omega)
          have h1 := fm_lt (m := d) (n := (ws.length : Int)) (by omega)
          exact ⟨(d.fmod (ws.length : Int)).toNat, by omega, by omega⟩
        refine lcp_w (w_list (xs := ds.map V.int)) (fun _ => true) (fun k => V.str ((fun k : Nat => ws.getD ((ds.getD k 0).fmod (ws.length : Int)).toNat nilS) k)) (by rw [List.length_map]; omega) hN (fun H6 s6 => SqL.of (s6 _ _ er7)) ?_ ?_ ?_
        · rintro j H8 x _ ⟨rfl, _⟩
          exact Same.refl _
        · rintro j _ x H8 Rt Rf hj s8 ⟨rfl, hx⟩ kt kf
          obtain ⟨d, ed, rfl⟩ := map_int_get hx
          replace kt : ∀ H4, Same H8 H4 → true = true → Rt (V.str (ws.getD ((ds.getD j 0).fmod (ws.length : Int)).toNat nilS)) H4 := kt
          rw [getD_get ed] at kt
          obtain ⟨jj, ejj, hjj⟩ := hfm d
          walk_at "T"
          rw [hwm, ejj]
          rw [ejj, Int.toNat_natCast] at kt
          refine r_ixL (SqL.of (s8 _ _ e7)) (atI_nat (by rw [List.getElem?_map, (good_get g3 hjj).1]; rfl)) (kt _ (Same.refl _) rfl)
        · rintro H8 s8 h8
          rw [given_all, rng_str, List.length_map] at h8
          walk_at "T"
          refine fin _ N _ H8 (B7.same s8) (same_kb s8) h8 (good_range fun k _ => ?_) (by rw [List.length_map, List.length_range]; exact l6) (by assumption)
          obtain ⟨jj, ejj, hjj⟩ := hfm (ds.getD k 0)
          show GoodS (ws.getD ((ds.getD k 0).fmod (ws.length : Int)).toNat nilS)
          rw [ejj, Int.toNat_natCast]
          exact (good_get g3 hjj).2
      walk_at "T"
      rename_i N hN
      rw [Int.toNat_natCast]
      refine r_picks (n := ds.length) B7 e7 hw0 hw6 (by omega) g3 hN fun ss H8 B8 k8 h8 g8 l8 => ?_
      walk_at "T"
      exact fin _ N ss H8 B8 k8 h8 g8 (by omega) (by assumption)
    · walk_at "T"
      rename_i y hy
      refine c_draw (B3.new hy) (by decide) fun z H4 z0 z1 B4 k4 => ?_
      have ny := B3.nb hy
      have ey : H4 y = some (.lst [.int 0, .int 1, .int 4]) := kb_app k4 ny upd_same
      have e4 := kb_app k4 nP (u_old e3 hy)
      have k04 : Kb b H H4 := (k03.new hy).trans k4
      obtain ⟨kd2, hk2⟩ : ∃ kd2 : Int, atI [V.int 0, V.int 1, V.int 4] z = some (.int kd2) := by
        have : z = 0 ∨ z = 1 ∨ z = 2 := by omega
        rcases this with rfl | rfl | rfl
        · exact ⟨0, rfl⟩
        · exact ⟨1, rfl⟩
        · exact ⟨4, rfl⟩
      refine r_ixL (SqL.of ey) hk2 ?_
      walk_at "T"
      refine c_draw B4 (by decide) fun z2 H5 y0 y1 B5 k5 => ?_
      have e5 := kb_app k5 nP e4
      have k05 := k04.trans k5
      obtain ⟨n, hn, n0, n1⟩ : ∃ n : Nat, 1 + z2 = (n : Int) ∧ 1 ≤ n ∧ n ≤ 7 := ⟨(1 + z2).toNat, by omega, by omega, by omega⟩
      walk_at "T"
      rw [hn]
      refine c_shape B5 n0 (by omega) fun r ds H6 B6 k6 er6 o6 l6 => ?_
      have e6 := kb_app k6 nP e5
      have k06 := k05.trans k6
      have nr := B6.nint er6
      have sr6 : SqL K H6 r (ds.map V.int) := SqL.of er6
      walk_at "T"
      rename_i N hN
      rw [Int.toNat_natCast]
      refine r_picks (n := ds.length) B6 e6 hw0 hw6 (by omega) g3 hN fun ss H7 B7 k7 h7 g7 l7 => ?_
      have e7 := kb_app k7 nP e6
      have er7 := kb_app k7 nr er6
      have k07 := k06.trans k7
      have nN := B7.nstr h7
      refine g_name ?_
      with_reducible refine s_seqR (fun σ' H' => ∃ (one nm : Addr) (ds : List Int) (ss : List Str) (y7 : Option V), σ' = [some (.ref b), some (.int kd), some (.ref P), none, none, some (.ref one), some (.ref nm), y7, none, none] ∧ Bag H' b ce ∧ Kb b H H' ∧ H' one = some (.lst (ds.map V.int)) ∧ H' nm = some (.lst (ss.map V.str)) ∧ okI (-1) ds ∧ GoodN ss ∧ ds.length = ss.length ∧ 1 ≤ ds.length ∧ ds.length ≤ 12) ?_ ?_
      · rintro _ H8 ⟨one, nm, ds, ss, y7, rfl, B8, k8, f8, g8, o8, n8, l8, m8, j8⟩
        have fd : (60 : Int).fdiv (ds.length : Int) = ((60 / ds.length : Nat) : Int) := (Int.ofNat_fdiv 60 ds.length).symm
        have hdp : 0 < 60 / ds.length := Nat.div_pos (by omega) (by omega)
        have sf8 : SqL K H8 one (ds.map V.int) := SqL.of f8
        walk_at "T"
        rw [fd]
        refine c_draw B8 (by omega) fun v H9 v0 v1 B9 k9 => ?_
        obtain ⟨m, hm, m0, m1⟩ : ∃ m : Nat, 1 + v = (m : Int) ∧ 1 ≤ m ∧ m ≤ 60 / ds.length := ⟨(1 + v).toNat, by omega, by omega, by omega⟩
        have hmul : m * ds.length ≤ 60 := Nat.le_trans (Nat.mul_le_mul_right _ m1) (Nat.div_mul_le_self 60 _)
        have hdl : 60 / ds.length ≤ 60 := Nat.div_le_self _ _
        have no := B8.nint f8
        have nm' := B8.nstr g8
        walk_at "T"
        rw [hm]
        refine ⟨one, nm, m, ds, ss, rfl, kb_app k9 no f8, kb_app k9 nm' g8, by omega, by omega, by rw [← l8]; omega, fun D H10 s10 hD => ?_⟩
        have hl1 : (copies ss m).length = m * ds.length := by rw [copies_len, l8]
        refine q D _ _ H10 (B9.same s10) ((k8.trans k9).same s10) hD ⟨okI_copies o8 m, good_copies n8 m, ?_, by omega⟩ ?_
        · rw [hl1, copies_len]
        · rw [hl1]
          exact Nat.mul_pos m0 m8
      · intro NX k
        walk_at "T"
        refine t_iteD (fun h6 => ?_) (fun h6 => ?_)
        · walk_at "T"
          refine c_draw B7 (by decide) fun v H8 v0 v1 B8 k8 => ?_
          obtain ⟨n2, hn2, n20, n21⟩ : ∃ n : Nat, 1 + v = (n : Int) ∧ 1 ≤ n ∧ n ≤ 5 := ⟨(1 + v).toNat, by omega, by omega, by omega⟩
          walk_at "T"
          rw [hn2]
          refine c_shape B8 n20 (by omega) fun r2 ds2 H9 B9 k9 er9 o9 l9 => ?_
          have k79 := k8.trans k9
          have e9 := kb_app k79 nP e7
          have nr2 := B9.nint er9
          have sr9 : SqL K H9 r2 (ds2.map V.int) := SqL.of er9
          walk_at "T"
          rename_i N2 hN2
          rw [Int.toNat_natCast]
          refine r_picks (n := ds2.length) B9 e9 hw0 hw6 (by omega) g3 hN2 fun ss2 HA BA kA hA gA lA => ?_
          have k7A := k79.trans kA
          refine r_cat (kb_app k7A nN h7) hA (by rw [List.length_map, List.length_map]; omega) fun c1' hc1 => ?_
          have nc1 := BA.nb hc1
          walk_at "T"
          refine r_cat (u_old (kb_app k7A nr er7) hc1) (u_old (kb_app kA nr2 er9) hc1) (by rw [List.length_map, List.length_map]; omega) fun c2' hc2 => ?_
          walk_at "T"
          refine k _ _ ⟨c2', c1', ds ++ ds2, ss ++ ss2, _, rfl, (BA.new hc1).new hc2, ((k07.trans k7A).new hc1).new hc2, by rw [upd_same, List.map_append], u_old (by rw [upd_same, List.map_append]) hc2, okI_app (Int.le_refl _) o6 o9, fun s hs => ?_, ?_, ?_, ?_⟩
          · rcases List.mem_append.mp hs with hs | hs
            · exact g7 s hs
            · exact gA s hs
          · rw [List.length_append, List.length_append]
            omega
          · rw [List.length_append]
            omega
          · rw [List.length_append]
            omega
        · walk_at "T"
          exact k _ _ ⟨r, N, ds, ss, _, rfl, B7, k07, er7, h7, o6, g7, by omega, by omega, by omega⟩
end K15

end
section
set_option Elab.async false
set_option linter.all false
set_option maxRecDepth 100000
set_option maxHeartbeats 4000000
namespace K15
open PySem hiding Tree
open PySem.Spec PyProof.Rows L2 LW LM LV
/-! ### steps of a reading, heaps: short tactics -/
local macro_rules | `(tactic| walk_at "ne") => `(tactic| first
  | assumption
  | (apply Ne.symm; assumption)
  | exact ne_none (by assumption) (by assumption)
  | exact (ne_none (by assumption) (by assumption)).symm
  | exact ne_of (by assumption) (by assumption) (by intro z; cases z))
local macro_rules | `(tactic| walk_at "hp") => `(tactic| first
  | assumption
  | with_reducible exact upd_same
  | ((first
      | with_reducible refine u_old ?_ (by assumption)
      | with_reducible refine u_oth (by walk_at "ne") ?_
      | with_reducible refine same_app (by assumption) ?_
      | with_reducible refine kb_app (by assumption) (by walk_at "ne") ?_); walk_at "hp")
  | ((with_reducible refine u_kind ?h (by assumption) ?d); (case h => walk_at "hp"); (case d => (intro z; cases z))))
local macro_rules | `(tactic| walk_at "sq") => `(tactic| first
  | assumption
  | exact SqL.of (by walk_at "hp")
  | exact SqT.of (by walk_at "hp")
  | (with_reducible refine same_sqT (by assumption) ?_; walk_at "sq")
  | (with_reducible refine same_sqL (by assumption) ?_; walk_at "sq")
  | (with_reducible refine new_sqT (by assumption) ?_; walk_at "sq")
  | (with_reducible refine new_sqL (by assumption) ?_; walk_at "sq")
  | ((with_reducible refine mut_sqT (u := ?uu) ?hd ?hm ?_); (case hd => walk_at "hp"); (case hm => exact trivial); walk_at "sq"))
local macro_rules | `(tactic| walk_at "rd") => `(tactic| first
  | assumption
  | exact .inl (by walk_at "hp")
  | exact .inr ⟨_, by walk_at "hp"⟩)
local macro_rules | `(tactic| walk_at "s") => `(tactic| first
  | with_reducible refine s_seq ?_
  | with_reducible refine s_asg ?_
  | with_reducible refine g_name ?_
  | ((with_reducible refine e_var (v := ?vv) ?hv ?_); (case hv => rfl))
  | with_reducible refine e_c ?_
  | with_reducible refine e_op ?_
  | with_reducible refine a_cons ?_
  | with_reducible refine a_nil ?_
  | with_reducible refine e_cb ?_
  | with_reducible refine e_call ?_
  | with_reducible refine e_callK ?_
  | with_reducible refine s_ret ?_
  | with_reducible refine s_retN ?_
  | with_reducible refine s_drop ?_
  | with_reducible refine s_ifs ?_
  | with_reducible refine s_next ?_
  | with_reducible refine s_cont ?_
  | with_reducible refine s_brk ?_
  | with_reducible refine s_par ?_
  | with_reducible refine s_par3 ?_
  | with_reducible refine e_un ?_
  | with_reducible refine e_if ?_
  | with_reducible refine e_andV ?_
  | with_reducible refine e_orV ?_
  | with_reducible refine e_notV ?_
  | with_reducible refine e_dget ?_
  | with_reducible refine e_dget2 ?_
  | with_reducible refine e_din ?_
  | with_reducible refine e_dnotin ?_
  | with_reducible refine e_then ?_
  | with_reducible refine e_bm ?_
  | with_reducible refine e_bm0 ?_
  | with_reducible refine e_sl ?_
  | with_reducible refine o_none ?_
  | with_reducible refine o_part ?_
  | with_reducible refine g_sub ?_
  | with_reducible refine g_nil ?_
  | with_reducible refine g_cons ?_
  | with_reducible refine t_test ?_
  | with_reducible refine t_B ?_
  | with_reducible refine t_and ?_
  | with_reducible refine t_or ?_
  | with_reducible refine t_not ?_
  | ((with_reducible refine r_ixI (ns := ?ns) ?hs ?h0 ?h1 ?_); (case hs => walk_at "sq"); (case h0 => omega); (case h1 => omega))
  | ((with_reducible refine r_ixL (xs := ?xs) (v := ?vv) ?hs ?hi ?_); (case hs => walk_at "sq"); (case hi => rfl))
  | ((with_reducible refine r_ixT (xs := ?xs) (v := ?vv) ?hs ?hi ?_); (case hs => walk_at "sq"); (case hi => rfl))
  | ((with_reducible refine g_setL (xs := ?xs) (j := ?jj) ?hp ?hj ?_); (case hp => walk_at "hp"); (case hj => rfl))
  | ((with_reducible refine r_mul ?hc ?_); (case hc => first | exact .inr (by decide) | exact .inl (by decide) | exact .inl ⟨by omega, by omega⟩ | exact .inr ⟨by omega, by omega⟩))
  | ((with_reducible refine r_mod ?hc ?_); (case hc => first | decide | omega))
  | ((with_reducible refine r_fdivN ?hc ?_); (case hc => exact ⟨by first | decide | omega, by first | decide | omega⟩))
  | ((with_reducible refine r_pow ?hc ?_); (case hc => first | decide | exact ⟨by decide, by decide⟩ | (unfold CPow; decide)))
  | ((with_reducible refine r_lenI (ns := ?ns) ?hs ?_); (case hs => walk_at "sq"))
  | ((with_reducible refine r_lenTI (ns := ?ns) ?hs ?_); (case hs => walk_at "sq"))
  | ((with_reducible refine r_lenL (xs := ?xs) ?hs ?_); (case hs => walk_at "sq"))
  | ((with_reducible refine r_lenT (xs := ?xs) ?hs ?_); (case hs => walk_at "sq"))
  | ((with_reducible refine r_tyL (xs := ?xs) ?hs ?_); (case hs => walk_at "sq"))
  | with_reducible refine r_add ?_
  | with_reducible refine r_sub ?_
  | with_reducible refine r_lt ?_
  | with_reducible refine r_le ?_
  | with_reducible refine r_gt ?_
  | with_reducible refine r_ge ?_
  | with_reducible refine r_eqI ?_
  | with_reducible refine r_neI ?_
  | with_reducible refine r_int ?_
  | with_reducible refine r_intb ?_
  | with_reducible refine r_neg ?_
  | with_reducible refine r_max2 ?_
  | with_reducible refine r_min2 ?_
  | with_reducible refine c_sp1 ?_
  | with_reducible refine c_sp2 ?_
  | with_reducible refine c_sp3 ?_
  | with_reducible refine c_sp4 ?_
  | with_reducible refine c_sp5 ?_
  | with_reducible refine t_end ?_
  | with_reducible refine o_part_end ?_
  | ((with_reducible refine s_aug (x := ?xx) ?hx ?_); (case hx => rfl))
  | with_reducible refine s_for ?_
  | with_reducible refine i_list ?_
  | with_reducible refine i_tup ?_
  | with_reducible refine i_rng1 ?_
  | with_reducible refine i_rng2 ?_
  | with_reducible refine i_keys ?_
  | with_reducible refine i_items ?_
  | with_reducible refine i_zip2 ?_
  | with_reducible refine i_enum2 ?_
  | ((with_reducible refine i_rng1E ?h1 ?h2 ?_); (case h1 => omega); (case h2 => omega))
  | ((with_reducible refine i_rng2E ?h1 ?_); (case h1 => omega))
  | ((with_reducible refine i_listE (xs := ?xs) ?hs ?_); (case hs => walk_at "sq"))
  | ((with_reducible refine i_tupE (xs := ?xs) ?hs ?_); (case hs => walk_at "sq"))
  | ((with_reducible refine q_isD ?hi ?_); (case hi => first | exact isD_K (by walk_at "rd") | exact isD_T (by walk_at "rd")))
  | with_reducible refine q_ref ?_
  | with_reducible refine e_dnewK ?_
  | with_reducible refine e_dnewT ?_
  | with_reducible refine e_tup ?_
  | with_reducible refine e_lst ?_
  | ((with_reducible refine r_new ?hn ?_); (case hn => exact Nat.le_of_ble_eq_true rfl))
  | with_reducible refine r_fresh fun _ _ => ?_
  | with_reducible refine s_par_end ?_
  | with_reducible refine s_par3_end ?_
  | with_reducible refine e_lc ?_
  | with_reducible refine e_dc ?_
  | with_reducible refine e_dcT ?_
  | with_reducible refine t_tyes ?_
  | with_reducible refine t_tt ?_
  | with_reducible refine t_ff ?_
  | with_reducible refine c_wipe rfl ?_)
local macro_rules | `(tactic| walk_at "S") => `(tactic| repeat' first | walk_at "s" | with_reducible refine s_dput ?_)
local macro_rules | `(tactic| walk_at "T") => `(tactic| repeat' walk_at "s")

/-! ### law -/
theorem c_rightG {K : PySem.W.Frag} {H : Hp} {D : Addr} {ds : List Int} {ss : List Str} {b : Bool} {Q : VK} {E : XK} (hD : DocAt H D ds ss) (G : DocG ds ss) (h : ∀ H', Same H H' → Q (.bl true) H') : sp_right K ([.ref D, .bl b] ++ []) H Q E := by
  obtain ⟨l, ok, e1, e2⟩ := G.ok
  exact c_right (l := l) (by rw [e1, e2]; exact hD) ok h
theorem DocAt.same {H H' : Hp} {D : Addr} {ds : List Int} {ss : List Str} (D0 : DocAt H D ds ss) (s : Same H H') : DocAt H' D ds ss := by
  obtain ⟨a, n, eD, ea, en⟩ := D0.ex
  exact ⟨a, n, s _ _ eD, s _ _ ea, s _ _ en⟩
theorem c_urn {K : PySem.W.Frag} {H : Hp} {a : Addr} {ns : List Int} {Q : VK} {E : XK} (hS : SqL K H a (ns.map V.int)) (h : ∀ b ce H', Bag H' b ce → Same H H' → Q (.ref b) H') : sp_urn K ([.ref a] ++ []) H Q E := ⟨_, rfl, a, ns, rfl, hS, h⟩
theorem c_renamed {K : PySem.W.Frag} {H : Hp} {b ce D : Addr} {ds : List Int} {ss : List Str} {Q : VK} {E : XK} (B : Bag H b ce) (hD : DocAt H D ds ss) (G : DocG ds ss) (h0 : 0 < ss.length)
    (h : ∀ D' ss' H', Bag H' b ce → Kb b H H' → DocAt H' D' ds ss' → DocG ds ss' → Q (.ref D') H') : sp_renamed K ([.ref b, .ref D] ++ []) H Q E := by
  obtain ⟨g1, g2, g3, g4⟩ := id G
  exact ⟨b, ce, D, ds, ss, rfl, B, hD, g2, h0, by omega, fun D' ss' H' B' k' d' g' l' => h D' ss' H' B' k' d' ⟨g1, g', by omega, by omega⟩⟩
def spLaw (K : PySem.W.Frag) : Sp := sp1 fun x H Q => ∃ (a : Addr) (ns : List Int), x = .ref a ∧ SqL K H a (ns.map V.int) ∧ ∀ H', Q (.bl true) H'
abbrev n_law : List Str := ["script", "urn", "document", "named", "renamed", "moved", "one", "other", "many", "k"]
def t_law (K : PySem.W.Frag) (w : World) : TS :=
  (tSeq (tAsg (tCall (sp_urn K) [] E0 (tCons (tVar 0) tNil)) (gName 1))
    (tSeq (tAsg (tCall (sp_document K) [] E0 (tCons (tVar 1) tNil)) (gName 2))
    (tSeq (tAsg (tOp rEq (tCall sp_draw [] E0 (tCons (tVar 1) (tCons (tC (.int 2)) tNil))) (tC (.int 0))) (gName 3))
    (tSeq (tIfS (tOr (tNot (tB (tCall (sp_right K) [] E0 (tCons (tVar 2) (tCons (tVar 3) tNil))))) (tNot (tB (tCall (sp_right K) [] E0 (tCons (tLst (tCons (tLst tNil) (tCons (tLst tNil) tNil))) (tCons (tNotV (tVar 3)) tNil)))))) (tRet (tC (.bl false))) tNext)
    (tSeq (tAsg (tCall (sp_renamed K) [] E0 (tCons (tVar 1) (tCons (tVar 2) tNil))) (gName 4))
    (tSeq (tAsg (tCall (sp_moved K) [] E0 (tCons (tVar 1) (tCons (tVar 2) tNil))) (gName 5))
    (tSeq (tIfS (tOr (tNot (tB (tCall (sp_right K) [] E0 (tCons (tVar 4) (tCons (tVar 3) tNil))))) (tOr (tNot (tB (tCall (sp_right K) [] E0 (tCons (tVar 5) (tCons (tNotV (tVar 3)) tNil))))) (tNot (tB (tCall (sp_right K) [] E0 (tCons (tVar 2) (tCons (tNotV (tVar 3)) tNil))))))) (tRet (tC (.bl false))) tNext)
    (tSeq (tAsg (tTup (tCons (tCall sp_word [] E0 (tCons (tVar 1) tNil)) (tCons (tCall sp_word [] E0 (tCons (tVar 1) tNil)) tNil))) (gTup K 2 (gCons (gName 6) (gCons (gName 7) gNil))))
    (tSeq (tIfS (tOr (tNot (tB (tCall (sp_right K) [] E0 (tCons (tLst (tCons (tLst (tCons (tC (.int 0)) tNil)) (tCons (tLst (tCons (tVar 6) tNil)) tNil))) (tCons (tVar 3) tNil))))) (tNot (tB (tCall (sp_right K) [] E0 (tCons (tLst (tCons (tLst (tCons (tC (.int 0)) (tCons (tCall sp_draw [] E0 (tCons (tVar 1) (tCons (tC (.int 2)) tNil))) tNil))) (tCons (tLst (tCons (tVar 7) (tCons (tVar 6) tNil))) tNil))) (tCons (tVar 3) tNil)))))) (tRet (tC (.bl false))) tNext)
    (tSeq (tAsg (tOp oAdd (tC (.int 2)) (tCall sp_draw [] E0 (tCons (tVar 1) (tCons (tC (.int 59)) tNil)))) (gName 8))
    (tSeq (tIfS (tNot (tB (tCall (sp_right K) [] E0 (tCons (tLst (tCons (tLc (iRng1 (tCons (tVar 8) tNil)) (gName 9) tYes (tVar 9) [9]) (tCons (tLc (iRng1 (tCons (tVar 8) tNil)) (gName 9) tYes (tVar 6) [9]) tNil))) (tCons (tVar 3) tNil))))) (tRet (tC (.bl false))) tNext)
    (tSeq (tIfS (tNot (tB (tCall (sp_right K) [] E0 (tCons (tLst (tCons (tLc (iRng1 (tCons (tVar 8) tNil)) (gName 9) tYes (tC (.int 0)) [9]) (tCons (tLc (iRng1 (tCons (tVar 8) tNil)) (gName 9) tYes (tVar 6) [9]) tNil))) (tCons (tNotV (tVar 3)) tNil))))) (tRet (tC (.bl false))) tNext)
    (tRet (tCall (sp_right K) [] E0 (tCons (tLst (tCons (tLc (iRng1 (tCons (tVar 8) tNil)) (gName 9) tYes (tC (.int 0)) [9]) (tCons (tLc (iRng1 (tCons (tVar 8) tNil)) (gName 9) tYes (tOp (rIxL K) (tLst (tCons (tVar 6) (tCons (tVar 7) tNil))) (tOp oMod (tCB oInt (tCons (tVar 9) tNil)) (tC (.int 2)))) [9]) tNil))) (tCons (tVar 3) tNil))))))))))))))))
theorem r_law {K : PySem.W.Frag} {w : World} (vs : List V) (H : Hp) (Q : VK) (E : XK) (h : spLaw K vs H Q E) : t_law K w { nx := fun _ H' => Q .non H', rt := Q } (start n_law vs) H := by
  obtain ⟨_, rfl, a, ns, rfl, hS, q⟩ := h
  unfold t_law
  walk_at "T"
  refine c_urn hS fun b ce H1 B1 _ => ?_
  walk_at "T"
  refine c_document B1 fun D ds ss H2 B2 _ dD gD h0 => ?_
  walk_at "T"
  refine c_draw B2 (by decide) fun v H3 v0 v1 B3 k3 => ?_
  have dD3 := dD.kb B2 k3
  walk_at "T"
  refine c_rightG dD3 gD fun H4 s4 => ?_
  have dD4 := dD3.same s4
  have B4 := B3.same s4
  walk_at "T"
  refine t_ff ?_
  walk_at "T"
  rename_i x1 hx1 x2 hx2 x3 hx3
  refine c_rightG (ds := []) (ss := []) ⟨x1, x2, upd_same, u_old (u_old upd_same hx2) hx3, u_old upd_same hx3⟩ ⟨trivial, (fun _ z => nomatch z), rfl, by decide⟩ fun H5 s5 => ?_
  have s45 : Same H4 H5 := (((L2.Same.new hx1).upd hx2).upd hx3).trans s5
  have B5 := B4.same s45
  have dD5 := dD4.same s45
  walk_at "T"
  refine t_ff ?_
  walk_at "T"
  refine c_renamed B5 dD5 gD h0 fun R ss1 H6 B6 k6 dR6 gR => ?_
  have dD6 := dD5.kb B5 k6
  walk_at "T"
  refine c_moved B6 dD6 gD h0 fun M ds1 H7 B7 k7 dM7 gM => ?_
  have dD7 := dD6.kb B6 k7
  have dR7 := dR6.kb B6 k7
  walk_at "T"
  refine c_rightG dR7 gR fun H8 s8 => ?_
  walk_at "T"
  refine t_ff ?_
  walk_at "T"
  refine c_rightG (dM7.same s8) gM fun H9 s9 => ?_
  walk_at "T"
  refine t_ff ?_
  walk_at "T"
  refine c_rightG (dD7.same (s8.trans s9)) gD fun HA sA => ?_
  have BA := B7.same ((s8.trans s9).trans sA)
  walk_at "T"
  refine t_ff ?_
  walk_at "T"
  refine c_word BA fun one HB gOne BB kB => ?_
  walk_at "T"
  refine c_word BB fun oth HC gOth BC kC => ?_
  walk_at "T"
  rename_i T hT
  refine g_tup (xs := [.str one, .str oth]) (SqT.of upd_same) rfl ?_
  walk_at "T"
  rename_i y1 hy1 y2 hy2 y3 hy3
  refine c_rightG (ds := [0]) (ss := [one]) ⟨y1, y2, upd_same, u_old (u_old upd_same hy2) hy3, u_old upd_same hy3⟩ ⟨⟨by decide, by decide, trivial⟩, (fun s hs => by rw [List.mem_singleton.mp hs]; exact gOne), rfl, Nat.le_of_ble_eq_true rfl⟩ fun HD sD => ?_
  have BD := BC.same (((((L2.Same.new hT).upd hy1).upd hy2).upd hy3).trans sD)
  walk_at "T"
  refine t_ff ?_
  walk_at "T"
  refine c_draw BD (by decide) fun v2 HE w0 w1 BE kE => ?_
  walk_at "T"
  rename_i z1 hz1 z2 hz2 z3 hz3
  refine c_rightG (ds := [0, v2]) (ss := [oth, one]) ⟨z1, z2, upd_same, u_old (u_old upd_same hz2) hz3, u_old upd_same hz3⟩ ⟨⟨by decide, by decide, w0, by omega, trivial⟩, (fun s hs => ?_), rfl, Nat.le_of_ble_eq_true rfl⟩ fun HF sF => ?_
  · rcases List.mem_cons.mp hs with rfl | hs
    · exact gOth
    · rw [List.mem_singleton.mp hs]
      exact gOne
  have BF := BE.same ((((L2.Same.new hz1).upd hz2).upd hz3).trans sF)
  walk_at "T"
  refine t_ff ?_
  walk_at "T"
  refine c_draw BF (by decide) fun v3 HG u0 u1 BG kG => ?_
  obtain ⟨n, hn, n0, n1⟩ : ∃ n : Nat, 2 + v3 = (n : Int) ∧ 2 ≤ n ∧ n ≤ 60 := ⟨(2 + v3).toNat, by omega, by omega, by omega⟩
  walk_at "T"
  rw [hn]
  rename_i d1 hd1
  rw [Int.toNat_natCast]
  refine lcp_w (w_rng (lo := 0) (n := n)) (fun _ => true) (fun k => V.int ((fun k : Nat => (0 + (k : Int))) k)) (by omega) hd1 (fun _ _ => trivial) ?_ ?_ ?_
  · rintro j HX x _ ⟨rfl, _⟩
    exact Same.refl _
  · rintro j _ x HX Rt Rf hj sX ⟨rfl, rfl⟩ kt kf
    walk_at "T"
    exact kt _ (Same.refl _) rfl
  · rintro I1 sI1 hI1
    rw [given_all, rng_map] at hI1
    walk_at "T"
    rename_i d2 hd2
    rw [Int.toNat_natCast]
    refine lcp_w (w_rng (lo := 0) (n := n)) (fun _ => true) (fun k => V.str ((fun _ : Nat => one) k)) (by omega) hd2 (fun _ _ => trivial) ?_ ?_ ?_
    · rintro j HX x _ ⟨rfl, _⟩
      exact Same.refl _
    · rintro j _ x HX Rt Rf hj sX ⟨rfl, rfl⟩ kt kf
      walk_at "T"
      exact kt _ (Same.refl _) rfl
    · rintro I2 sI2 hI2
      rw [given_all, rng_str] at hI2
      walk_at "T"
      rename_i d3 hd3
      refine c_rightG (ds := rngI (fun k : Nat => (0 + (k : Int))) n) (ss := (List.range n).map (fun _ : Nat => one)) ⟨d1, d2, upd_same, u_old (sI2 _ _ hI1) hd3, u_old hI2 hd3⟩ ⟨okI_range _ _ _ (fun k => by omega) (by decide) (fun k => by omega), good_range fun _ _ => gOne, by rw [rng_len, List.length_map, List.length_range], by rw [List.length_map, List.length_range]; exact n1⟩ fun J1 sJ1 => ?_
      walk_at "T"
      refine t_ff ?_
      walk_at "T"
      rename_i e1 he1
      rw [Int.toNat_natCast]
      refine lcp_w (w_rng (lo := 0) (n := n)) (fun _ => true) (fun k => V.int ((fun _ : Nat => (0 : Int)) k)) (by omega) he1 (fun _ _ => trivial) ?_ ?_ ?_
      · rintro j HX x _ ⟨rfl, _⟩
        exact Same.refl _
      · rintro j _ x HX Rt Rf hj sX ⟨rfl, rfl⟩ kt kf
        walk_at "T"
        exact kt _ (Same.refl _) rfl
      · rintro I3 sI3 hI3
        rw [given_all, rng_map] at hI3
        walk_at "T"
        rename_i e2 he2
        rw [Int.toNat_natCast]
        refine lcp_w (w_rng (lo := 0) (n := n)) (fun _ => true) (fun k => V.str ((fun _ : Nat => one) k)) (by omega) he2 (fun _ _ => trivial) ?_ ?_ ?_
        · rintro j HX x _ ⟨rfl, _⟩
          exact Same.refl _
        · rintro j _ x HX Rt Rf hj sX ⟨rfl, rfl⟩ kt kf
          walk_at "T"
          exact kt _ (Same.refl _) rfl
        · rintro I4 sI4 hI4
          rw [given_all, rng_str] at hI4
          walk_at "T"
          rename_i e3 he3
          refine c_rightG (ds := rngI (fun _ : Nat => (0 : Int)) n) (ss := (List.range n).map (fun _ : Nat => one)) ⟨e1, e2, upd_same, u_old (sI4 _ _ hI3) he3, u_old hI4 he3⟩ ⟨okI_range _ _ _ (fun k => by decide) (by decide) (fun k => by decide), good_range fun _ _ => gOne, by rw [rng_len, List.length_map, List.length_range], by rw [List.length_map, List.length_range]; exact n1⟩ fun J2 sJ2 => ?_
          walk_at "T"
          refine t_ff ?_
          walk_at "T"
          rename_i f1 hf1
          rw [Int.toNat_natCast]
          refine lcp_w (w_rng (lo := 0) (n := n)) (fun _ => true) (fun k => V.int ((fun _ : Nat => (0 : Int)) k)) (by omega) hf1 (fun _ _ => trivial) ?_ ?_ ?_
          · rintro j HX x _ ⟨rfl, _⟩
            exact Same.refl _
          · rintro j _ x HX Rt Rf hj sX ⟨rfl, rfl⟩ kt kf
            walk_at "T"
            exact kt _ (Same.refl _) rfl
          · rintro I5 sI5 hI5
            rw [given_all, rng_map] at hI5
            walk_at "T"
            rename_i f2 hf2
            rw [Int.toNat_natCast]
            refine lcp_w (w_rng (lo := 0) (n := n)) (fun _ => true) (fun k => V.str ((fun k : Nat => if k % 2 = 0 then one else oth) k)) (by omega) hf2 (fun _ _ => trivial) ?_ ?_ ?_
            · rintro j HX x _ ⟨rfl, _⟩
              exact Same.refl _
            · rintro j _ x HX Rt Rf hj sX ⟨rfl, rfl⟩ kt kf
              walk_at "T"
              rename_i uu huu
              rw [show (0 + (j : Int)) = (j : Int) by omega]
              have fm : (j : Int).fmod 2 = ((j % 2 : Nat) : Int) := (Int.ofNat_fmod j 2).symm
              rw [fm]
              refine r_ixL (v := .str (if j % 2 = 0 then one else oth)) (SqL.of upd_same) ?_ (kt _ (L2.Same.new huu) rfl)
              rcases Nat.mod_two_eq_zero_or_one j with e | e
              · rw [e]
                rfl
              · rw [e]
                rfl
            · rintro I6 sI6 hI6
              rw [given_all, rng_str] at hI6
              walk_at "T"
              rename_i f3 hf3
              refine c_rightG (ds := rngI (fun _ : Nat => (0 : Int)) n) (ss := (List.range n).map (fun k : Nat => if k % 2 = 0 then one else oth)) ⟨f1, f2, upd_same, u_old (sI6 _ _ hI5) hf3, u_old hI6 hf3⟩ ⟨okI_range _ _ _ (fun k => by decide) (by decide) (fun k => by decide), good_range (fun k _ => by show GoodS (if k % 2 = 0 then one else oth); split <;> assumption), by rw [rng_len, List.length_map, List.length_range], by rw [List.length_map, List.length_range]; exact n1⟩ fun J3 sJ3 => ?_
              exact q J3
end K15

end
section
set_option Elab.async false
set_option linter.all false
set_option maxRecDepth 100000
set_option maxHeartbeats 1000000
/-! LZ: a written pair of a text and an empty tuple as a global's value. -/
namespace LZ
open PySem PySem.Spec PyProof.Rows L2
structure DatAt (K : PySem.W.Frag) (mg : Str → Option Value) (x : Str) (d : PyData) : Prop where
  ex : ∃ a, mg x = some (.ref a) ∧ ∀ H, Dp K H (.ref a) d
theorem pe_dat {X : Cx} {x : Str} {d : PyData} {pos : Pos} (hg : Gl X x) (D : DatAt X.K X.mg x d) (hd : (x == ("__debug__" : Str)) = false := by decide) : PE X (.Name x pos) (LX.tDat X.K d) :=
  ⟨fun _ _ _ H _ I h => by
    obtain ⟨a, hm, hd2⟩ := D.ex
    exact ld_glob I hg hm ⟨.ref a, H, I, rfl, h a (hd2 H)⟩ hd⟩
theorem hole_at {K : PySem.W.Frag} {h : Heap} {mg : Str → Option Value} (X : K.In h) (G : h.Ns mainGlobals mg) {hA hB : Addr} {oA oB : Obj} {z : Str} {tk : Tok} {nA nB : Nat}
    (aH : PySem.W.nsIn K mainGlobals "HOLE" = some (some (.ref hA))) (lA : K.lookup hA = some oA) (cA : oA.cls = .type "tuple") (dA : oA.data = .seq #[.str z tk, .ref hB] nA) (eZ : z = ⟨#[]⟩)
    (lB : K.lookup hB = some oB) (cB : oB.cls = .type "tuple") (dB : oB.data = .seq #[] nB) : DatAt K mg "HOLE" LX.holeD := by
  subst eZ
  refine ⟨hA, PySem.W.mg_of X G aH, fun H => .tup (xs := [.str ⟨#[]⟩, .ref hB]) (.inr ⟨oA, _, nA, lA, cA, dA, ?_, .cons ⟨tk, rfl⟩ (.cons rfl .nil)⟩) (.cons (.str _) (.cons (.tup (xs := []) (.inr ⟨oB, _, nB, lB, cB, dB, ?_, .nil⟩) .nil) .nil))⟩
  · show 2 ≤ sizeLine
    rw [sizeLine_eq]
    decide
  · exact Nat.zero_le _
end LZ

end
section
set_option Elab.async false
set_option linter.all false
set_option maxRecDepth 100000
set_option maxHeartbeats 4000000
namespace K15
open PySem hiding Tree
open PySem.Spec PyProof.Rows L2 LW LM
structure Txt (mg : Str → Option Value) : Prop where
  m_bool : mg "bool" = none
  m_enumerate : mg "enumerate" = none
  m_int : mg "int" = none
  m_isinstance : mg "isinstance" = none
  m_len : mg "len" = none
  m_list : mg "list" = none
  m_max : mg "max" = none
  m_range : mg "range" = none
  m_reversed : mg "reversed" = none
  m_set : mg "set" = none
  m_sorted : mg "sorted" = none
  m_str : mg "str" = none
  m_sum : mg "sum" = none
  m_tuple : mg "tuple" = none
  m_zip : mg "zip" = none
def topS (i : Nat) : Stmt := PySem.Challenge.pw_longforms_k16_layers_of_form.main.body.getD i (.Pass ⟨0, 0, 0, 0⟩)
abbrev s_marks_of : Stmt := topS 2
theorem sc_marks_of : FnScope n_marks_of ["form"] (defScope s_marks_of) := ⟨rfl, rfl, rfl, by decide +kernel, rfl, by decide +kernel, by decide +kernel⟩
theorem d_marks_of {P : Program} {w : World} {K : PySem.W.Frag} {mg : Str → Option Value} {base : Heap} {f : Addr} {cdv : Value} {A : Around} {outer : List Env} {s : Shared} {H : Hp} {E : XK} (T : Txt mg) (g_HOLE : LZ.DatAt K mg "HOLE" LX.holeD)
    (hr : Room 0 (A.deeper (envOfC "marks_of" (defScope s_marks_of) s.heap.objs.size f cdv))) :
    PSs (cxOf CX0 P w K mg base n_marks_of "marks_of" (defScope s_marks_of) f cdv A outer s H E).nox (defBody s_marks_of) (t_marks_of K w) :=
  (pss_cons (ps_set (i := 1) sc_marks_of.nd rfl (Or.inl rfl) (pe_lst pa_nil))
    (pss_cons (ps_set (i := 2) sc_marks_of.nd rfl (Or.inl rfl) (LV.pe_listRev rfl (by rfl) T.m_list (by rfl) T.m_reversed (pv 0)))
    (pss_cons (ps_while PassesOwn.never (pt_truth (pv 2) (by intro _; rfl)) (pss_cons (ps_set (i := 3) sc_marks_of.nd rfl (Or.inl rfl) (pe_bm0 PySem.F.plainAttrs_list PySem.F.slot_list_pop PySem.F.type_list_pop mt_pop (pv 2)))
    (pss_one (ps_if (pt_cmpR (LV.op_eqM hr.units) (pv 3) pe_str (nomark _)) (pss_one (ps_expr (pe_bm PySem.F.plainAttrs_list PySem.F.slot_list_append PySem.F.type_list_append mt_append (pv 1) (pa_cons pe_str pa_nil)))) (pss_one (ps_if (pt_cmpR (LV.op_eqM hr.units) (pv 3) (LZ.pe_dat (by rfl) g_HOLE) (nomark _)) (pss_one (ps_expr (pe_bm PySem.F.plainAttrs_list PySem.F.slot_list_append PySem.F.type_list_append mt_append (pv 1) (pa_cons pe_non pa_nil)))) (pss_cons (ps_expr (pe_bm PySem.F.plainAttrs_list PySem.F.slot_list_append PySem.F.type_list_append mt_append (pv 1) (pa_cons (pe_ix ix_tup (pv 3) pe_int (fun _ _ => rfl)) pa_nil)))
    (pss_cons (ps_expr (pe_bm PySem.F.plainAttrs_list PySem.F.slot_list_append PySem.F.type_list_append mt_append (pv 2) (pa_cons pe_str pa_nil)))
    (pss_one (ps_expr (pe_bm PySem.F.plainAttrs_list PySem.F.slot_list_extend PySem.F.type_list_extend mt_extend (pv 2) (pa_cons (LV.pe_listRev rfl (by rfl) T.m_list (by rfl) T.m_reversed (pe_ix ix_tup (pv 3) pe_int (fun _ _ => rfl))) pa_nil))))))))))))
    (pss_one (ps_ret (pv 1))))))
abbrev s_left_numbers : Stmt := topS 4
theorem sc_left_numbers : FnScope n_left_numbers ["counts", "numbers"] (defScope s_left_numbers) := ⟨rfl, rfl, rfl, by decide +kernel, rfl, by decide +kernel, by decide +kernel⟩
theorem d_left_numbers {P : Program} {w : World} {K : PySem.W.Frag} {mg : Str → Option Value} {base : Heap} {f : Addr} {cdv : Value} {A : Around} {outer : List Env} {s : Shared} {H : Hp} {E : XK} (T : Txt mg)
    (hr : Room 0 (A.deeper (envOfC "left_numbers" (defScope s_left_numbers) s.heap.objs.size f cdv))) :
    PSs (cxOf CX0 P w K mg base n_left_numbers "left_numbers" (defScope s_left_numbers) f cdv A outer s H E).nox (defBody s_left_numbers) (t_left_numbers K w) :=
  (pss_cons (ps_set (i := 3) sc_left_numbers.nd rfl (Or.inr rfl) (pe_lock (pe_dc (own := [("number", 2)]) (g := (gName 2)) (tt := tYes) (tk := (tVar 2)) (tv := tDNewK) rfl sc_left_numbers.nd (pi_keys (pv 1)) (blkOk_by (own := [("number", 2)]) (N := n_left_numbers) (sc := defScope s_left_numbers) (by decide +kernel)) (fun _ _ _ _ _ => (pg_name (i := 2) sc_left_numbers.nd rfl (Or.inl rfl))) (fun _ _ _ _ _ => pts_nil) (fun _ _ _ _ _ => (pv 2)) (fun _ _ _ _ _ => pe_dnewK))))
    (pss_cons (ps_lock (ps_for PassesOwn.never rfl (pi_keys (pv 0)) (pg_tup rfl (pgs_cons (pg_name (i := 4) sc_left_numbers.nd rfl (Or.inl rfl)) (pgs_cons (pg_name (i := 5) sc_left_numbers.nd rfl (Or.inl rfl)) pgs_nil))) (pss_cons (ps_dput (hu_of hr) (pe_dget (hu_of hr) (pv 3) (pv 4) (fun _ _ => rfl)) (pv 5) (pe_op op_add (pe_dget2 (hu_of hr) (pe_dget (hu_of hr) (pv 3) (pv 4) (fun _ _ => rfl)) (pv 5) pe_int ⟨by rfl, by rfl, by rfl, by rfl⟩) (pe_dget (hu_of hr) (pv 0) (pe_tup (pa_cons (pv 4) (pa_cons (pv 5) pa_nil))) (fun _ _ => rfl))) rfl)
    (pss_one (ps_dput (hu_of hr) (pe_dget (hu_of hr) (pv 3) (pv 5) (fun _ _ => rfl)) (pv 4) (pe_op op_add (pe_dget2 (hu_of hr) (pe_dget (hu_of hr) (pv 3) (pv 5) (fun _ _ => rfl)) (pv 4) pe_int ⟨by rfl, by rfl, by rfl, by rfl⟩) (pe_dget (hu_of hr) (pv 0) (pe_tup (pa_cons (pv 4) (pa_cons (pv 5) pa_nil))) (fun _ _ => rfl))) rfl)))))
    (pss_cons (ps_set (i := 6) sc_left_numbers.nd rfl (Or.inr rfl) pe_dnewK)
    (pss_cons (ps_for PassesOwn.never rfl (pi_list (pe_callB (LS.cr_sortDI rfl) (by rfl) T.m_sorted (by decide +kernel) (pa_cons (pv 1) pa_nil))) (pg_name (i := 2) sc_left_numbers.nd rfl (Or.inr rfl)) (pss_cons (ps_set (i := 7) sc_left_numbers.nd rfl (Or.inl rfl) (pe_callB (cr_sum rfl) (by rfl) T.m_sum (by decide +kernel) (pa_cons (pe_lock (pe_lc (own := [("other", 5)]) (g := (gName 5)) (tt := (tTest (tOp rEq (tDGet2 (tVar 6) (tVar 5) (tC (.int 1))) (tC (.int 0))))) (te := (tDGet (tDGet (tVar 3) (tVar 2)) (tVar 5))) rfl sc_left_numbers.nd (pi_keys (pe_dget (hu_of hr) (pv 3) (pv 2) (fun _ _ => rfl))) (blkOk_by (own := [("other", 5)]) (N := n_left_numbers) (sc := defScope s_left_numbers) (by decide +kernel)) (fun _ _ _ _ _ => (pg_name (i := 5) sc_left_numbers.nd rfl (Or.inl rfl))) (fun _ _ _ _ _ => (pts_one (pt_cmpR op_eq (pe_dget2 (hu_of hr) (pv 6) (pv 5) pe_int ⟨by rfl, by rfl, by rfl, by rfl⟩) pe_int (nomark _)))) (fun _ _ _ _ _ => (pe_dget (hu_of hr) (pe_dget (hu_of hr) (pv 3) (pv 2) (fun _ _ => rfl)) (pv 5) (fun _ _ => rfl))))) pa_nil)))
    (pss_cons (ps_set (i := 8) sc_left_numbers.nd rfl (Or.inl rfl) (pe_callB (cr_sum rfl) (by rfl) T.m_sum (by decide +kernel) (pa_cons (pe_lock (pe_lc (own := [("other", 5)]) (g := (gName 5)) (tt := (tTest (tOp rEq (tDGet2 (tVar 6) (tVar 5) (tC (.int 0))) (tC (.int 1))))) (te := (tDGet (tDGet (tVar 3) (tVar 2)) (tVar 5))) rfl sc_left_numbers.nd (pi_keys (pe_dget (hu_of hr) (pv 3) (pv 2) (fun _ _ => rfl))) (blkOk_by (own := [("other", 5)]) (N := n_left_numbers) (sc := defScope s_left_numbers) (by decide +kernel)) (fun _ _ _ _ _ => (pg_name (i := 5) sc_left_numbers.nd rfl (Or.inl rfl))) (fun _ _ _ _ _ => (pts_one (pt_cmpR op_eq (pe_dget2 (hu_of hr) (pv 6) (pv 5) pe_int ⟨by rfl, by rfl, by rfl, by rfl⟩) pe_int (nomark _)))) (fun _ _ _ _ _ => (pe_dget (hu_of hr) (pe_dget (hu_of hr) (pv 3) (pv 2) (fun _ _ => rfl)) (pv 5) (fun _ _ => rfl))))) pa_nil)))
    (pss_one (ps_dput (hu_of hr) (pv 6) (pv 2) (pe_ifExp (pt_cmpR op_lt (pv 8) (pv 7) (nomark _)) pe_int pe_int) rfl)))))
    (pss_cons (ps_set (i := 9) sc_left_numbers.nd rfl (Or.inl rfl) (pe_callB (cr_sum rfl) (by rfl) T.m_sum (by decide +kernel) (pa_cons (pe_lock (pe_lc (own := [("pair", 12)]) (g := (gName 12)) (tt := (tTest (tOp oLt (tDGet (tVar 6) (tOp (rIxT K) (tVar 12) (tC (.int 0)))) (tDGet (tVar 6) (tOp (rIxT K) (tVar 12) (tC (.int 1))))))) (te := (tDGet (tVar 0) (tVar 12))) rfl sc_left_numbers.nd (pi_keys (pv 0)) (blkOk_by (own := [("pair", 12)]) (N := n_left_numbers) (sc := defScope s_left_numbers) (by decide +kernel)) (fun _ _ _ _ _ => (pg_name (i := 12) sc_left_numbers.nd rfl (Or.inl rfl))) (fun _ _ _ _ _ => (pts_one (pt_cmpR op_lt (pe_dget (hu_of hr) (pv 6) (pe_ix ix_tup (pv 12) pe_int (fun _ _ => rfl)) (fun _ _ => rfl)) (pe_dget (hu_of hr) (pv 6) (pe_ix ix_tup (pv 12) pe_int (fun _ _ => rfl)) (fun _ _ => rfl)) (nomark _)))) (fun _ _ _ _ _ => (pe_dget (hu_of hr) (pv 0) (pv 12) (fun _ _ => rfl))))) pa_nil)))
    (pss_cons (ps_set (i := 10) sc_left_numbers.nd rfl (Or.inl rfl) (pe_callB (cr_sum rfl) (by rfl) T.m_sum (by decide +kernel) (pa_cons (pe_lock (pe_lc (own := [("pair", 12)]) (g := (gName 12)) (tt := (tTest (tOp oGt (tDGet (tVar 6) (tOp (rIxT K) (tVar 12) (tC (.int 0)))) (tDGet (tVar 6) (tOp (rIxT K) (tVar 12) (tC (.int 1))))))) (te := (tDGet (tVar 0) (tVar 12))) rfl sc_left_numbers.nd (pi_keys (pv 0)) (blkOk_by (own := [("pair", 12)]) (N := n_left_numbers) (sc := defScope s_left_numbers) (by decide +kernel)) (fun _ _ _ _ _ => (pg_name (i := 12) sc_left_numbers.nd rfl (Or.inl rfl))) (fun _ _ _ _ _ => (pts_one (pt_cmpR op_gt (pe_dget (hu_of hr) (pv 6) (pe_ix ix_tup (pv 12) pe_int (fun _ _ => rfl)) (fun _ _ => rfl)) (pe_dget (hu_of hr) (pv 6) (pe_ix ix_tup (pv 12) pe_int (fun _ _ => rfl)) (fun _ _ => rfl)) (nomark _)))) (fun _ _ _ _ _ => (pe_dget (hu_of hr) (pv 0) (pv 12) (fun _ _ => rfl))))) pa_nil)))
    (pss_cons (ps_set (i := 11) sc_left_numbers.nd rfl (Or.inr rfl) (pe_ifExp (pt_cmpR op_gt (pv 10) (pv 9) (nomark _)) pe_int pe_int))
    (pss_one (ps_ret (pe_tupleOf (by rfl) T.m_tuple (pe_lc (own := [("number", 2)]) (g := (gName 2)) (tt := (tTest (tOp rEq (tDGet (tVar 6) (tVar 2)) (tVar 11)))) (te := (tVar 2)) rfl sc_left_numbers.nd (pi_list (pe_callB (LS.cr_sortDI rfl) (by rfl) T.m_sorted (by decide +kernel) (pa_cons (pv 6) pa_nil))) (blkOk_by (own := [("number", 2)]) (N := n_left_numbers) (sc := defScope s_left_numbers) (by decide +kernel)) (fun _ _ _ _ _ => (pg_name (i := 2) sc_left_numbers.nd rfl (Or.inl rfl))) (fun _ _ _ _ _ => (pts_one (pt_cmpR op_eq (pe_dget (hu_of hr) (pv 6) (pv 2) (fun _ _ => rfl)) (pv 11) (nomark _)))) (fun _ _ _ _ _ => (pv 2)))))))))))))
abbrev s_blocks_of : Stmt := topS 6
theorem sc_blocks_of : FnScope n_blocks_of ["row"] (defScope s_blocks_of) := ⟨rfl, rfl, rfl, by decide +kernel, rfl, by decide +kernel, by decide +kernel⟩
theorem d_blocks_of {P : Program} {w : World} {K : PySem.W.Frag} {mg : Str → Option Value} {base : Heap} {f : Addr} {cdv : Value} {A : Around} {outer : List Env} {s : Shared} {H : Hp} {E : XK} (T : Txt mg)
    (hr : Room 0 (A.deeper (envOfC "blocks_of" (defScope s_blocks_of) s.heap.objs.size f cdv))) :
    PSs (cxOf CX0 P w K mg base n_blocks_of "blocks_of" (defScope s_blocks_of) f cdv A outer s H E).nox (defBody s_blocks_of) (t_blocks_of K w) :=
  (pss_cons (ps_set (i := 1) sc_blocks_of.nd rfl (Or.inl rfl) (pe_lst pa_nil))
    (pss_cons (ps_for PassesOwn.never rfl (pi_tup (pv 0)) (pg_name (i := 2) sc_blocks_of.nd rfl (Or.inl rfl)) (pss_one (ps_if (PW.pt (pw_and (pt_truth (pv 1) (by intro _; rfl)) (pw_and1 (pt_cmpR op_eq (pe_ix ix_tup (pe_ix ix_list (pv 1) (pe_un un_neg pe_int) (fun _ _ => rfl)) pe_int (fun _ _ => rfl)) (pv 2) (nomark _))))) (pss_one (ps_asg (pe_tup (pa_cons (pv 2) (pa_cons (pe_op op_add (pe_ix ix_tup (pe_ix ix_list (pv 1) (pe_un un_neg pe_int) (fun _ _ => rfl)) pe_int (fun _ _ => rfl)) pe_int) pa_nil))) (pg_sub (pv 1) (pe_un un_neg pe_int) set_list))) (pss_one (ps_expr (pe_bm PySem.F.plainAttrs_list PySem.F.slot_list_append PySem.F.type_list_append mt_append (pv 1) (pa_cons (pe_tup (pa_cons (pv 2) (pa_cons pe_int pa_nil))) pa_nil)))))))
    (pss_one (ps_ret (pv 1)))))
abbrev s_row_blocks : Stmt := topS 7
theorem sc_row_blocks : FnScope n_row_blocks ["row", "used"] (defScope s_row_blocks) := ⟨rfl, rfl, rfl, by decide +kernel, rfl, by decide +kernel, by decide +kernel⟩
theorem d_row_blocks {P : Program} {w : World} {K : PySem.W.Frag} {mg : Str → Option Value} {base : Heap} {f : Addr} {cdv : Value} {A : Around} {outer : List Env} {s : Shared} {H : Hp} {E : XK} (T : Txt mg) (c_blocks_of : Cl P w K mg base 1 "blocks_of" (sp_blocks_of K))
    (hr : Room 1 (A.deeper (envOfC "row_blocks" (defScope s_row_blocks) s.heap.objs.size f cdv))) :
    PSs (cxOf CX0 P w K mg base n_row_blocks "row_blocks" (defScope s_row_blocks) f cdv A outer s H E).nox (defBody s_row_blocks) (t_row_blocks K w) :=
  (pss_cons (ps_set (i := 2) sc_row_blocks.nd rfl (Or.inl rfl) (pe_cl c_blocks_of hr (by decide) (by rfl) (pa_cons (pv 0) pa_nil)))
    (pss_cons (ps_set (i := 3) sc_row_blocks.nd rfl (Or.inl rfl) (pe_tupleOf (by rfl) T.m_tuple (pe_callB (LS.cr_sortDP rfl) (by rfl) T.m_sorted (by decide +kernel) (pa_cons (LD.pe_dcT (own := [("run", 6)]) (g := (gName 6)) (tt := (tTest (tOp oGt (tOp (rIxT K) (tVar 6) (tC (.int 1))) (tC (.int 1))))) (tk := (tVar 6)) (tv := (tC (.bl true))) (hu_of hr) rfl sc_row_blocks.nd (pi_list (pv 2)) (blkOk_by (own := [("run", 6)]) (N := n_row_blocks) (sc := defScope s_row_blocks) (by decide +kernel)) (fun _ _ _ _ _ => (pg_name (i := 6) sc_row_blocks.nd rfl (Or.inl rfl))) (fun _ _ _ _ _ => (pts_one (pt_cmpR op_gt (pe_ix ix_tup (pv 6) pe_int (fun _ _ => rfl)) pe_int (nomark _)))) (fun _ _ _ _ _ => (pv 6)) (fun _ _ _ _ _ => pe_bl)) pa_nil))))
    (pss_cons (ps_set (i := 4) sc_row_blocks.nd rfl (Or.inr rfl) (LD.pe_dcT (own := [("at", 5), ("run", 6)]) (g := (gTup K 2 (gCons (gName 5) (gCons (gName 6) gNil)))) (tt := tYes) (tk := (tVar 6)) (tv := (tOp oAdd (tVar 1) (tVar 5))) (hu_of hr) rfl sc_row_blocks.nd (LR.pi_enum2 true (by rfl) T.m_enumerate (pa_cons (pv 3) pa_nil)) (blkOk_by (own := [("at", 5), ("run", 6)]) (N := n_row_blocks) (sc := defScope s_row_blocks) (by decide +kernel)) (fun _ _ _ _ _ => (pg_tup rfl (pgs_cons (pg_name (i := 5) sc_row_blocks.nd rfl (Or.inl rfl)) (pgs_cons (pg_name (i := 6) sc_row_blocks.nd rfl (Or.inl rfl)) pgs_nil)))) (fun _ _ _ _ _ => pts_nil) (fun _ _ _ _ _ => (pv 6)) (fun _ _ _ _ _ => (pe_op op_add (pv 1) (pv 5)))))
    (pss_one (ps_ret (pe_tup (pa_cons (pe_tupleOf (by rfl) T.m_tuple (pe_lc (own := [("run", 6)]) (g := (gName 6)) (tt := tYes) (te := (tDGet2 (tVar 4) (tVar 6) (tOp (rIxT K) (tVar 6) (tC (.int 0))))) rfl sc_row_blocks.nd (pi_list (pv 2)) (blkOk_by (own := [("run", 6)]) (N := n_row_blocks) (sc := defScope s_row_blocks) (by decide +kernel)) (fun _ _ _ _ _ => (pg_name (i := 6) sc_row_blocks.nd rfl (Or.inl rfl))) (fun _ _ _ _ _ => pts_nil) (fun _ _ _ _ _ => (pe_dget2 (hu_of hr) (pv 4) (pv 6) (pe_ix ix_tup (pv 6) pe_int (fun _ _ => rfl)) ⟨by rfl, by rfl, by rfl, by rfl⟩)))) (pa_cons (pv 3) (pa_cons (pe_op op_add (pv 1) (pe_callB call_len_seq (by rfl) T.m_len PySem.boot_len (pa_cons (pv 3) pa_nil))) pa_nil)))))))))
abbrev s_row_counts : Stmt := topS 8
theorem sc_row_counts : FnScope n_row_counts ["row"] (defScope s_row_counts) := ⟨rfl, rfl, rfl, by decide +kernel, rfl, by decide +kernel, by decide +kernel⟩
theorem d_row_counts {P : Program} {w : World} {K : PySem.W.Frag} {mg : Str → Option Value} {base : Heap} {f : Addr} {cdv : Value} {A : Around} {outer : List Env} {s : Shared} {H : Hp} {E : XK} (T : Txt mg)
    (hr : Room 0 (A.deeper (envOfC "row_counts" (defScope s_row_counts) s.heap.objs.size f cdv))) :
    PSs (cxOf CX0 P w K mg base n_row_counts "row_counts" (defScope s_row_counts) f cdv A outer s H E).nox (defBody s_row_counts) (t_row_counts K w) :=
  (pss_cons (ps_set (i := 1) sc_row_counts.nd rfl (Or.inl rfl) pe_dnewT)
    (pss_cons (ps_for PassesOwn.never rfl (LR.pi_zip2 true true (by rfl) T.m_zip (pa_cons (pv 0) (pa_cons (pe_slice sl_tupA (pv 0) (po_some pe_int) po_none) pa_nil))) (pg_tup rfl (pgs_cons (pg_name (i := 2) sc_row_counts.nd rfl (Or.inl rfl)) (pgs_cons (pg_name (i := 3) sc_row_counts.nd rfl (Or.inl rfl)) pgs_nil))) (pss_one (ps_dput (hu_of hr) (pv 1) (pe_tup (pa_cons (pv 2) (pa_cons (pv 3) pa_nil))) (pe_op op_add (pe_dget2 (hu_of hr) (pv 1) (pe_tup (pa_cons (pv 2) (pa_cons (pv 3) pa_nil))) pe_int ⟨by rfl, by rfl, by rfl, by rfl⟩) pe_int) rfl)))
    (pss_one (ps_ret (pe_tup (pa_cons (pv 1) (pa_cons (pe_dc (own := [("number", 4)]) (g := (gName 4)) (tt := tYes) (tk := (tVar 4)) (tv := (tC (.bl true))) rfl sc_row_counts.nd (pi_tup (pv 0)) (blkOk_by (own := [("number", 4)]) (N := n_row_counts) (sc := defScope s_row_counts) (by decide +kernel)) (fun _ _ _ _ _ => (pg_name (i := 4) sc_row_counts.nd rfl (Or.inl rfl))) (fun _ _ _ _ _ => pts_nil) (fun _ _ _ _ _ => (pv 4)) (fun _ _ _ _ _ => pe_bl)) pa_nil)))))))
abbrev s_row_pairs : Stmt := topS 9
theorem sc_row_pairs : FnScope n_row_pairs ["row", "lefts", "used"] (defScope s_row_pairs) := ⟨rfl, rfl, rfl, by decide +kernel, rfl, by decide +kernel, by decide +kernel⟩
theorem d_row_pairs {P : Program} {w : World} {K : PySem.W.Frag} {mg : Str → Option Value} {base : Heap} {f : Addr} {cdv : Value} {A : Around} {outer : List Env} {s : Shared} {H : Hp} {E : XK} (T : Txt mg)
    (hr : Room 0 (A.deeper (envOfC "row_pairs" (defScope s_row_pairs) s.heap.objs.size f cdv))) :
    PSs (cxOf CX0 P w K mg base n_row_pairs "row_pairs" (defScope s_row_pairs) f cdv A outer s H E).nox (defBody s_row_pairs) (t_row_pairs K w) :=
  (pss_cons (ps_set (i := 3) sc_row_pairs.nd rfl (Or.inl rfl) pe_dnewT)
    (pss_cons (ps_for PassesOwn.never rfl (LR.pi_zip2 true true (by rfl) T.m_zip (pa_cons (pv 0) (pa_cons (pe_slice sl_tupA (pv 0) (po_some pe_int) po_none) pa_nil))) (pg_tup rfl (pgs_cons (pg_name (i := 4) sc_row_pairs.nd rfl (Or.inl rfl)) (pgs_cons (pg_name (i := 5) sc_row_pairs.nd rfl (Or.inl rfl)) pgs_nil))) (pss_one (ps_if (PW.pt (pw_and (pt_cmpR op_in_seq (pv 4) (pv 1) (by first | exact nobehind _ (by decide) (by decide) | rfl)) (pw_and1 (pt_cmpR op_notIn_seq (pv 5) (pv 1) (by first | exact nobehind _ (by decide) (by decide) | rfl))))) (pss_one (ps_dput (hu_of hr) (pv 3) (pe_tup (pa_cons (pv 4) (pa_cons (pv 5) pa_nil))) pe_bl rfl)) pss_nil)))
    (pss_cons (ps_set (i := 6) sc_row_pairs.nd rfl (Or.inl rfl) (pe_tupleOf (by rfl) T.m_tuple (pe_callB (LS.cr_sortDP rfl) (by rfl) T.m_sorted (by decide +kernel) (pa_cons (pv 3) pa_nil))))
    (pss_cons (LDx.ps_setDcT (i := 8) (own := [("at", 7), ("pair", 10)]) (g := (gTup K 2 (gCons (gName 7) (gCons (gName 10) gNil)))) (tt := tYes) (tk := (tVar 10)) (tv := (tOp oAdd (tVar 2) (tVar 7))) (hu_of hr) rfl sc_row_pairs.nd rfl rfl (LDx.sw_trueD rfl rfl rfl (by decide +kernel)) (LR.pi_enum2 true (by rfl) T.m_enumerate (pa_cons (pv 6) pa_nil)) (blkOk_by (own := [("at", 7), ("pair", 10)]) (N := n_row_pairs) (sc := defScope s_row_pairs) (by decide +kernel)) (fun _ _ _ _ _ => (pg_tup rfl (pgs_cons (pg_name (i := 7) sc_row_pairs.nd rfl (Or.inl rfl)) (pgs_cons (pg_name (i := 10) sc_row_pairs.nd rfl (Or.inl rfl)) pgs_nil)))) (fun _ _ _ _ _ => pts_nil) (fun _ _ _ _ _ => (pv 10)) (fun _ _ _ _ _ => (pe_op op_add (pv 2) (pv 7))))
    (pss_cons (ps_set (i := 9) sc_row_pairs.nd rfl (Or.inl rfl) (pe_lst pa_nil))
    (pss_cons (ps_set (i := 7) sc_row_pairs.nd rfl (Or.inl rfl) pe_int)
    (pss_cons (ps_while PassesOwn.never (pt_cmpR op_lt (pv 7) (pe_callB call_len_seq (by rfl) T.m_len PySem.boot_len (pa_cons (pv 0) pa_nil)) (nomark _)) (pss_one (ps_if (pt_cmp (pc_din (hu_of hr) (pe_tupleOf (by rfl) T.m_tuple (pe_slice sl_tupA (pv 0) (po_some (pv 7)) (po_some (pe_op op_add (pv 7) pe_int)))) (pv 8))) (pss_cons (ps_expr (pe_bm PySem.F.plainAttrs_list PySem.F.slot_list_append PySem.F.type_list_append mt_append (pv 9) (pa_cons (pe_dget (hu_of hr) (pv 8) (pe_tupleOf (by rfl) T.m_tuple (pe_slice sl_tupA (pv 0) (po_some (pv 7)) (po_some (pe_op op_add (pv 7) pe_int)))) (fun _ _ => rfl)) pa_nil)))
    (pss_one (ps_aug (i := 7) sc_row_pairs.nd rfl (Or.inl rfl) pe_int ip_add))) (pss_cons (ps_expr (pe_bm PySem.F.plainAttrs_list PySem.F.slot_list_append PySem.F.type_list_append mt_append (pv 9) (pa_cons (pe_ix ix_tup (pv 0) (pv 7) (fun _ _ => rfl)) pa_nil)))
    (pss_one (ps_aug (i := 7) sc_row_pairs.nd rfl (Or.inl rfl) pe_int ip_add))))))
    (pss_one (ps_ret (pe_tup (pa_cons (pe_tupleOf (by rfl) T.m_tuple (pv 9)) (pa_cons (pv 6) (pa_cons (pe_op op_add (pv 2) (pe_callB call_len_seq (by rfl) T.m_len PySem.boot_len (pa_cons (pv 6) pa_nil))) pa_nil)))))))))))))
abbrev s_sides_of : Stmt := topS 11
theorem sc_sides_of : FnScope n_sides_of ["row"] (defScope s_sides_of) := ⟨rfl, rfl, rfl, by decide +kernel, rfl, by decide +kernel, by decide +kernel⟩
theorem d_sides_of {P : Program} {w : World} {K : PySem.W.Frag} {mg : Str → Option Value} {base : Heap} {f : Addr} {cdv : Value} {A : Around} {outer : List Env} {s : Shared} {H : Hp} {E : XK} (T : Txt mg) (c_left_numbers : Cl P w K mg base 1 "left_numbers" (sp_left_numbers K)) (c_row_counts : Cl P w K mg base 1 "row_counts" (sp_row_counts K))
    (hr : Room 1 (A.deeper (envOfC "sides_of" (defScope s_sides_of) s.heap.objs.size f cdv))) :
    PSs (cxOf CX0 P w K mg base n_sides_of "sides_of" (defScope s_sides_of) f cdv A outer s H E).nox (defBody s_sides_of) (t_sides_of K w) :=
  (pss_cons (ps_asg (pe_cl c_row_counts hr (by decide) (by rfl) (pa_cons (pv 0) pa_nil)) (pg_tup rfl (pgs_cons (pg_name (i := 1) sc_sides_of.nd rfl (Or.inl rfl)) (pgs_cons (pg_name (i := 2) sc_sides_of.nd rfl (Or.inl rfl)) pgs_nil))))
    (pss_one (ps_ret (pe_cl c_left_numbers hr (by decide) (by rfl) (pa_cons (pv 1) (pa_cons (pv 2) pa_nil))))))
abbrev s_number_row : Stmt := topS 12
theorem sc_number_row : FnScope n_number_row ["form", "names"] (defScope s_number_row) := ⟨rfl, rfl, rfl, by decide +kernel, rfl, by decide +kernel, by decide +kernel⟩
theorem d_number_row {P : Program} {w : World} {K : PySem.W.Frag} {mg : Str → Option Value} {base : Heap} {f : Addr} {cdv : Value} {A : Around} {outer : List Env} {s : Shared} {H : Hp} {E : XK} (T : Txt mg) (c_marks_of : Cl P w K mg base 1 "marks_of" (sp_marks_of K))
    (hr : Room 1 (A.deeper (envOfC "number_row" (defScope s_number_row) s.heap.objs.size f cdv))) :
    PSs (cxOf CX0 P w K mg base n_number_row "number_row" (defScope s_number_row) f cdv A outer s H E).nox (defBody s_number_row) (t_number_row K w) :=
  (pss_one (ps_ret (pe_tupleOf (by rfl) T.m_tuple (pe_lc (own := [("mark", 2)]) (g := (gName 2)) (tt := tYes) (te := (tIf (oTru K (tVar 2)) (tOp oAdd (tC (.int 1)) (LY.tBMF K (LX.rTIndex K) (tVar 1) (tCons (tVar 2) tNil))) (tC (.int 0)))) rfl sc_number_row.nd (pi_list (pe_cl c_marks_of hr (by decide) (by rfl) (pa_cons (pv 0) pa_nil))) (blkOk_by (own := [("mark", 2)]) (N := n_number_row) (sc := defScope s_number_row) (by decide +kernel)) (fun _ _ _ _ _ => (pg_name (i := 2) sc_number_row.nd rfl (Or.inl rfl))) (fun _ _ _ _ _ => pts_nil) (fun _ _ _ _ _ => (pe_ifExp (pt_truth (pv 2) (by intro _; rfl)) (pe_op op_add pe_int (LY.pe_bmF PySem.F.plainAttrs_tuple PySem.F.slot_tuple_index PySem.F.type_tuple_index mt_tup_index (pv 1) (pa_cons (pv 2) pa_nil))) pe_int))))))
abbrev s_layers_of_form : Stmt := topS 13
theorem sc_layers_of_form : FnScope n_layers_of_form ["form"] (defScope s_layers_of_form) := ⟨rfl, rfl, rfl, by decide +kernel, rfl, by decide +kernel, by decide +kernel⟩
theorem d_layers_of_form {P : Program} {w : World} {K : PySem.W.Frag} {mg : Str → Option Value} {base : Heap} {f : Addr} {cdv : Value} {A : Around} {outer : List Env} {s : Shared} {H : Hp} {E : XK} (T : Txt mg) (c_marks_of : Cl P w K mg base 1 "marks_of" (sp_marks_of K)) (c_number_row : Cl P w K mg base 2 "number_row" (sp_number_row K)) (c_row_blocks : Cl P w K mg base 2 "row_blocks" (sp_row_blocks K)) (c_row_pairs : Cl P w K mg base 1 "row_pairs" (sp_row_pairs K)) (c_sides_of : Cl P w K mg base 2 "sides_of" (sp_sides_of K))
    (hr : Room 2 (A.deeper (envOfC "layers_of_form" (defScope s_layers_of_form) s.heap.objs.size f cdv))) :
    PSs (cxOf CX0 P w K mg base n_layers_of_form "layers_of_form" (defScope s_layers_of_form) f cdv A outer s H E).nox (defBody s_layers_of_form) (t_layers_of_form K w) :=
  (pss_cons (ps_set (i := 1) sc_layers_of_form.nd rfl (Or.inl rfl) (LY.pe_tupleF (by rfl) T.m_tuple (pe_callB (call_sortedD rfl) (by rfl) T.m_sorted (by decide +kernel) (pa_cons (pe_dc (own := [("mark", 8)]) (g := (gName 8)) (tt := (oTru K (tVar 8))) (tk := (tVar 8)) (tv := (tC (.bl true))) rfl sc_layers_of_form.nd (pi_list (pe_cl c_marks_of hr (by decide) (by rfl) (pa_cons (pv 0) pa_nil))) (blkOk_by (own := [("mark", 8)]) (N := n_layers_of_form) (sc := defScope s_layers_of_form) (by decide +kernel)) (fun _ _ _ _ _ => (pg_name (i := 8) sc_layers_of_form.nd rfl (Or.inl rfl))) (fun _ _ _ _ _ => (pts_one (pt_truth (pv 8) (by intro _; rfl)))) (fun _ _ _ _ _ => (pv 8)) (fun _ _ _ _ _ => pe_bl)) pa_nil))))
    (pss_cons (ps_set (i := 2) sc_layers_of_form.nd rfl (Or.inl rfl) (pe_cl c_number_row hr (by decide) (by rfl) (pa_cons (pv 0) (pa_cons (pv 1) pa_nil))))
    (pss_cons (ps_set (i := 3) sc_layers_of_form.nd rfl (Or.inl rfl) (pe_op op_add (pe_callB call_len_seq (by rfl) T.m_len PySem.boot_len (pa_cons (pv 1) pa_nil)) pe_int))
    (pss_cons (ps_set (i := 4) sc_layers_of_form.nd rfl (Or.inl rfl) (pe_lst pa_nil))
    (pss_cons (ps_while PassesOwn.never (pt_cmpR op_gt (pe_callB call_len_seq (by rfl) T.m_len PySem.boot_len (pa_cons (pv 2) pa_nil)) pe_int (nomark _)) (pss_cons (ps_asg (pe_cl c_row_blocks hr (by decide) (by rfl) (pa_cons (pv 2) (pa_cons (pv 3) pa_nil))) (pg_tup rfl (pgs_cons (pg_name (i := 2) sc_layers_of_form.nd rfl (Or.inl rfl)) (pgs_cons (pg_name (i := 5) sc_layers_of_form.nd rfl (Or.inl rfl)) (pgs_cons (pg_name (i := 3) sc_layers_of_form.nd rfl (Or.inl rfl)) pgs_nil)))))
    (pss_cons (ps_asg (pe_tup (pa_cons (pe_tup pa_nil) (pa_cons (pe_tup pa_nil) pa_nil))) (pg_tup rfl (pgs_cons (pg_name (i := 6) sc_layers_of_form.nd rfl (Or.inl rfl)) (pgs_cons (pg_name (i := 7) sc_layers_of_form.nd rfl (Or.inl rfl)) pgs_nil))))
    (pss_cons (ps_if (pt_cmpR op_gt (pe_callB call_len_seq (by rfl) T.m_len PySem.boot_len (pa_cons (pv 2) pa_nil)) pe_int (nomark _)) (pss_cons (ps_set (i := 6) sc_layers_of_form.nd rfl (Or.inl rfl) (pe_cl c_sides_of hr (by decide) (by rfl) (pa_cons (pv 2) pa_nil)))
    (pss_one (ps_asg (pe_cl c_row_pairs hr (by decide) (by rfl) (pa_cons (pv 2) (pa_cons (pv 6) (pa_cons (pv 3) pa_nil)))) (pg_tup rfl (pgs_cons (pg_name (i := 2) sc_layers_of_form.nd rfl (Or.inl rfl)) (pgs_cons (pg_name (i := 7) sc_layers_of_form.nd rfl (Or.inl rfl)) (pgs_cons (pg_name (i := 3) sc_layers_of_form.nd rfl (Or.inl rfl)) pgs_nil))))))) pss_nil)
    (pss_one (ps_expr (pe_bm PySem.F.plainAttrs_list PySem.F.slot_list_append PySem.F.type_list_append mt_append (pv 4) (pa_cons (pe_tup (pa_cons (pv 5) (pa_cons (pv 6) (pa_cons (pv 7) pa_nil)))) pa_nil))))))))
    (pss_one (ps_ret (pe_tup (pa_cons (pv 1) (pa_cons (pe_tupleOf (by rfl) T.m_tuple (pv 4)) (pa_cons (pe_ifExp (pt_truth (pv 2) (by intro _; rfl)) (pe_ix ix_tup (pv 2) pe_int (fun _ _ => rfl)) pe_non) pa_nil)))))))))))
abbrev s__law_draw : Stmt := topS 17
theorem sc__law_draw : FnScope n__law_draw ["urn", "many"] (defScope s__law_draw) := ⟨rfl, rfl, rfl, by decide +kernel, rfl, by decide +kernel, by decide +kernel⟩
theorem d__law_draw {P : Program} {w : World} {K : PySem.W.Frag} {mg : Str → Option Value} {base : Heap} {f : Addr} {cdv : Value} {A : Around} {outer : List Env} {s : Shared} {H : Hp} {E : XK} (T : Txt mg)
    (hr : Room 0 (A.deeper (envOfC "_law_draw" (defScope s__law_draw) s.heap.objs.size f cdv))) :
    PSs (cxOf CX0 P w K mg base n__law_draw "_law_draw" (defScope s__law_draw) f cdv A outer s H E).nox (defBody s__law_draw) (t__law_draw K w) :=
  (pss_cons (ps_asg (pe_op op_add (pe_ix ix_list (pv 0) pe_int (fun _ _ => rfl)) pe_int) (pg_sub (pv 0) pe_int set_list))
    (pss_cons (ps_set (i := 2) sc__law_draw.nd rfl (Or.inl rfl) (pe_op op_modN (pe_callTy call_int1 (by rfl) T.m_int (by decide +kernel) (pa_cons (pe_op op_add (pe_op op_mul (pe_ix ix_list (pv 0) pe_int (fun _ _ => rfl)) pe_int) (pe_op op_fdivN (pe_ix ix_list (pv 0) pe_int (fun _ _ => rfl)) pe_int)) pa_nil)) (pe_callB call_len_seq (by rfl) T.m_len PySem.boot_len (pa_cons (pe_ix ix_list (pv 0) pe_int (fun _ _ => rfl)) pa_nil))))
    (pss_cons (ps_asg (pe_op op_modN (pe_callTy call_int1 (by rfl) T.m_int (by decide +kernel) (pa_cons (pe_op op_add (pe_op op_add (pe_op op_add (pe_op op_mul (pe_ix ix_list (pv 0) pe_int (fun _ _ => rfl)) pe_int) (pe_ix ix_list (pe_ix ix_list (pv 0) pe_int (fun _ _ => rfl)) (pv 2) (fun _ _ => rfl))) (pe_op op_mul (pe_ix ix_list (pv 0) pe_int (fun _ _ => rfl)) pe_int)) pe_int) pa_nil)) pe_int) (pg_sub (pv 0) pe_int set_list))
    (pss_one (ps_ret (pe_op op_modN (pe_callTy call_int1 (by rfl) T.m_int (by decide +kernel) (pa_cons (pe_op op_fdivN (pe_ix ix_list (pv 0) pe_int (fun _ _ => rfl)) pe_int) pa_nil)) (pv 1)))))))
abbrev s__law_urn : Stmt := topS 18
theorem sc__law_urn : FnScope n__law_urn ["script"] (defScope s__law_urn) := ⟨rfl, rfl, rfl, by decide +kernel, rfl, by decide +kernel, by decide +kernel⟩
theorem d__law_urn {P : Program} {w : World} {K : PySem.W.Frag} {mg : Str → Option Value} {base : Heap} {f : Addr} {cdv : Value} {A : Around} {outer : List Env} {s : Shared} {H : Hp} {E : XK} (T : Txt mg)
    (hr : Room 0 (A.deeper (envOfC "_law_urn" (defScope s__law_urn) s.heap.objs.size f cdv))) :
    PSs (cxOf CX0 P w K mg base n__law_urn "_law_urn" (defScope s__law_urn) f cdv A outer s H E).nox (defBody s__law_urn) (t__law_urn K w) :=
  (pss_cons (ps_setLc (i := 1) (own := [("cell", 2)]) (g := (gName 2)) (tt := tYes) (te := (tOp oMod (tCB oInt (tCons (tVar 2) tNil)) (tC (.int 1000033)))) rfl sc__law_urn.nd rfl rfl (sw_true rfl rfl rfl (by decide +kernel)) (pi_list (pe_slice sl_list (pv 0) po_none (po_some pe_int))) (blkOk_by (own := [("cell", 2)]) (N := n__law_urn) (sc := defScope s__law_urn) (by decide +kernel)) (fun _ _ _ _ _ => (pg_name (i := 2) sc__law_urn.nd rfl (Or.inl rfl))) (fun _ _ _ _ _ => pts_nil) (fun _ _ _ _ _ => (pe_op op_modN (pe_callTy call_int1 (by rfl) T.m_int (by decide +kernel) (pa_cons (pv 2) pa_nil)) pe_int)))
    (pss_one (ps_ret (pe_lst (pa_cons (pe_op op_cat (pe_lst (pa_cons pe_int pa_nil)) (pv 1)) (pa_cons (pe_op op_add pe_int (pe_callB call_len_seq (by rfl) T.m_len PySem.boot_len (pa_cons (pv 1) pa_nil))) (pa_cons pe_int pa_nil)))))))
abbrev s__law_like : Stmt := topS 19
theorem sc__law_like : FnScope n__law_like ["told", "due"] (defScope s__law_like) := ⟨rfl, rfl, rfl, by decide +kernel, rfl, by decide +kernel, by decide +kernel⟩
theorem d__law_like {P : Program} {w : World} {K : PySem.W.Frag} {mg : Str → Option Value} {base : Heap} {f : Addr} {cdv : Value} {A : Around} {outer : List Env} {s : Shared} {H : Hp} {E : XK} (T : Txt mg) {k : Nat} {spr : Sp} (c__law_like : Cl P w K mg base k "_law_like" spr)
    (hr : Room k (A.deeper (envOfC "_law_like" (defScope s__law_like) s.heap.objs.size f cdv))) :
    PSs (cxOf CX0 P w K mg base n__law_like "_law_like" (defScope s__law_like) f cdv A outer s H E).nox (defBody s__law_like) (t__law_like K w spr) :=
  (pss_cons (ps_if (pt_cmpR op_isN (pv 1) pe_non (nomark _)) (pss_one (ps_ret (pe_cmpR op_isN (pv 0) pe_non (nomark _)))) pss_nil)
    (pss_cons (ps_if (pt_val (pe_callB call_isi (by rfl) T.m_isinstance (by decide +kernel) (pa_cons (pv 1) (pa_cons (pe_bltn (v := .ty "tuple") (u := .type "tuple") (by rfl) T.m_tuple (by decide +kernel) rfl) pa_nil)))) (pss_cons (ps_if (PW.pt (pw_or (pt_not (pt_val (pe_callB call_isi (by rfl) T.m_isinstance (by decide +kernel) (pa_cons (pv 0) (pa_cons (pe_bltn (v := .ty "tuple") (u := .type "tuple") (by rfl) T.m_tuple (by decide +kernel) rfl) pa_nil))))) (pw_or1 (pt_cmpR op_ne (pe_callB call_len_seq (by rfl) T.m_len PySem.boot_len (pa_cons (pv 0) pa_nil)) (pe_callB call_len_seq (by rfl) T.m_len PySem.boot_len (pa_cons (pv 1) pa_nil)) (nomark _))))) (pss_one (ps_ret pe_bl)) pss_nil)
    (pss_cons (ps_for PassesOwn.never rfl (pi_range1 rfl T.m_range (pa_cons (pe_callB call_len_seq (by rfl) T.m_len PySem.boot_len (pa_cons (pv 1) pa_nil)) pa_nil)) (pg_name (i := 2) sc__law_like.nd rfl (Or.inl rfl)) (pss_one (ps_if (pt_not (pt_val (pe_cl c__law_like hr (Nat.le_refl _) (by rfl) (pa_cons (pe_ix ix_tup (pv 0) (pv 2) (fun _ _ => rfl)) (pa_cons (pe_ix ix_tup (pv 1) (pv 2) (fun _ _ => rfl)) pa_nil))))) (pss_one (ps_ret pe_bl)) pss_nil)))
    (pss_one (ps_ret pe_bl)))) pss_nil)
    (pss_cons (ps_if (pt_val (pe_callB call_isi (by rfl) T.m_isinstance (by decide +kernel) (pa_cons (pv 1) (pa_cons (pe_bltn (v := .ty "str") (u := .type "str") (by rfl) T.m_str (by decide +kernel) rfl) pa_nil)))) (pss_one (ps_ret (pe_and (pe_callB call_isi (by rfl) T.m_isinstance (by decide +kernel) (pa_cons (pv 0) (pa_cons (pe_bltn (v := .ty "str") (u := .type "str") (by rfl) T.m_str (by decide +kernel) rfl) pa_nil))) (pe_one (pe_cmpR op_eq (pv 0) (pv 1) (nomark _)))))) pss_nil)
    (pss_one (ps_ret (pe_and (pe_callB call_isi (by rfl) T.m_isinstance (by decide +kernel) (pa_cons (pv 0) (pa_cons (pe_bltn (v := .ty "int") (u := .type "int") (by rfl) T.m_int (by decide +kernel) rfl) pa_nil))) (pe_and (pe_not (pe_callB call_isi (by rfl) T.m_isinstance (by decide +kernel) (pa_cons (pv 0) (pa_cons (pe_bltn (v := .ty "bool") (u := .type "bool") (by rfl) T.m_bool (by decide +kernel) rfl) pa_nil)))) (pe_one (pe_cmpR op_eq (pv 0) (pv 1) (nomark _))))))))))
abbrev s__law_word : Stmt := topS 20
theorem sc__law_word : FnScope n__law_word ["urn"] (defScope s__law_word) := ⟨rfl, rfl, rfl, by decide +kernel, rfl, by decide +kernel, by decide +kernel⟩
theorem d__law_word {P : Program} {w : World} {K : PySem.W.Frag} {mg : Str → Option Value} {base : Heap} {f : Addr} {cdv : Value} {A : Around} {outer : List Env} {s : Shared} {H : Hp} {E : XK} (T : Txt mg) (c__law_draw : Cl P w K mg base 1 "_law_draw" sp_draw)
    (hr : Room 1 (A.deeper (envOfC "_law_word" (defScope s__law_word) s.heap.objs.size f cdv))) :
    PSs (cxOf CX0 P w K mg base n__law_word "_law_word" (defScope s__law_word) f cdv A outer s H E).nox (defBody s__law_word) (t__law_word K w) :=
  (pss_cons (ps_set (i := 1) sc__law_word.nd rfl (Or.inl rfl) pe_str)
    (pss_cons (ps_for PassesOwn.never rfl (pi_range1 rfl T.m_range (pa_cons (pe_op op_add pe_int (pe_ix ix_list (pe_lst (pa_cons pe_int (pa_cons pe_int (pa_cons pe_int (pa_cons pe_int (pa_cons pe_int (pa_cons pe_int (pa_cons pe_int pa_nil)))))))) (pe_cl c__law_draw hr (by decide) (by rfl) (pa_cons (pv 0) (pa_cons pe_int pa_nil))) (fun _ _ => rfl))) pa_nil)) (pg_name (i := 2) sc__law_word.nd rfl (Or.inl rfl)) (pss_one (ps_set (i := 1) sc__law_word.nd rfl (Or.inl rfl) (pe_op op_add_str (pv 1) (pe_ix ix_str pe_str (pe_cl c__law_draw hr (by decide) (by rfl) (pa_cons (pv 0) (pa_cons pe_int pa_nil))) (fun _ _ => rfl))))))
    (pss_one (ps_ret (pv 1)))))
abbrev s__law_copied : Stmt := topS 21
theorem sc__law_copied : FnScope n__law_copied ["depths", "names", "many"] (defScope s__law_copied) := ⟨rfl, rfl, rfl, by decide +kernel, rfl, by decide +kernel, by decide +kernel⟩
theorem d__law_copied {P : Program} {w : World} {K : PySem.W.Frag} {mg : Str → Option Value} {base : Heap} {f : Addr} {cdv : Value} {A : Around} {outer : List Env} {s : Shared} {H : Hp} {E : XK} (T : Txt mg)
    (hr : Room 0 (A.deeper (envOfC "_law_copied" (defScope s__law_copied) s.heap.objs.size f cdv))) :
    PSs (cxOf CX0 P w K mg base n__law_copied "_law_copied" (defScope s__law_copied) f cdv A outer s H E).nox (defBody s__law_copied) (t__law_copied K w) :=
  (pss_cons (ps_par (by rfl) sc__law_copied.nd rfl rfl (by decide) rfl rfl (pa_cons (pe_lst pa_nil) (pa_cons (pe_lst pa_nil) pa_nil)) (by rfl))
    (pss_cons (ps_for PassesOwn.never rfl (pi_range1 rfl T.m_range (pa_cons (pv 2) pa_nil)) (pg_name (i := 5) sc__law_copied.nd rfl (Or.inl rfl)) (pss_cons (ps_expr (pe_bm PySem.F.plainAttrs_list PySem.F.slot_list_extend PySem.F.type_list_extend mt_extend (pv 3) (pa_cons (pv 0) pa_nil)))
    (pss_one (ps_expr (pe_bm PySem.F.plainAttrs_list PySem.F.slot_list_extend PySem.F.type_list_extend mt_extend (pv 4) (pa_cons (pv 1) pa_nil))))))
    (pss_one (ps_ret (pe_lst (pa_cons (pv 3) (pa_cons (pv 4) pa_nil)))))))
abbrev s__law_shape : Stmt := topS 22
theorem sc__law_shape : FnScope n__law_shape ["urn", "kind", "many"] (defScope s__law_shape) := ⟨rfl, rfl, rfl, by decide +kernel, rfl, by decide +kernel, by decide +kernel⟩
theorem d__law_shape {P : Program} {w : World} {K : PySem.W.Frag} {mg : Str → Option Value} {base : Heap} {f : Addr} {cdv : Value} {A : Around} {outer : List Env} {s : Shared} {H : Hp} {E : XK} (T : Txt mg) (c__law_draw : Cl P w K mg base 1 "_law_draw" sp_draw) (c__law_walked : Cl P w K mg base 1 "_law_walked" (sp_walked K))
    (hr : Room 2 (A.deeper (envOfC "_law_shape" (defScope s__law_shape) s.heap.objs.size f cdv))) :
    PSs (cxOf CX0 P w K mg base n__law_shape "_law_shape" (defScope s__law_shape) f cdv A outer s H E).nox (defBody s__law_shape) (t__law_shape K w) :=
  (pss_cons (ps_if (pt_cmpR op_eq (pv 1) pe_int (nomark _)) (pss_one (ps_ret (pe_lc (own := [("k", 3)]) (g := (gName 3)) (tt := tYes) (te := (tVar 3)) rfl sc__law_shape.nd (pi_range1 rfl T.m_range (pa_cons (pv 2) pa_nil)) (blkOk_by (own := [("k", 3)]) (N := n__law_shape) (sc := defScope s__law_shape) (by decide +kernel)) (fun _ _ _ _ _ => (pg_name (i := 3) sc__law_shape.nd rfl (Or.inl rfl))) (fun _ _ _ _ _ => pts_nil) (fun _ _ _ _ _ => (pv 3))))) pss_nil)
    (pss_cons (ps_if (pt_cmpR op_eq (pv 1) pe_int (nomark _)) (pss_one (ps_ret (pe_lc (own := [("k", 3)]) (g := (gName 3)) (tt := tYes) (te := (tC (.int 0))) rfl sc__law_shape.nd (pi_range1 rfl T.m_range (pa_cons (pv 2) pa_nil)) (blkOk_by (own := [("k", 3)]) (N := n__law_shape) (sc := defScope s__law_shape) (by decide +kernel)) (fun _ _ _ _ _ => (pg_name (i := 3) sc__law_shape.nd rfl (Or.inl rfl))) (fun _ _ _ _ _ => pts_nil) (fun _ _ _ _ _ => pe_int)))) pss_nil)
    (pss_cons (ps_if (pt_cmpR op_eq (pv 1) pe_int (nomark _)) (pss_one (ps_ret (pe_lc (own := [("k", 3)]) (g := (gName 3)) (tt := tYes) (te := (tOp (rIxL K) (tLst (tCons (tCB oInt (tCons (tOp oFdiv (tVar 3) (tC (.int 2))) tNil)) (tCons (tOp oAdd (tCB oInt (tCons (tOp oFdiv (tVar 3) (tC (.int 2))) tNil)) (tC (.int 1))) tNil))) (tOp oMod (tCB oInt (tCons (tVar 3) tNil)) (tC (.int 2))))) rfl sc__law_shape.nd (pi_range1 rfl T.m_range (pa_cons (pv 2) pa_nil)) (blkOk_by (own := [("k", 3)]) (N := n__law_shape) (sc := defScope s__law_shape) (by decide +kernel)) (fun _ _ _ _ _ => (pg_name (i := 3) sc__law_shape.nd rfl (Or.inl rfl))) (fun _ _ _ _ _ => pts_nil) (fun _ _ _ _ _ => (pe_ix ix_list (pe_lst (pa_cons (pe_callTy call_int1 (by rfl) T.m_int (by decide +kernel) (pa_cons (pe_op op_fdivN (pv 3) pe_int) pa_nil)) (pa_cons (pe_op op_add (pe_callTy call_int1 (by rfl) T.m_int (by decide +kernel) (pa_cons (pe_op op_fdivN (pv 3) pe_int) pa_nil)) pe_int) pa_nil))) (pe_op op_modN (pe_callTy call_int1 (by rfl) T.m_int (by decide +kernel) (pa_cons (pv 3) pa_nil)) pe_int) (fun _ _ => rfl)))))) pss_nil)
    (pss_cons (ps_if (pt_cmpR op_eq (pv 1) pe_int (nomark _)) (pss_cons (ps_set (i := 4) sc__law_shape.nd rfl (Or.inl rfl) (pe_op op_add pe_int (pe_cl c__law_draw hr (by decide) (by rfl) (pa_cons (pv 0) (pa_cons pe_int pa_nil)))))
    (pss_cons (ps_set (i := 5) sc__law_shape.nd rfl (Or.inl rfl) (pe_lst (pa_cons pe_int pa_nil)))
    (pss_cons (ps_for PassesOwn.never rfl (pi_range2 rfl T.m_range (pa_cons pe_int (pa_cons (pv 2) pa_nil))) (pg_name (i := 3) sc__law_shape.nd rfl (Or.inl rfl)) (pss_one (ps_expr (pe_bm PySem.F.plainAttrs_list PySem.F.slot_list_append PySem.F.type_list_append mt_append (pv 5) (pa_cons (pe_op op_add (pe_ix ix_list (pv 5) (pe_callTy call_int1 (by rfl) T.m_int (by decide +kernel) (pa_cons (pe_op op_fdivN (pe_op op_sub (pv 3) pe_int) (pv 4)) pa_nil)) (fun _ _ => rfl)) pe_int) pa_nil)))))
    (pss_one (ps_ret (pe_cl c__law_walked hr (by decide) (by rfl) (pa_cons (pv 4) (pa_cons (pv 5) pa_nil)))))))) pss_nil)
    (pss_cons (ps_set (i := 6) sc__law_shape.nd rfl (Or.inl rfl) (pe_lst (pa_cons pe_int pa_nil)))
    (pss_cons (ps_for PassesOwn.never rfl (pi_range1 rfl T.m_range (pa_cons (pe_op op_sub (pv 2) pe_int) pa_nil)) (pg_name (i := 3) sc__law_shape.nd rfl (Or.inl rfl)) (pss_one (ps_if (pt_cmpR op_gt (pe_cl c__law_draw hr (by decide) (by rfl) (pa_cons (pv 0) (pa_cons pe_int pa_nil))) pe_int (nomark _)) (pss_one (ps_expr (pe_bm PySem.F.plainAttrs_list PySem.F.slot_list_append PySem.F.type_list_append mt_append (pv 6) (pa_cons (pe_callB (call_max2 rfl) (by rfl) T.m_max (by decide +kernel) (pa_cons pe_int (pa_cons (pe_op op_sub (pe_op op_add (pe_ix ix_list (pv 6) (pe_un un_neg pe_int) (fun _ _ => rfl)) pe_int) (pe_cl c__law_draw hr (by decide) (by rfl) (pa_cons (pv 0) (pa_cons pe_int pa_nil)))) pa_nil))) pa_nil)))) (pss_one (ps_expr (pe_bm PySem.F.plainAttrs_list PySem.F.slot_list_append PySem.F.type_list_append mt_append (pv 6) (pa_cons (pe_cl c__law_draw hr (by decide) (by rfl) (pa_cons (pv 0) (pa_cons (pe_op op_add (pe_ix ix_list (pv 6) (pe_un un_neg pe_int) (fun _ _ => rfl)) pe_int) pa_nil))) pa_nil)))))))
    (pss_one (ps_ret (pv 6)))))))))
abbrev s__law_walked : Stmt := topS 23
theorem sc__law_walked : FnScope n__law_walked ["below", "place"] (defScope s__law_walked) := ⟨rfl, rfl, rfl, by decide +kernel, rfl, by decide +kernel, by decide +kernel⟩
theorem d__law_walked {P : Program} {w : World} {K : PySem.W.Frag} {mg : Str → Option Value} {base : Heap} {f : Addr} {cdv : Value} {A : Around} {outer : List Env} {s : Shared} {H : Hp} {E : XK} (T : Txt mg)
    (hr : Room 0 (A.deeper (envOfC "_law_walked" (defScope s__law_walked) s.heap.objs.size f cdv))) :
    PSs (cxOf CX0 P w K mg base n__law_walked "_law_walked" (defScope s__law_walked) f cdv A outer s H E).nox (defBody s__law_walked) (t__law_walked K w) :=
  (pss_cons (ps_set (i := 2) sc__law_walked.nd rfl (Or.inl rfl) (pe_lst pa_nil))
    (pss_cons (ps_set (i := 3) sc__law_walked.nd rfl (Or.inl rfl) (pe_lst (pa_cons pe_int pa_nil)))
    (pss_cons (ps_while PassesOwn.never (pt_cmpR op_gt (pe_callB call_len_seq (by rfl) T.m_len PySem.boot_len (pa_cons (pv 3) pa_nil)) pe_int (nomark _)) (pss_cons (ps_set (i := 4) sc__law_walked.nd rfl (Or.inl rfl) (pe_bm0 PySem.F.plainAttrs_list PySem.F.slot_list_pop PySem.F.type_list_pop mt_pop (pv 3)))
    (pss_cons (ps_expr (pe_bm PySem.F.plainAttrs_list PySem.F.slot_list_append PySem.F.type_list_append mt_append (pv 2) (pa_cons (pe_ix ix_list (pv 1) (pv 4) (fun _ _ => rfl)) pa_nil)))
    (pss_one (ps_for PassesOwn.never rfl (pi_range3 rfl T.m_range (pa_cons (pv 0) (pa_cons pe_int (pa_cons (pe_un un_neg pe_int) pa_nil)))) (pg_name (i := 5) sc__law_walked.nd rfl (Or.inl rfl)) (pss_one (ps_if (pt_cmpR op_lt (pe_op op_add (pe_op op_mul (pv 0) (pv 4)) (pv 5)) (pe_callB call_len_seq (by rfl) T.m_len PySem.boot_len (pa_cons (pv 1) pa_nil)) (nomark _)) (pss_one (ps_expr (pe_bm PySem.F.plainAttrs_list PySem.F.slot_list_append PySem.F.type_list_append mt_append (pv 3) (pa_cons (pe_op op_add (pe_op op_mul (pv 0) (pv 4)) (pv 5)) pa_nil)))) pss_nil)))))))
    (pss_one (ps_ret (pv 2))))))
abbrev s__law_document : Stmt := topS 24
theorem sc__law_document : FnScope n__law_document ["urn"] (defScope s__law_document) := ⟨rfl, rfl, rfl, by decide +kernel, rfl, by decide +kernel, by decide +kernel⟩
theorem d__law_document {P : Program} {w : World} {K : PySem.W.Frag} {mg : Str → Option Value} {base : Heap} {f : Addr} {cdv : Value} {A : Around} {outer : List Env} {s : Shared} {H : Hp} {E : XK} (T : Txt mg) (c__law_copied : Cl P w K mg base 1 "_law_copied" (sp_copied K)) (c__law_draw : Cl P w K mg base 1 "_law_draw" sp_draw) (c__law_shape : Cl P w K mg base 3 "_law_shape" (sp_shape K)) (c__law_word : Cl P w K mg base 2 "_law_word" sp_word)
    (hr : Room 3 (A.deeper (envOfC "_law_document" (defScope s__law_document) s.heap.objs.size f cdv))) :
    PSs (cxOf CX0 P w K mg base n__law_document "_law_document" (defScope s__law_document) f cdv A outer s H E).nox (defBody s__law_document) (t__law_document K w) :=
  (pss_cons (ps_set (i := 1) sc__law_document.nd rfl (Or.inl rfl) (pe_cl c__law_draw hr (by decide) (by rfl) (pa_cons (pv 0) (pa_cons pe_int pa_nil))))
    (pss_cons (ps_set (i := 2) sc__law_document.nd rfl (Or.inr rfl) (pe_lc (own := [("k", 8)]) (g := (gName 8)) (tt := tYes) (te := (tCall sp_word [] E0 (tCons (tVar 0) tNil))) rfl sc__law_document.nd (pi_range1 rfl T.m_range (pa_cons (pe_ix ix_list (pe_lst (pa_cons pe_int (pa_cons pe_int (pa_cons pe_int (pa_cons pe_int (pa_cons pe_int pa_nil)))))) (pe_cl c__law_draw hr (by decide) (by rfl) (pa_cons (pv 0) (pa_cons pe_int pa_nil))) (fun _ _ => rfl)) pa_nil)) (blkOk_by (own := [("k", 8)]) (N := n__law_document) (sc := defScope s__law_document) (by decide +kernel)) (fun _ _ _ _ _ => (pg_name (i := 8) sc__law_document.nd rfl (Or.inl rfl))) (fun _ _ _ _ _ => pts_nil) (fun _ _ _ _ _ => (pe_cl c__law_word hr (by decide) (by rfl) (pa_cons (pv 0) pa_nil)))))
    (pss_cons (ps_if (pt_cmpR op_lt (pv 1) pe_int (nomark _)) (pss_cons (ps_set (i := 3) sc__law_document.nd rfl (Or.inl rfl) (pe_cl c__law_shape hr (by decide) (by rfl) (pa_cons (pv 0) (pa_cons (pv 1) (pa_cons (pe_ix ix_list (pe_lst (pa_cons pe_int (pa_cons pe_int (pa_cons pe_int (pa_cons pe_int (pa_cons pe_int (pa_cons pe_int (pa_cons (pe_op op_add pe_int (pe_cl c__law_draw hr (by decide) (by rfl) (pa_cons (pv 0) (pa_cons pe_int pa_nil)))) pa_nil)))))))) (pe_cl c__law_draw hr (by decide) (by rfl) (pa_cons (pv 0) (pa_cons pe_int pa_nil))) (fun _ _ => rfl)) pa_nil)))))
    (pss_cons (ps_set (i := 4) sc__law_document.nd rfl (Or.inl rfl) (pe_cl c__law_draw hr (by decide) (by rfl) (pa_cons (pv 0) (pa_cons pe_int pa_nil))))
    (pss_cons (ps_if (pt_cmpR op_eq (pv 4) pe_int (nomark _)) (pss_one (ps_ret (pe_lst (pa_cons (pv 3) (pa_cons (pe_lc (own := [("k", 8)]) (g := (gName 8)) (tt := tYes) (te := (tOp (rIxL K) (tVar 2) (tOp oMod (tCB oInt (tCons (tVar 8) tNil)) (tCB (oLen K) (tCons (tVar 2) tNil))))) rfl sc__law_document.nd (pi_range1 rfl T.m_range (pa_cons (pe_callB call_len_seq (by rfl) T.m_len PySem.boot_len (pa_cons (pv 3) pa_nil)) pa_nil)) (blkOk_by (own := [("k", 8)]) (N := n__law_document) (sc := defScope s__law_document) (by decide +kernel)) (fun _ _ _ _ _ => (pg_name (i := 8) sc__law_document.nd rfl (Or.inl rfl))) (fun _ _ _ _ _ => pts_nil) (fun _ _ _ _ _ => (pe_ix ix_list (pv 2) (pe_op op_modN (pe_callTy call_int1 (by rfl) T.m_int (by decide +kernel) (pa_cons (pv 8) pa_nil)) (pe_callB call_len_seq (by rfl) T.m_len PySem.boot_len (pa_cons (pv 2) pa_nil))) (fun _ _ => rfl)))) pa_nil))))) pss_nil)
    (pss_cons (ps_if (pt_cmpR op_eq (pv 4) pe_int (nomark _)) (pss_one (ps_ret (pe_lst (pa_cons (pv 3) (pa_cons (pe_lc (own := [("depth", 9)]) (g := (gName 9)) (tt := tYes) (te := (tOp (rIxL K) (tVar 2) (tOp oMod (tCB oInt (tCons (tVar 9) tNil)) (tCB (oLen K) (tCons (tVar 2) tNil))))) rfl sc__law_document.nd (pi_list (pv 3)) (blkOk_by (own := [("depth", 9)]) (N := n__law_document) (sc := defScope s__law_document) (by decide +kernel)) (fun _ _ _ _ _ => (pg_name (i := 9) sc__law_document.nd rfl (Or.inl rfl))) (fun _ _ _ _ _ => pts_nil) (fun _ _ _ _ _ => (pe_ix ix_list (pv 2) (pe_op op_modN (pe_callTy call_int1 (by rfl) T.m_int (by decide +kernel) (pa_cons (pv 9) pa_nil)) (pe_callB call_len_seq (by rfl) T.m_len PySem.boot_len (pa_cons (pv 2) pa_nil))) (fun _ _ => rfl)))) pa_nil))))) pss_nil)
    (pss_one (ps_ret (pe_lst (pa_cons (pv 3) (pa_cons (pe_lc (own := [("k", 8)]) (g := (gName 8)) (tt := tYes) (te := (tOp (rIxL K) (tVar 2) (tCall sp_draw [] E0 (tCons (tVar 0) (tCons (tCB (oLen K) (tCons (tVar 2) tNil)) tNil))))) rfl sc__law_document.nd (pi_range1 rfl T.m_range (pa_cons (pe_callB call_len_seq (by rfl) T.m_len PySem.boot_len (pa_cons (pv 3) pa_nil)) pa_nil)) (blkOk_by (own := [("k", 8)]) (N := n__law_document) (sc := defScope s__law_document) (by decide +kernel)) (fun _ _ _ _ _ => (pg_name (i := 8) sc__law_document.nd rfl (Or.inl rfl))) (fun _ _ _ _ _ => pts_nil) (fun _ _ _ _ _ => (pe_ix ix_list (pv 2) (pe_cl c__law_draw hr (by decide) (by rfl) (pa_cons (pv 0) (pa_cons (pe_callB call_len_seq (by rfl) T.m_len PySem.boot_len (pa_cons (pv 2) pa_nil)) pa_nil))) (fun _ _ => rfl)))) pa_nil))))))))) pss_nil)
    (pss_cons (ps_set (i := 5) sc__law_document.nd rfl (Or.inl rfl) (pe_cl c__law_shape hr (by decide) (by rfl) (pa_cons (pv 0) (pa_cons (pe_ix ix_list (pe_lst (pa_cons pe_int (pa_cons pe_int (pa_cons pe_int pa_nil)))) (pe_cl c__law_draw hr (by decide) (by rfl) (pa_cons (pv 0) (pa_cons pe_int pa_nil))) (fun _ _ => rfl)) (pa_cons (pe_op op_add pe_int (pe_cl c__law_draw hr (by decide) (by rfl) (pa_cons (pv 0) (pa_cons pe_int pa_nil)))) pa_nil)))))
    (pss_cons (ps_setLc (i := 6) (own := [("k", 8)]) (g := (gName 8)) (tt := tYes) (te := (tOp (rIxL K) (tVar 2) (tCall sp_draw [] E0 (tCons (tVar 0) (tCons (tCB (oLen K) (tCons (tVar 2) tNil)) tNil))))) rfl sc__law_document.nd rfl rfl (sw_true rfl rfl rfl (by decide +kernel)) (pi_range1 rfl T.m_range (pa_cons (pe_callB call_len_seq (by rfl) T.m_len PySem.boot_len (pa_cons (pv 5) pa_nil)) pa_nil)) (blkOk_by (own := [("k", 8)]) (N := n__law_document) (sc := defScope s__law_document) (by decide +kernel)) (fun _ _ _ _ _ => (pg_name (i := 8) sc__law_document.nd rfl (Or.inl rfl))) (fun _ _ _ _ _ => pts_nil) (fun _ _ _ _ _ => (pe_ix ix_list (pv 2) (pe_cl c__law_draw hr (by decide) (by rfl) (pa_cons (pv 0) (pa_cons (pe_callB call_len_seq (by rfl) T.m_len PySem.boot_len (pa_cons (pv 2) pa_nil)) pa_nil))) (fun _ _ => rfl))))
    (pss_cons (ps_if (pt_cmpR op_eq (pv 1) pe_int (nomark _)) (pss_cons (ps_set (i := 7) sc__law_document.nd rfl (Or.inl rfl) (pe_cl c__law_shape hr (by decide) (by rfl) (pa_cons (pv 0) (pa_cons pe_int (pa_cons (pe_op op_add pe_int (pe_cl c__law_draw hr (by decide) (by rfl) (pa_cons (pv 0) (pa_cons pe_int pa_nil)))) pa_nil)))))
    (pss_cons (ps_set (i := 6) sc__law_document.nd rfl (Or.inl rfl) (pe_op op_cat (pv 6) (pe_lc (own := [("k", 8)]) (g := (gName 8)) (tt := tYes) (te := (tOp (rIxL K) (tVar 2) (tCall sp_draw [] E0 (tCons (tVar 0) (tCons (tCB (oLen K) (tCons (tVar 2) tNil)) tNil))))) rfl sc__law_document.nd (pi_range1 rfl T.m_range (pa_cons (pe_callB call_len_seq (by rfl) T.m_len PySem.boot_len (pa_cons (pv 7) pa_nil)) pa_nil)) (blkOk_by (own := [("k", 8)]) (N := n__law_document) (sc := defScope s__law_document) (by decide +kernel)) (fun _ _ _ _ _ => (pg_name (i := 8) sc__law_document.nd rfl (Or.inl rfl))) (fun _ _ _ _ _ => pts_nil) (fun _ _ _ _ _ => (pe_ix ix_list (pv 2) (pe_cl c__law_draw hr (by decide) (by rfl) (pa_cons (pv 0) (pa_cons (pe_callB call_len_seq (by rfl) T.m_len PySem.boot_len (pa_cons (pv 2) pa_nil)) pa_nil))) (fun _ _ => rfl))))))
    (pss_one (ps_set (i := 5) sc__law_document.nd rfl (Or.inl rfl) (pe_op op_cat (pv 5) (pv 7)))))) pss_nil)
    (pss_one (ps_ret (pe_cl c__law_copied hr (by decide) (by rfl) (pa_cons (pv 5) (pa_cons (pv 6) (pa_cons (pe_op op_add pe_int (pe_cl c__law_draw hr (by decide) (by rfl) (pa_cons (pv 0) (pa_cons (pe_callTy call_int1 (by rfl) T.m_int (by decide +kernel) (pa_cons (pe_op op_fdivN pe_int (pe_callB call_len_seq (by rfl) T.m_len PySem.boot_len (pa_cons (pv 5) pa_nil))) pa_nil)) pa_nil)))) pa_nil))))))))))))
abbrev s__law_trees : Stmt := topS 25
theorem sc__law_trees : FnScope n__law_trees ["depths", "names"] (defScope s__law_trees) := ⟨rfl, rfl, rfl, by decide +kernel, rfl, by decide +kernel, by decide +kernel⟩
theorem d__law_trees {P : Program} {w : World} {K : PySem.W.Frag} {mg : Str → Option Value} {base : Heap} {f : Addr} {cdv : Value} {A : Around} {outer : List Env} {s : Shared} {H : Hp} {E : XK} (T : Txt mg)
    (hr : Room 0 (A.deeper (envOfC "_law_trees" (defScope s__law_trees) s.heap.objs.size f cdv))) :
    PSs (cxOf CX0 P w K mg base n__law_trees "_law_trees" (defScope s__law_trees) f cdv A outer s H E).nox (defBody s__law_trees) (t__law_trees K w) :=
  (pss_cons (ps_setLc (i := 3) (own := [("k", 2)]) (g := (gName 2)) (tt := tYes) (te := (tLst tNil)) rfl sc__law_trees.nd rfl rfl (sw_true rfl rfl rfl (by decide +kernel)) (pi_range1 rfl T.m_range (pa_cons pe_int pa_nil)) (blkOk_by (own := [("k", 2)]) (N := n__law_trees) (sc := defScope s__law_trees) (by decide +kernel)) (fun _ _ _ _ _ => (pg_name (i := 2) sc__law_trees.nd rfl (Or.inl rfl))) (fun _ _ _ _ _ => pts_nil) (fun _ _ _ _ _ => (pe_lst pa_nil)))
    (pss_cons (ps_for PassesOwn.never rfl (pi_range3 rfl T.m_range (pa_cons (pe_op op_sub (pe_callB call_len_seq (by rfl) T.m_len PySem.boot_len (pa_cons (pv 0) pa_nil)) pe_int) (pa_cons (pe_un un_neg pe_int) (pa_cons (pe_un un_neg pe_int) pa_nil)))) (pg_name (i := 2) sc__law_trees.nd rfl (Or.inl rfl)) (pss_cons (ps_set (i := 4) sc__law_trees.nd rfl (Or.inl rfl) (pe_ix ix_list (pv 3) (pe_op op_add (pe_ix ix_list (pv 0) (pv 2) (fun _ _ => rfl)) pe_int) (fun _ _ => rfl)))
    (pss_cons (ps_asg (pe_lst pa_nil) (pg_sub (pv 3) (pe_op op_add (pe_ix ix_list (pv 0) (pv 2) (fun _ _ => rfl)) pe_int) set_list))
    (pss_one (ps_asg (pe_op op_cat (pe_lst (pa_cons (pe_tup (pa_cons (pe_ix ix_list (pv 1) (pv 2) (fun _ _ => rfl)) (pa_cons (pe_tupleOf (by rfl) T.m_tuple (pv 4)) pa_nil))) pa_nil)) (pe_ix ix_list (pv 3) (pe_ix ix_list (pv 0) (pv 2) (fun _ _ => rfl)) (fun _ _ => rfl))) (pg_sub (pv 3) (pe_ix ix_list (pv 0) (pv 2) (fun _ _ => rfl)) set_list))))))
    (pss_one (ps_ret (pe_tupleOf (by rfl) T.m_tuple (pe_ix ix_list (pv 3) pe_int (fun _ _ => rfl)))))))
abbrev s__law_first : Stmt := topS 26
theorem sc__law_first : FnScope n__law_first ["depths", "names", "over"] (defScope s__law_first) := ⟨rfl, rfl, rfl, by decide +kernel, rfl, by decide +kernel, by decide +kernel⟩
theorem d__law_first {P : Program} {w : World} {K : PySem.W.Frag} {mg : Str → Option Value} {base : Heap} {f : Addr} {cdv : Value} {A : Around} {outer : List Env} {s : Shared} {H : Hp} {E : XK} (T : Txt mg)
    (hr : Room 0 (A.deeper (envOfC "_law_first" (defScope s__law_first) s.heap.objs.size f cdv))) :
    PSs (cxOf CX0 P w K mg base n__law_first "_law_first" (defScope s__law_first) f cdv A outer s H E).nox (defBody s__law_first) (t__law_first K w) :=
  (pss_cons (ps_set (i := 3) sc__law_first.nd rfl (Or.inl rfl) (pe_lst pa_nil))
    (pss_cons (ps_for PassesOwn.never rfl (pi_range1 rfl T.m_range (pa_cons (pe_callB call_len_seq (by rfl) T.m_len PySem.boot_len (pa_cons (pv 0) pa_nil)) pa_nil)) (pg_name (i := 4) sc__law_first.nd rfl (Or.inl rfl)) (pss_cons (ps_if (pt_cmpR op_gt (pv 4) pe_int (nomark _)) (pss_one (ps_expr (pe_bm PySem.F.plainAttrs_list PySem.F.slot_list_extend PySem.F.type_list_extend mt_extend (pv 3) (pa_cons (pe_lc (own := [("j", 5)]) (g := (gName 5)) (tt := tYes) (te := (tC (.int 0))) rfl sc__law_first.nd (pi_range1 rfl T.m_range (pa_cons (pe_op op_sub (pe_op op_add (pe_ix ix_list (pv 0) (pe_op op_sub (pv 4) pe_int) (fun _ _ => rfl)) pe_int) (pe_ix ix_list (pv 0) (pv 4) (fun _ _ => rfl))) pa_nil)) (blkOk_by (own := [("j", 5)]) (N := n__law_first) (sc := defScope s__law_first) (by decide +kernel)) (fun _ _ _ _ _ => (pg_name (i := 5) sc__law_first.nd rfl (Or.inl rfl))) (fun _ _ _ _ _ => pts_nil) (fun _ _ _ _ _ => pe_int)) pa_nil)))) pss_nil)
    (pss_one (ps_expr (pe_bm PySem.F.plainAttrs_list PySem.F.slot_list_append PySem.F.type_list_append mt_append (pv 3) (pa_cons (pe_op op_add (pe_bm PySem.F.plainAttrs_list PySem.F.slot_list_index PySem.F.type_list_index mt_index (pv 2) (pa_cons (pe_ix ix_list (pv 1) (pv 4) (fun _ _ => rfl)) pa_nil)) pe_int) pa_nil))))))
    (pss_cons (ps_if (pt_cmpR op_gt (pe_callB call_len_seq (by rfl) T.m_len PySem.boot_len (pa_cons (pv 0) pa_nil)) pe_int (nomark _)) (pss_one (ps_expr (pe_bm PySem.F.plainAttrs_list PySem.F.slot_list_extend PySem.F.type_list_extend mt_extend (pv 3) (pa_cons (pe_lc (own := [("j", 5)]) (g := (gName 5)) (tt := tYes) (te := (tC (.int 0))) rfl sc__law_first.nd (pi_range1 rfl T.m_range (pa_cons (pe_op op_add (pe_ix ix_list (pv 0) (pe_un un_neg pe_int) (fun _ _ => rfl)) pe_int) pa_nil)) (blkOk_by (own := [("j", 5)]) (N := n__law_first) (sc := defScope s__law_first) (by decide +kernel)) (fun _ _ _ _ _ => (pg_name (i := 5) sc__law_first.nd rfl (Or.inl rfl))) (fun _ _ _ _ _ => pts_nil) (fun _ _ _ _ _ => pe_int)) pa_nil)))) pss_nil)
    (pss_one (ps_ret (pv 3))))))
abbrev s__law_pressed_runs : Stmt := topS 27
theorem sc__law_pressed_runs : FnScope n__law_pressed_runs ["row", "used"] (defScope s__law_pressed_runs) := ⟨rfl, rfl, rfl, by decide +kernel, rfl, by decide +kernel, by decide +kernel⟩
theorem d__law_pressed_runs {P : Program} {w : World} {K : PySem.W.Frag} {mg : Str → Option Value} {base : Heap} {f : Addr} {cdv : Value} {A : Around} {outer : List Env} {s : Shared} {H : Hp} {E : XK} (T : Txt mg)
    (hr : Room 0 (A.deeper (envOfC "_law_pressed_runs" (defScope s__law_pressed_runs) s.heap.objs.size f cdv))) :
    PSs (cxOf CX0 P w K mg base n__law_pressed_runs "_law_pressed_runs" (defScope s__law_pressed_runs) f cdv A outer s H E).nox (defBody s__law_pressed_runs) (t__law_pressed_runs K w) :=
  (pss_cons (ps_set (i := 2) sc__law_pressed_runs.nd rfl (Or.inl rfl) (pe_lst pa_nil))
    (pss_cons (ps_for PassesOwn.never rfl (pi_list (pv 0)) (pg_name (i := 3) sc__law_pressed_runs.nd rfl (Or.inl rfl)) (pss_one (ps_if (PW.pt (pw_and (pt_cmpR op_gt (pe_callB call_len_seq (by rfl) T.m_len PySem.boot_len (pa_cons (pv 2) pa_nil)) pe_int (nomark _)) (pw_and1 (pt_cmpR op_eq (pe_ix ix_tup (pe_ix ix_list (pv 2) (pe_un un_neg pe_int) (fun _ _ => rfl)) pe_int (fun _ _ => rfl)) (pv 3) (nomark _))))) (pss_one (ps_asg (pe_tup (pa_cons (pv 3) (pa_cons (pe_op op_add (pe_ix ix_tup (pe_ix ix_list (pv 2) (pe_un un_neg pe_int) (fun _ _ => rfl)) pe_int (fun _ _ => rfl)) pe_int) pa_nil))) (pg_sub (pv 2) (pe_un un_neg pe_int) set_list))) (pss_one (ps_expr (pe_bm PySem.F.plainAttrs_list PySem.F.slot_list_append PySem.F.type_list_append mt_append (pv 2) (pa_cons (pe_tup (pa_cons (pv 3) (pa_cons pe_int pa_nil))) pa_nil)))))))
    (pss_cons (ps_set (i := 5) sc__law_pressed_runs.nd rfl (Or.inl rfl) (LX.pe_sortSetP rfl hr.units (by rfl) T.m_sorted (by rfl) T.m_set (pe_lc (own := [("run", 4)]) (g := (gName 4)) (tt := (tTest (tOp oGe (tOp (rIxT K) (tVar 4) (tC (.int 1))) (tC (.int 2))))) (te := (tVar 4)) rfl sc__law_pressed_runs.nd (pi_list (pv 2)) (blkOk_by (own := [("run", 4)]) (N := n__law_pressed_runs) (sc := defScope s__law_pressed_runs) (by decide +kernel)) (fun _ _ _ _ _ => (pg_name (i := 4) sc__law_pressed_runs.nd rfl (Or.inl rfl))) (fun _ _ _ _ _ => (pts_one (pt_cmpR op_ge (pe_ix ix_tup (pv 4) pe_int (fun _ _ => rfl)) pe_int (nomark _)))) (fun _ _ _ _ _ => (pv 4)))))
    (pss_cons (ps_set (i := 6) sc__law_pressed_runs.nd rfl (Or.inl rfl) (pe_lst pa_nil))
    (pss_cons (ps_for PassesOwn.never rfl (pi_list (pv 2)) (pg_name (i := 4) sc__law_pressed_runs.nd rfl (Or.inl rfl)) (pss_one (ps_if (pt_cmpR op_ge (pe_ix ix_tup (pv 4) pe_int (fun _ _ => rfl)) pe_int (nomark _)) (pss_one (ps_expr (pe_bm PySem.F.plainAttrs_list PySem.F.slot_list_append PySem.F.type_list_append mt_append (pv 6) (pa_cons (pe_op op_add (pv 1) (pe_bm PySem.F.plainAttrs_list PySem.F.slot_list_index PySem.F.type_list_index (mt_indexD (LX.units65 hr)) (pv 5) (pa_cons (pv 4) pa_nil))) pa_nil)))) (pss_one (ps_expr (pe_bm PySem.F.plainAttrs_list PySem.F.slot_list_append PySem.F.type_list_append mt_append (pv 6) (pa_cons (pe_ix ix_tup (pv 4) pe_int (fun _ _ => rfl)) pa_nil)))))))
    (pss_one (ps_ret (pe_lst (pa_cons (pv 6) (pa_cons (pe_tupleOf (by rfl) T.m_tuple (pv 5)) pa_nil))))))))))
abbrev s__law_left_numbers : Stmt := topS 28
theorem sc__law_left_numbers : FnScope n__law_left_numbers ["row"] (defScope s__law_left_numbers) := ⟨rfl, rfl, rfl, by decide +kernel, rfl, by decide +kernel, by decide +kernel⟩
theorem d__law_left_numbers {P : Program} {w : World} {K : PySem.W.Frag} {mg : Str → Option Value} {base : Heap} {f : Addr} {cdv : Value} {A : Around} {outer : List Env} {s : Shared} {H : Hp} {E : XK} (T : Txt mg)
    (hr : Room 0 (A.deeper (envOfC "_law_left_numbers" (defScope s__law_left_numbers) s.heap.objs.size f cdv))) :
    PSs (cxOf CX0 P w K mg base n__law_left_numbers "_law_left_numbers" (defScope s__law_left_numbers) f cdv A outer s H E).nox (defBody s__law_left_numbers) (t__law_left_numbers K w) :=
  (pss_cons (ps_set (i := 1) sc__law_left_numbers.nd rfl (Or.inr rfl) (pe_callB (LS.cr_sortSet rfl) (by rfl) T.m_sorted (by decide +kernel) (pa_cons (pe_callTy (LS.cr_setI rfl) (by rfl) T.m_set (by decide +kernel) (pa_cons (pv 0) pa_nil)) pa_nil)))
    (pss_cons (ps_set (i := 2) sc__law_left_numbers.nd rfl (Or.inr rfl) pe_dnewK)
    (pss_cons (ps_for PassesOwn.never rfl (pi_range1 rfl T.m_range (pa_cons (pe_callB call_len_seq (by rfl) T.m_len PySem.boot_len (pa_cons (pv 1) pa_nil)) pa_nil)) (pg_name (i := 3) sc__law_left_numbers.nd rfl (Or.inl rfl)) (pss_one (ps_dput (hu_of hr) (pv 2) (pe_ix ix_list (pv 1) (pv 3) (fun _ _ => rfl)) (pv 3) rfl)))
    (pss_cons (ps_setLc (i := 5) (own := [("k", 3)]) (g := (gName 3)) (tt := tYes) (te := (tLc (iList K (tVar 1)) (gName 4) tYes (tC (.int 0)) [4])) rfl sc__law_left_numbers.nd rfl rfl (sw_true rfl rfl rfl (by decide +kernel)) (pi_list (pv 1)) (blkOk_by (own := [("k", 3)]) (N := n__law_left_numbers) (sc := defScope s__law_left_numbers) (by decide +kernel)) (fun _ _ _ _ _ => (pg_name (i := 3) sc__law_left_numbers.nd rfl (Or.inl rfl))) (fun _ _ _ _ _ => pts_nil) (fun _ _ _ _ _ => (pe_lc (own := [("j", 4)]) (g := (gName 4)) (tt := tYes) (te := (tC (.int 0))) rfl sc__law_left_numbers.nd (pi_list (pv 1)) (LX.blkOk_in (own := [("j", 4)]) (N := n__law_left_numbers) (by decide +kernel) (by decide +kernel)) (fun _ _ _ _ _ => (pg_name (i := 4) sc__law_left_numbers.nd rfl (Or.inl rfl))) (fun _ _ _ _ _ => pts_nil) (fun _ _ _ _ _ => pe_int))))
    (pss_cons (ps_for PassesOwn.never rfl (pi_range1 rfl T.m_range (pa_cons (pe_op op_sub (pe_callB call_len_seq (by rfl) T.m_len PySem.boot_len (pa_cons (pv 0) pa_nil)) pe_int) pa_nil)) (pg_name (i := 3) sc__law_left_numbers.nd rfl (Or.inl rfl)) (pss_cons (ps_par (by rfl) sc__law_left_numbers.nd rfl rfl (by decide) rfl rfl (pa_cons (pe_dget (hu_of hr) (pv 2) (pe_ix ix_list (pv 0) (pv 3) (fun _ _ => rfl)) (fun _ _ => rfl)) (pa_cons (pe_dget (hu_of hr) (pv 2) (pe_ix ix_list (pv 0) (pe_op op_add (pv 3) pe_int) (fun _ _ => rfl)) (fun _ _ => rfl)) pa_nil)) (by rfl))
    (pss_cons (ps_asg (pe_op op_add (pe_ix ix_list (pe_ix ix_list (pv 5) (pv 6) (fun _ _ => rfl)) (pv 7) (fun _ _ => rfl)) pe_int) (pg_sub (pe_ix ix_list (pv 5) (pv 6) (fun _ _ => rfl)) (pv 7) set_list))
    (pss_one (ps_asg (pe_op op_add (pe_ix ix_list (pe_ix ix_list (pv 5) (pv 7) (fun _ _ => rfl)) (pv 6) (fun _ _ => rfl)) pe_int) (pg_sub (pe_ix ix_list (pv 5) (pv 7) (fun _ _ => rfl)) (pv 6) set_list))))))
    (pss_cons (ps_set (i := 8) sc__law_left_numbers.nd rfl (Or.inr rfl) (pe_lst pa_nil))
    (pss_cons (ps_for PassesOwn.never rfl (pi_range1 rfl T.m_range (pa_cons (pe_callB call_len_seq (by rfl) T.m_len PySem.boot_len (pa_cons (pv 1) pa_nil)) pa_nil)) (pg_name (i := 3) sc__law_left_numbers.nd rfl (Or.inl rfl)) (pss_cons (ps_asg (pe_tup (pa_cons pe_int (pa_cons pe_int pa_nil))) (pg_tup rfl (pgs_cons (pg_name (i := 9) sc__law_left_numbers.nd rfl (Or.inl rfl)) (pgs_cons (pg_name (i := 10) sc__law_left_numbers.nd rfl (Or.inl rfl)) pgs_nil))))
    (pss_cons (ps_for PassesOwn.never rfl (pi_range1 rfl T.m_range (pa_cons (pv 3) pa_nil)) (pg_name (i := 4) sc__law_left_numbers.nd rfl (Or.inl rfl)) (pss_one (ps_if (pt_val (pe_ix ix_list (pv 8) (pv 4) (fun _ _ => rfl))) (pss_one (ps_set (i := 9) sc__law_left_numbers.nd rfl (Or.inl rfl) (pe_op op_add (pv 9) (pe_ix ix_list (pe_ix ix_list (pv 5) (pv 3) (fun _ _ => rfl)) (pv 4) (fun _ _ => rfl))))) (pss_one (ps_set (i := 10) sc__law_left_numbers.nd rfl (Or.inl rfl) (pe_op op_add (pv 10) (pe_ix ix_list (pe_ix ix_list (pv 5) (pv 3) (fun _ _ => rfl)) (pv 4) (fun _ _ => rfl))))))))
    (pss_one (ps_expr (pe_bm PySem.F.plainAttrs_list PySem.F.slot_list_append PySem.F.type_list_append mt_append (pv 8) (pa_cons (pe_cmpR op_lt (pv 9) (pv 10) (nomark _)) pa_nil)))))))
    (pss_cons (ps_set (i := 11) sc__law_left_numbers.nd rfl (Or.inr rfl) pe_int)
    (pss_cons (ps_for PassesOwn.never rfl (pi_range1 rfl T.m_range (pa_cons (pe_op op_sub (pe_callB call_len_seq (by rfl) T.m_len PySem.boot_len (pa_cons (pv 0) pa_nil)) pe_int) pa_nil)) (pg_name (i := 3) sc__law_left_numbers.nd rfl (Or.inl rfl)) (pss_one (ps_set (i := 11) sc__law_left_numbers.nd rfl (Or.inr rfl) (pe_op op_sub (pe_op op_add (pv 11) (pe_callTy call_int1 (by rfl) T.m_int (by decide +kernel) (pa_cons (pe_ix ix_list (pv 8) (pe_dget (hu_of hr) (pv 2) (pe_ix ix_list (pv 0) (pv 3) (fun _ _ => rfl)) (fun _ _ => rfl)) (fun _ _ => rfl)) pa_nil))) (pe_callTy call_int1 (by rfl) T.m_int (by decide +kernel) (pa_cons (pe_ix ix_list (pv 8) (pe_dget (hu_of hr) (pv 2) (pe_ix ix_list (pv 0) (pe_op op_add (pv 3) pe_int) (fun _ _ => rfl)) (fun _ _ => rfl)) (fun _ _ => rfl)) pa_nil))))))
    (pss_one (ps_ret (pe_tupleOf (by rfl) T.m_tuple (pe_lc (own := [("number", 12)]) (g := (gName 12)) (tt := (tTest (tOp rEq (tOp (rIxL K) (tVar 8) (tDGet (tVar 2) (tVar 12))) (tOp oGt (tVar 11) (tC (.int 0)))))) (te := (tVar 12)) rfl sc__law_left_numbers.nd (pi_list (pv 1)) (blkOk_by (own := [("number", 12)]) (N := n__law_left_numbers) (sc := defScope s__law_left_numbers) (by decide +kernel)) (fun _ _ _ _ _ => (pg_name (i := 12) sc__law_left_numbers.nd rfl (Or.inl rfl))) (fun _ _ _ _ _ => (pts_one (pt_cmpR op_eq (pe_ix ix_list (pv 8) (pe_dget (hu_of hr) (pv 2) (pv 12) (fun _ _ => rfl)) (fun _ _ => rfl)) (pe_cmpR op_gt (pv 11) pe_int (nomark _)) (nomark _)))) (fun _ _ _ _ _ => (pv 12)))))))))))))))
abbrev s__law_pressed_pairs : Stmt := topS 29
theorem sc__law_pressed_pairs : FnScope n__law_pressed_pairs ["row", "lefts", "used"] (defScope s__law_pressed_pairs) := ⟨rfl, rfl, rfl, by decide +kernel, rfl, by decide +kernel, by decide +kernel⟩
theorem d__law_pressed_pairs {P : Program} {w : World} {K : PySem.W.Frag} {mg : Str → Option Value} {base : Heap} {f : Addr} {cdv : Value} {A : Around} {outer : List Env} {s : Shared} {H : Hp} {E : XK} (T : Txt mg)
    (hr : Room 0 (A.deeper (envOfC "_law_pressed_pairs" (defScope s__law_pressed_pairs) s.heap.objs.size f cdv))) :
    PSs (cxOf CX0 P w K mg base n__law_pressed_pairs "_law_pressed_pairs" (defScope s__law_pressed_pairs) f cdv A outer s H E).nox (defBody s__law_pressed_pairs) (t__law_pressed_pairs K w) :=
  (pss_cons (ps_set (i := 3) sc__law_pressed_pairs.nd rfl (Or.inl rfl) (LX.pe_sortSetP rfl hr.units (by rfl) T.m_sorted (by rfl) T.m_set (pe_lc (own := [("k", 6)]) (g := (gName 6)) (tt := (tAnd (tTest (tOp (rIn K false) (tOp (rIxL K) (tVar 0) (tVar 6)) (tVar 1))) (tTest (tOp (rIn K true) (tOp (rIxL K) (tVar 0) (tOp oAdd (tVar 6) (tC (.int 1)))) (tVar 1))))) (te := (tTup (tCons (tOp (rIxL K) (tVar 0) (tVar 6)) (tCons (tOp (rIxL K) (tVar 0) (tOp oAdd (tVar 6) (tC (.int 1)))) tNil)))) rfl sc__law_pressed_pairs.nd (pi_range1 rfl T.m_range (pa_cons (pe_op op_sub (pe_callB call_len_seq (by rfl) T.m_len PySem.boot_len (pa_cons (pv 0) pa_nil)) pe_int) pa_nil)) (blkOk_by (own := [("k", 6)]) (N := n__law_pressed_pairs) (sc := defScope s__law_pressed_pairs) (by decide +kernel)) (fun _ _ _ _ _ => (pg_name (i := 6) sc__law_pressed_pairs.nd rfl (Or.inl rfl))) (fun _ _ _ _ _ => (pts_one (PW.pt (pw_and (pt_cmpR op_in_seq (pe_ix ix_list (pv 0) (pv 6) (fun _ _ => rfl)) (pv 1) (by first | exact nobehind _ (by decide) (by decide) | rfl)) (pw_and1 (pt_cmpR op_notIn_seq (pe_ix ix_list (pv 0) (pe_op op_add (pv 6) pe_int) (fun _ _ => rfl)) (pv 1) (by first | exact nobehind _ (by decide) (by decide) | rfl))))))) (fun _ _ _ _ _ => (pe_tup (pa_cons (pe_ix ix_list (pv 0) (pv 6) (fun _ _ => rfl)) (pa_cons (pe_ix ix_list (pv 0) (pe_op op_add (pv 6) pe_int) (fun _ _ => rfl)) pa_nil)))))))
    (pss_cons (ps_set (i := 4) sc__law_pressed_pairs.nd rfl (Or.inl rfl) (pe_lst pa_nil))
    (pss_cons (ps_set (i := 5) sc__law_pressed_pairs.nd rfl (Or.inl rfl) pe_int)
    (pss_cons (ps_while PassesOwn.never (pt_cmpR op_lt (pv 5) (pe_callB call_len_seq (by rfl) T.m_len PySem.boot_len (pa_cons (pv 0) pa_nil)) (nomark _)) (pss_one (ps_if (pt_cmpR (op_inD (LX.units65 hr)) (pe_tupleOf (by rfl) T.m_tuple (pe_slice sl_list (pv 0) (po_some (pv 5)) (po_some (pe_op op_add (pv 5) pe_int)))) (pv 3) (by first | exact nobehind _ (by decide) (by decide) | rfl)) (pss_cons (ps_expr (pe_bm PySem.F.plainAttrs_list PySem.F.slot_list_append PySem.F.type_list_append mt_append (pv 4) (pa_cons (pe_op op_add (pv 2) (pe_bm PySem.F.plainAttrs_list PySem.F.slot_list_index PySem.F.type_list_index (mt_indexD (LX.units65 hr)) (pv 3) (pa_cons (pe_tup (pa_cons (pe_ix ix_list (pv 0) (pv 5) (fun _ _ => rfl)) (pa_cons (pe_ix ix_list (pv 0) (pe_op op_add (pv 5) pe_int) (fun _ _ => rfl)) pa_nil))) pa_nil))) pa_nil)))
    (pss_one (ps_set (i := 5) sc__law_pressed_pairs.nd rfl (Or.inl rfl) (pe_op op_add (pv 5) pe_int)))) (pss_cons (ps_expr (pe_bm PySem.F.plainAttrs_list PySem.F.slot_list_append PySem.F.type_list_append mt_append (pv 4) (pa_cons (pe_ix ix_list (pv 0) (pv 5) (fun _ _ => rfl)) pa_nil)))
    (pss_one (ps_set (i := 5) sc__law_pressed_pairs.nd rfl (Or.inl rfl) (pe_op op_add (pv 5) pe_int)))))))
    (pss_one (ps_ret (pe_lst (pa_cons (pv 4) (pa_cons (pe_tupleOf (by rfl) T.m_tuple (pv 3)) pa_nil)))))))))
abbrev s__law_layers : Stmt := topS 30
theorem sc__law_layers : FnScope n__law_layers ["document"] (defScope s__law_layers) := ⟨rfl, rfl, rfl, by decide +kernel, rfl, by decide +kernel, by decide +kernel⟩
theorem d__law_layers {P : Program} {w : World} {K : PySem.W.Frag} {mg : Str → Option Value} {base : Heap} {f : Addr} {cdv : Value} {A : Around} {outer : List Env} {s : Shared} {H : Hp} {E : XK} (T : Txt mg) (c__law_first : Cl P w K mg base 1 "_law_first" (sp_first K)) (c__law_left_numbers : Cl P w K mg base 1 "_law_left_numbers" (sp_mleft K)) (c__law_pressed_pairs : Cl P w K mg base 1 "_law_pressed_pairs" (sp_pressed_pairs K)) (c__law_pressed_runs : Cl P w K mg base 1 "_law_pressed_runs" (sp_pressed_runs K))
    (hr : Room 1 (A.deeper (envOfC "_law_layers" (defScope s__law_layers) s.heap.objs.size f cdv))) :
    PSs (cxOf CX0 P w K mg base n__law_layers "_law_layers" (defScope s__law_layers) f cdv A outer s H E).nox (defBody s__law_layers) (t__law_layers K w) :=
  (pss_cons (ps_set (i := 1) sc__law_layers.nd rfl (Or.inl rfl) (pe_callB (LU.cr_sortSetS rfl) (by rfl) T.m_sorted (by decide +kernel) (pa_cons (pe_callTy (LU.cr_setS rfl) (by rfl) T.m_set (by decide +kernel) (pa_cons (pe_ix ix_list (pv 0) pe_int (fun _ _ => rfl)) pa_nil)) pa_nil)))
    (pss_cons (ps_set (i := 2) sc__law_layers.nd rfl (Or.inl rfl) (pe_cl c__law_first hr (by decide) (by rfl) (pa_cons (pe_ix ix_list (pv 0) pe_int (fun _ _ => rfl)) (pa_cons (pe_ix ix_list (pv 0) pe_int (fun _ _ => rfl)) (pa_cons (pv 1) pa_nil)))))
    (pss_cons (ps_if (pt_cmpR op_eq (pe_callB call_len_seq (by rfl) T.m_len PySem.boot_len (pa_cons (pv 2) pa_nil)) pe_int (nomark _)) (pss_one (ps_ret (pe_tup (pa_cons (pe_tup pa_nil) (pa_cons (pe_tup pa_nil) (pa_cons pe_non pa_nil)))))) pss_nil)
    (pss_cons (ps_set (i := 3) sc__law_layers.nd rfl (Or.inl rfl) (pe_op op_add (pe_callB call_len_seq (by rfl) T.m_len PySem.boot_len (pa_cons (pv 1) pa_nil)) pe_int))
    (pss_cons (ps_set (i := 4) sc__law_layers.nd rfl (Or.inl rfl) (pe_lst pa_nil))
    (pss_cons (ps_while PassesOwn.never (pt_cmpR op_gt (pe_callB call_len_seq (by rfl) T.m_len PySem.boot_len (pa_cons (pv 2) pa_nil)) pe_int (nomark _)) (pss_cons (ps_asg (pe_cl c__law_pressed_runs hr (by decide) (by rfl) (pa_cons (pv 2) (pa_cons (pv 3) pa_nil))) (pg_lst rfl (pgs_cons (pg_name (i := 2) sc__law_layers.nd rfl (Or.inl rfl)) (pgs_cons (pg_name (i := 5) sc__law_layers.nd rfl (Or.inl rfl)) pgs_nil))))
    (pss_cons (ps_set (i := 3) sc__law_layers.nd rfl (Or.inl rfl) (pe_op op_add (pv 3) (pe_callB call_len_seq (by rfl) T.m_len PySem.boot_len (pa_cons (pv 5) pa_nil))))
    (pss_cons (ps_asg (pe_tup (pa_cons (pe_tup pa_nil) (pa_cons (pe_tup pa_nil) pa_nil))) (pg_tup rfl (pgs_cons (pg_name (i := 6) sc__law_layers.nd rfl (Or.inl rfl)) (pgs_cons (pg_name (i := 7) sc__law_layers.nd rfl (Or.inl rfl)) pgs_nil))))
    (pss_cons (ps_if (pt_cmpR op_gt (pe_callB call_len_seq (by rfl) T.m_len PySem.boot_len (pa_cons (pv 2) pa_nil)) pe_int (nomark _)) (pss_cons (ps_set (i := 6) sc__law_layers.nd rfl (Or.inl rfl) (pe_cl c__law_left_numbers hr (by decide) (by rfl) (pa_cons (pv 2) pa_nil)))
    (pss_cons (ps_asg (pe_cl c__law_pressed_pairs hr (by decide) (by rfl) (pa_cons (pv 2) (pa_cons (pv 6) (pa_cons (pv 3) pa_nil)))) (pg_lst rfl (pgs_cons (pg_name (i := 2) sc__law_layers.nd rfl (Or.inl rfl)) (pgs_cons (pg_name (i := 7) sc__law_layers.nd rfl (Or.inl rfl)) pgs_nil))))
    (pss_one (ps_set (i := 3) sc__law_layers.nd rfl (Or.inl rfl) (pe_op op_add (pv 3) (pe_callB call_len_seq (by rfl) T.m_len PySem.boot_len (pa_cons (pv 7) pa_nil))))))) pss_nil)
    (pss_one (ps_expr (pe_bm PySem.F.plainAttrs_list PySem.F.slot_list_append PySem.F.type_list_append mt_append (pv 4) (pa_cons (pe_tup (pa_cons (pv 5) (pa_cons (pv 6) (pa_cons (pv 7) pa_nil)))) pa_nil)))))))))
    (pss_one (ps_ret (pe_tup (pa_cons (pe_tupleOf (by rfl) T.m_tuple (pv 1)) (pa_cons (pe_tupleOf (by rfl) T.m_tuple (pv 4)) (pa_cons (pe_ix ix_list (pv 2) pe_int (fun _ _ => rfl)) pa_nil))))))))))))
abbrev s__law_right : Stmt := topS 31
theorem sc__law_right : FnScope n__law_right ["document", "named"] (defScope s__law_right) := ⟨rfl, rfl, rfl, by decide +kernel, rfl, by decide +kernel, by decide +kernel⟩
theorem d__law_right {P : Program} {w : World} {K : PySem.W.Frag} {mg : Str → Option Value} {base : Heap} {f : Addr} {cdv : Value} {A : Around} {outer : List Env} {s : Shared} {H : Hp} {E : XK} (T : Txt mg) (c__law_layers : Cl P w K mg base 2 "_law_layers" (sp_law_layers K)) (c__law_like : Cl P w K mg base 7 "_law_like" (sp_like 5)) (c__law_trees : Cl P w K mg base 1 "_law_trees" (sp_trees K)) (c_k_layers_of_form : ClK P w K mg base 3 "layers_of_form" (sp_layers K) ["form"] LD.gKw1) (c_layers_of_form : Cl P w K mg base 3 "layers_of_form" (sp_layers K))
    (hr : Room 7 (A.deeper (envOfC "_law_right" (defScope s__law_right) s.heap.objs.size f cdv))) :
    PSs (cxOf CX0 P w K mg base n__law_right "_law_right" (defScope s__law_right) f cdv A outer s H E).nox (defBody s__law_right) (t__law_right K w) :=
  (pss_cons (ps_set (i := 2) sc__law_right.nd rfl (Or.inl rfl) (pe_cl c__law_trees hr (by decide) (by rfl) (pa_cons (pe_ix ix_list (pv 0) pe_int (fun _ _ => rfl)) (pa_cons (pe_ix ix_list (pv 0) pe_int (fun _ _ => rfl)) pa_nil))))
    (pss_cons (ps_try_thru0 (pss_one (ps_if (pt_val (pv 1)) (pss_one (ps_set (i := 3) sc__law_right.nd rfl (Or.inl rfl) (pe_clK c_k_layers_of_form hr (by decide) (by rfl) (pk_cons (pv 2) pk_nil)))) (pss_one (ps_set (i := 3) sc__law_right.nd rfl (Or.inl rfl) (pe_cl c_layers_of_form hr (by decide) (by rfl) (pa_cons (pv 2) pa_nil)))))))
    (pss_one (ps_ret (pe_cl c__law_like hr (by decide) (by rfl) (pa_cons (pv 3) (pa_cons (pe_cl c__law_layers hr (by decide) (by rfl) (pa_cons (pv 0) pa_nil)) pa_nil)))))))
abbrev s__law_renamed : Stmt := topS 32
theorem sc__law_renamed : FnScope n__law_renamed ["urn", "document"] (defScope s__law_renamed) := ⟨rfl, rfl, rfl, by decide +kernel, rfl, by decide +kernel, by decide +kernel⟩
theorem d__law_renamed {P : Program} {w : World} {K : PySem.W.Frag} {mg : Str → Option Value} {base : Heap} {f : Addr} {cdv : Value} {A : Around} {outer : List Env} {s : Shared} {H : Hp} {E : XK} (T : Txt mg) (c__law_draw : Cl P w K mg base 1 "_law_draw" sp_draw) (c__law_word : Cl P w K mg base 2 "_law_word" sp_word)
    (hr : Room 2 (A.deeper (envOfC "_law_renamed" (defScope s__law_renamed) s.heap.objs.size f cdv))) :
    PSs (cxOf CX0 P w K mg base n__law_renamed "_law_renamed" (defScope s__law_renamed) f cdv A outer s H E).nox (defBody s__law_renamed) (t__law_renamed K w) :=
  (pss_cons (ps_set (i := 2) sc__law_renamed.nd rfl (Or.inl rfl) (pe_callTy call_list_of (by rfl) T.m_list (by decide +kernel) (pa_cons (pe_ix ix_list (pv 1) pe_int (fun _ _ => rfl)) pa_nil)))
    (pss_cons (ps_asg (pe_ix ix_list (pe_lst (pa_cons (pe_cl c__law_word hr (by decide) (by rfl) (pa_cons (pv 0) pa_nil)) (pa_cons pe_str (pa_cons (pe_ix ix_list (pv 2) pe_int (fun _ _ => rfl)) (pa_cons (pe_ix ix_list (pv 2) (pe_un un_neg pe_int) (fun _ _ => rfl)) pa_nil))))) (pe_cl c__law_draw hr (by decide) (by rfl) (pa_cons (pv 0) (pa_cons pe_int pa_nil))) (fun _ _ => rfl)) (pg_sub (pv 2) (pe_cl c__law_draw hr (by decide) (by rfl) (pa_cons (pv 0) (pa_cons (pe_callB call_len_seq (by rfl) T.m_len PySem.boot_len (pa_cons (pv 2) pa_nil)) pa_nil))) set_list))
    (pss_one (ps_ret (pe_lst (pa_cons (pe_ix ix_list (pv 1) pe_int (fun _ _ => rfl)) (pa_cons (pv 2) pa_nil)))))))
abbrev s__law_moved : Stmt := topS 33
theorem sc__law_moved : FnScope n__law_moved ["urn", "document"] (defScope s__law_moved) := ⟨rfl, rfl, rfl, by decide +kernel, rfl, by decide +kernel, by decide +kernel⟩
theorem d__law_moved {P : Program} {w : World} {K : PySem.W.Frag} {mg : Str → Option Value} {base : Heap} {f : Addr} {cdv : Value} {A : Around} {outer : List Env} {s : Shared} {H : Hp} {E : XK} (T : Txt mg) (c__law_draw : Cl P w K mg base 1 "_law_draw" sp_draw)
    (hr : Room 1 (A.deeper (envOfC "_law_moved" (defScope s__law_moved) s.heap.objs.size f cdv))) :
    PSs (cxOf CX0 P w K mg base n__law_moved "_law_moved" (defScope s__law_moved) f cdv A outer s H E).nox (defBody s__law_moved) (t__law_moved K w) :=
  (pss_cons (ps_set (i := 2) sc__law_moved.nd rfl (Or.inl rfl) (pe_callTy call_list_of (by rfl) T.m_list (by decide +kernel) (pa_cons (pe_ix ix_list (pv 1) pe_int (fun _ _ => rfl)) pa_nil)))
    (pss_cons (ps_set (i := 3) sc__law_moved.nd rfl (Or.inl rfl) (pe_cl c__law_draw hr (by decide) (by rfl) (pa_cons (pv 0) (pa_cons (pe_callB call_len_seq (by rfl) T.m_len PySem.boot_len (pa_cons (pv 2) pa_nil)) pa_nil))))
    (pss_cons (ps_if (PW.pt (pw_and (pt_cmpR op_lt (pe_op op_add (pv 3) pe_int) (pe_callB call_len_seq (by rfl) T.m_len PySem.boot_len (pa_cons (pv 2) pa_nil)) (nomark _)) (pw_and1 (pt_cmpR op_gt (pe_ix ix_list (pv 2) (pe_op op_add (pv 3) pe_int) (fun _ _ => rfl)) (pe_ix ix_list (pv 2) (pv 3) (fun _ _ => rfl)) (nomark _))))) (pss_one (ps_set (i := 3) sc__law_moved.nd rfl (Or.inl rfl) (pe_op op_sub (pe_callB call_len_seq (by rfl) T.m_len PySem.boot_len (pa_cons (pv 2) pa_nil)) pe_int))) pss_nil)
    (pss_cons (ps_if (pt_cmpR op_gt (pv 3) pe_int (nomark _)) (pss_cons (ps_asg (pe_cl c__law_draw hr (by decide) (by rfl) (pa_cons (pv 0) (pa_cons (pe_op op_add (pe_ix ix_list (pv 2) (pe_op op_sub (pv 3) pe_int) (fun _ _ => rfl)) pe_int) pa_nil))) (pg_sub (pv 2) (pv 3) set_list))
    (pss_one (ps_if (pt_cmpR op_lt (pe_op op_add (pv 3) pe_int) (pe_callB call_len_seq (by rfl) T.m_len PySem.boot_len (pa_cons (pv 2) pa_nil)) (nomark _)) (pss_one (ps_asg (pe_callB (call_max2 rfl) (by rfl) T.m_max (by decide +kernel) (pa_cons (pe_ix ix_list (pv 2) (pv 3) (fun _ _ => rfl)) (pa_cons (pe_op op_sub (pe_ix ix_list (pv 2) (pe_op op_add (pv 3) pe_int) (fun _ _ => rfl)) pe_int) pa_nil))) (pg_sub (pv 2) (pv 3) set_list))) pss_nil))) pss_nil)
    (pss_one (ps_ret (pe_lst (pa_cons (pv 2) (pa_cons (pe_ix ix_list (pv 1) pe_int (fun _ _ => rfl)) pa_nil)))))))))
abbrev s_law : Stmt := topS 34
theorem sc_law : FnScope n_law ["script"] (defScope s_law) := ⟨rfl, rfl, rfl, by decide +kernel, rfl, by decide +kernel, by decide +kernel⟩
theorem d_law {P : Program} {w : World} {K : PySem.W.Frag} {mg : Str → Option Value} {base : Heap} {f : Addr} {cdv : Value} {A : Around} {outer : List Env} {s : Shared} {H : Hp} {E : XK} (T : Txt mg) (c__law_document : Cl P w K mg base 4 "_law_document" (sp_document K)) (c__law_draw : Cl P w K mg base 1 "_law_draw" sp_draw) (c__law_moved : Cl P w K mg base 2 "_law_moved" (sp_moved K)) (c__law_renamed : Cl P w K mg base 3 "_law_renamed" (sp_renamed K)) (c__law_right : Cl P w K mg base 8 "_law_right" (sp_right K)) (c__law_urn : Cl P w K mg base 1 "_law_urn" (sp_urn K)) (c__law_word : Cl P w K mg base 2 "_law_word" sp_word)
    (hr : Room 8 (A.deeper (envOfC "law" (defScope s_law) s.heap.objs.size f cdv))) :
    PSs (cxOf CX0 P w K mg base n_law "law" (defScope s_law) f cdv A outer s H E).nox (defBody s_law) (t_law K w) :=
  (pss_cons (ps_set (i := 1) sc_law.nd rfl (Or.inl rfl) (pe_cl c__law_urn hr (by decide) (by rfl) (pa_cons (pv 0) pa_nil)))
    (pss_cons (ps_set (i := 2) sc_law.nd rfl (Or.inl rfl) (pe_cl c__law_document hr (by decide) (by rfl) (pa_cons (pv 1) pa_nil)))
    (pss_cons (ps_set (i := 3) sc_law.nd rfl (Or.inl rfl) (pe_cmpR op_eq (pe_cl c__law_draw hr (by decide) (by rfl) (pa_cons (pv 1) (pa_cons pe_int pa_nil))) pe_int (nomark _)))
    (pss_cons (ps_if (PW.pt (pw_or (pt_not (pt_val (pe_cl c__law_right hr (by decide) (by rfl) (pa_cons (pv 2) (pa_cons (pv 3) pa_nil))))) (pw_or1 (pt_not (pt_val (pe_cl c__law_right hr (by decide) (by rfl) (pa_cons (pe_lst (pa_cons (pe_lst pa_nil) (pa_cons (pe_lst pa_nil) pa_nil))) (pa_cons (pe_not (pv 3)) pa_nil)))))))) (pss_one (ps_ret pe_bl)) pss_nil)
    (pss_cons (ps_set (i := 4) sc_law.nd rfl (Or.inl rfl) (pe_cl c__law_renamed hr (by decide) (by rfl) (pa_cons (pv 1) (pa_cons (pv 2) pa_nil))))
    (pss_cons (ps_set (i := 5) sc_law.nd rfl (Or.inl rfl) (pe_cl c__law_moved hr (by decide) (by rfl) (pa_cons (pv 1) (pa_cons (pv 2) pa_nil))))
    (pss_cons (ps_if (PW.pt (pw_or (pt_not (pt_val (pe_cl c__law_right hr (by decide) (by rfl) (pa_cons (pv 4) (pa_cons (pv 3) pa_nil))))) (pw_or (pt_not (pt_val (pe_cl c__law_right hr (by decide) (by rfl) (pa_cons (pv 5) (pa_cons (pe_not (pv 3)) pa_nil))))) (pw_or1 (pt_not (pt_val (pe_cl c__law_right hr (by decide) (by rfl) (pa_cons (pv 2) (pa_cons (pe_not (pv 3)) pa_nil))))))))) (pss_one (ps_ret pe_bl)) pss_nil)
    (pss_cons (ps_asg (pe_tup (pa_cons (pe_cl c__law_word hr (by decide) (by rfl) (pa_cons (pv 1) pa_nil)) (pa_cons (pe_cl c__law_word hr (by decide) (by rfl) (pa_cons (pv 1) pa_nil)) pa_nil))) (pg_tup rfl (pgs_cons (pg_name (i := 6) sc_law.nd rfl (Or.inr rfl)) (pgs_cons (pg_name (i := 7) sc_law.nd rfl (Or.inr rfl)) pgs_nil))))
    (pss_cons (ps_if (PW.pt (pw_or (pt_not (pt_val (pe_cl c__law_right hr (by decide) (by rfl) (pa_cons (pe_lst (pa_cons (pe_lst (pa_cons pe_int pa_nil)) (pa_cons (pe_lst (pa_cons (pv 6) pa_nil)) pa_nil))) (pa_cons (pv 3) pa_nil))))) (pw_or1 (pt_not (pt_val (pe_cl c__law_right hr (by decide) (by rfl) (pa_cons (pe_lst (pa_cons (pe_lst (pa_cons pe_int (pa_cons (pe_cl c__law_draw hr (by decide) (by rfl) (pa_cons (pv 1) (pa_cons pe_int pa_nil))) pa_nil))) (pa_cons (pe_lst (pa_cons (pv 7) (pa_cons (pv 6) pa_nil))) pa_nil))) (pa_cons (pv 3) pa_nil)))))))) (pss_one (ps_ret pe_bl)) pss_nil)
    (pss_cons (ps_set (i := 8) sc_law.nd rfl (Or.inl rfl) (pe_op op_add pe_int (pe_cl c__law_draw hr (by decide) (by rfl) (pa_cons (pv 1) (pa_cons pe_int pa_nil)))))
    (pss_cons (ps_if (pt_not (pt_val (pe_cl c__law_right hr (by decide) (by rfl) (pa_cons (pe_lst (pa_cons (pe_lc (own := [("k", 9)]) (g := (gName 9)) (tt := tYes) (te := (tVar 9)) rfl sc_law.nd (pi_range1 rfl T.m_range (pa_cons (pv 8) pa_nil)) (blkOk_by (own := [("k", 9)]) (N := n_law) (sc := defScope s_law) (by decide +kernel)) (fun _ _ _ _ _ => (pg_name (i := 9) sc_law.nd rfl (Or.inl rfl))) (fun _ _ _ _ _ => pts_nil) (fun _ _ _ _ _ => (pv 9))) (pa_cons (pe_lc (own := [("k", 9)]) (g := (gName 9)) (tt := tYes) (te := (tVar 6)) rfl sc_law.nd (pi_range1 rfl T.m_range (pa_cons (pv 8) pa_nil)) (blkOk_by (own := [("k", 9)]) (N := n_law) (sc := defScope s_law) (by decide +kernel)) (fun _ _ _ _ _ => (pg_name (i := 9) sc_law.nd rfl (Or.inl rfl))) (fun _ _ _ _ _ => pts_nil) (fun _ _ _ _ _ => (pv 6))) pa_nil))) (pa_cons (pv 3) pa_nil))))) (pss_one (ps_ret pe_bl)) pss_nil)
    (pss_cons (ps_if (pt_not (pt_val (pe_cl c__law_right hr (by decide) (by rfl) (pa_cons (pe_lst (pa_cons (pe_lc (own := [("k", 9)]) (g := (gName 9)) (tt := tYes) (te := (tC (.int 0))) rfl sc_law.nd (pi_range1 rfl T.m_range (pa_cons (pv 8) pa_nil)) (blkOk_by (own := [("k", 9)]) (N := n_law) (sc := defScope s_law) (by decide +kernel)) (fun _ _ _ _ _ => (pg_name (i := 9) sc_law.nd rfl (Or.inl rfl))) (fun _ _ _ _ _ => pts_nil) (fun _ _ _ _ _ => pe_int)) (pa_cons (pe_lc (own := [("k", 9)]) (g := (gName 9)) (tt := tYes) (te := (tVar 6)) rfl sc_law.nd (pi_range1 rfl T.m_range (pa_cons (pv 8) pa_nil)) (blkOk_by (own := [("k", 9)]) (N := n_law) (sc := defScope s_law) (by decide +kernel)) (fun _ _ _ _ _ => (pg_name (i := 9) sc_law.nd rfl (Or.inl rfl))) (fun _ _ _ _ _ => pts_nil) (fun _ _ _ _ _ => (pv 6))) pa_nil))) (pa_cons (pe_not (pv 3)) pa_nil))))) (pss_one (ps_ret pe_bl)) pss_nil)
    (pss_one (ps_ret (pe_cl c__law_right hr (by decide) (by rfl) (pa_cons (pe_lst (pa_cons (pe_lc (own := [("k", 9)]) (g := (gName 9)) (tt := tYes) (te := (tC (.int 0))) rfl sc_law.nd (pi_range1 rfl T.m_range (pa_cons (pv 8) pa_nil)) (blkOk_by (own := [("k", 9)]) (N := n_law) (sc := defScope s_law) (by decide +kernel)) (fun _ _ _ _ _ => (pg_name (i := 9) sc_law.nd rfl (Or.inl rfl))) (fun _ _ _ _ _ => pts_nil) (fun _ _ _ _ _ => pe_int)) (pa_cons (pe_lc (own := [("k", 9)]) (g := (gName 9)) (tt := tYes) (te := (tOp (rIxL K) (tLst (tCons (tVar 6) (tCons (tVar 7) tNil))) (tOp oMod (tCB oInt (tCons (tVar 9) tNil)) (tC (.int 2))))) rfl sc_law.nd (pi_range1 rfl T.m_range (pa_cons (pv 8) pa_nil)) (blkOk_by (own := [("k", 9)]) (N := n_law) (sc := defScope s_law) (by decide +kernel)) (fun _ _ _ _ _ => (pg_name (i := 9) sc_law.nd rfl (Or.inl rfl))) (fun _ _ _ _ _ => pts_nil) (fun _ _ _ _ _ => (pe_ix ix_list (pe_lst (pa_cons (pv 6) (pa_cons (pv 7) pa_nil))) (pe_op op_modN (pe_callTy call_int1 (by rfl) T.m_int (by decide +kernel) (pa_cons (pv 9) pa_nil)) pe_int) (fun _ _ => rfl)))) pa_nil))) (pa_cons (pv 3) pa_nil)))))))))))))))))
theorem e_marks_of {P : Program} {w : World} {K : PySem.W.Frag} {mg : Str → Option Value} {base : Heap} (T : Txt mg) (D : Df K mg "marks_of" s_marks_of) (g_HOLE : LZ.DatAt K mg "HOLE" LX.holeD) : Cl P w K mg base 1 "marks_of" (sp_marks_of K) :=
  D.cl sc_marks_of (fun _ _ _ _ _ _ us hl => match us, hl with | [_], _ => rfl) len1 (fun f cdv A outer s H vs Q E hr h => ⟨_, d_marks_of T g_HOLE  hr, r_marks_of vs H Q E h⟩)
theorem e_left_numbers {P : Program} {w : World} {K : PySem.W.Frag} {mg : Str → Option Value} {base : Heap} (T : Txt mg) (D : Df K mg "left_numbers" s_left_numbers) : Cl P w K mg base 1 "left_numbers" (sp_left_numbers K) :=
  D.cl sc_left_numbers (fun _ _ _ _ _ _ us hl => match us, hl with | [_, _], _ => rfl) len2 (fun f cdv A outer s H vs Q E hr h => ⟨_, d_left_numbers T  hr, r_left_numbers vs H Q E h⟩)
theorem e_blocks_of {P : Program} {w : World} {K : PySem.W.Frag} {mg : Str → Option Value} {base : Heap} (T : Txt mg) (D : Df K mg "blocks_of" s_blocks_of) : Cl P w K mg base 1 "blocks_of" (sp_blocks_of K) :=
  D.cl sc_blocks_of (fun _ _ _ _ _ _ us hl => match us, hl with | [_], _ => rfl) len1 (fun f cdv A outer s H vs Q E hr h => ⟨_, d_blocks_of T  hr, r_blocks_of vs H Q E h⟩)
theorem e_row_counts {P : Program} {w : World} {K : PySem.W.Frag} {mg : Str → Option Value} {base : Heap} (T : Txt mg) (D : Df K mg "row_counts" s_row_counts) : Cl P w K mg base 1 "row_counts" (sp_row_counts K) :=
  D.cl sc_row_counts (fun _ _ _ _ _ _ us hl => match us, hl with | [_], _ => rfl) len1 (fun f cdv A outer s H vs Q E hr h => ⟨_, d_row_counts T  hr, r_row_counts vs H Q E h⟩)
theorem e_row_pairs {P : Program} {w : World} {K : PySem.W.Frag} {mg : Str → Option Value} {base : Heap} (T : Txt mg) (D : Df K mg "row_pairs" s_row_pairs) : Cl P w K mg base 1 "row_pairs" (sp_row_pairs K) :=
  D.cl sc_row_pairs (fun _ _ _ _ _ _ us hl => match us, hl with | [_, _, _], _ => rfl) len3 (fun f cdv A outer s H vs Q E hr h => ⟨_, d_row_pairs T  hr, r_row_pairs vs H Q E h⟩)
theorem e__law_draw {P : Program} {w : World} {K : PySem.W.Frag} {mg : Str → Option Value} {base : Heap} (T : Txt mg) (D : Df K mg "_law_draw" s__law_draw) : Cl P w K mg base 1 "_law_draw" sp_draw :=
  D.cl sc__law_draw (fun _ _ _ _ _ _ us hl => match us, hl with | [_, _], _ => rfl) len2 (fun f cdv A outer s H vs Q E hr h => ⟨_, d__law_draw T  hr, r_draw vs H Q E h⟩)
theorem e__law_urn {P : Program} {w : World} {K : PySem.W.Frag} {mg : Str → Option Value} {base : Heap} (T : Txt mg) (D : Df K mg "_law_urn" s__law_urn) : Cl P w K mg base 1 "_law_urn" (sp_urn K) :=
  D.cl sc__law_urn (fun _ _ _ _ _ _ us hl => match us, hl with | [_], _ => rfl) len1 (fun f cdv A outer s H vs Q E hr h => ⟨_, d__law_urn T  hr, r_urn vs H Q E h⟩)
theorem e__law_copied {P : Program} {w : World} {K : PySem.W.Frag} {mg : Str → Option Value} {base : Heap} (T : Txt mg) (D : Df K mg "_law_copied" s__law_copied) : Cl P w K mg base 1 "_law_copied" (sp_copied K) :=
  D.cl sc__law_copied (fun _ _ _ _ _ _ us hl => match us, hl with | [_, _, _], _ => rfl) (fun vs H Q E h => by obtain ⟨_, _, _, _, _, e, _⟩ := h; rw [e]; rfl) (fun f cdv A outer s H vs Q E hr h => ⟨_, d__law_copied T  hr, r_copied vs H Q E h⟩)
theorem e__law_walked {P : Program} {w : World} {K : PySem.W.Frag} {mg : Str → Option Value} {base : Heap} (T : Txt mg) (D : Df K mg "_law_walked" s__law_walked) : Cl P w K mg base 1 "_law_walked" (sp_walked K) :=
  D.cl sc__law_walked (fun _ _ _ _ _ _ us hl => match us, hl with | [_, _], _ => rfl) (fun vs H Q E h => by obtain ⟨_, _, _, e, _⟩ := h; rw [e]; rfl) (fun f cdv A outer s H vs Q E hr h => ⟨_, d__law_walked T  hr, r_walked vs H Q E h⟩)
theorem e__law_trees {P : Program} {w : World} {K : PySem.W.Frag} {mg : Str → Option Value} {base : Heap} (T : Txt mg) (D : Df K mg "_law_trees" s__law_trees) : Cl P w K mg base 1 "_law_trees" (sp_trees K) :=
  D.cl sc__law_trees (fun _ _ _ _ _ _ us hl => match us, hl with | [_, _], _ => rfl) (fun vs H Q E h => by obtain ⟨_, _, _, e, _⟩ := h; rw [e]; rfl) (fun f cdv A outer s H vs Q E hr h => ⟨_, d__law_trees T  hr, r_trees vs H Q E h⟩)
theorem e__law_first {P : Program} {w : World} {K : PySem.W.Frag} {mg : Str → Option Value} {base : Heap} (T : Txt mg) (D : Df K mg "_law_first" s__law_first) : Cl P w K mg base 1 "_law_first" (sp_first K) :=
  D.cl sc__law_first (fun _ _ _ _ _ _ us hl => match us, hl with | [_, _, _], _ => rfl) (fun vs H Q E h => by obtain ⟨_, _, _, _, _, e, _⟩ := h; rw [e]; rfl) (fun f cdv A outer s H vs Q E hr h => ⟨_, d__law_first T  hr, r_first vs H Q E h⟩)
theorem e__law_pressed_runs {P : Program} {w : World} {K : PySem.W.Frag} {mg : Str → Option Value} {base : Heap} (T : Txt mg) (D : Df K mg "_law_pressed_runs" s__law_pressed_runs) : Cl P w K mg base 1 "_law_pressed_runs" (sp_pressed_runs K) :=
  D.cl sc__law_pressed_runs (fun _ _ _ _ _ _ us hl => match us, hl with | [_, _], _ => rfl) len2 (fun f cdv A outer s H vs Q E hr h => ⟨_, d__law_pressed_runs T  hr, r_pressed_runs vs H Q E h⟩)
theorem e__law_left_numbers {P : Program} {w : World} {K : PySem.W.Frag} {mg : Str → Option Value} {base : Heap} (T : Txt mg) (D : Df K mg "_law_left_numbers" s__law_left_numbers) : Cl P w K mg base 1 "_law_left_numbers" (sp_mleft K) :=
  D.cl sc__law_left_numbers (fun _ _ _ _ _ _ us hl => match us, hl with | [_], _ => rfl) len1 (fun f cdv A outer s H vs Q E hr h => ⟨_, d__law_left_numbers T  hr, r_mleft vs H Q E h⟩)
theorem e__law_pressed_pairs {P : Program} {w : World} {K : PySem.W.Frag} {mg : Str → Option Value} {base : Heap} (T : Txt mg) (D : Df K mg "_law_pressed_pairs" s__law_pressed_pairs) : Cl P w K mg base 1 "_law_pressed_pairs" (sp_pressed_pairs K) :=
  D.cl sc__law_pressed_pairs (fun _ _ _ _ _ _ us hl => match us, hl with | [_, _, _], _ => rfl) len3 (fun f cdv A outer s H vs Q E hr h => ⟨_, d__law_pressed_pairs T  hr, r_pressed_pairs vs H Q E h⟩)
theorem e_row_blocks {P : Program} {w : World} {K : PySem.W.Frag} {mg : Str → Option Value} {base : Heap} (T : Txt mg) (D : Df K mg "row_blocks" s_row_blocks) (c_blocks_of : Cl P w K mg base 1 "blocks_of" (sp_blocks_of K)) : Cl P w K mg base 2 "row_blocks" (sp_row_blocks K) :=
  D.cl sc_row_blocks (fun _ _ _ _ _ _ us hl => match us, hl with | [_, _], _ => rfl) len2 (fun f cdv A outer s H vs Q E hr h => ⟨_, d_row_blocks T c_blocks_of hr, r_row_blocks vs H Q E h⟩)
theorem e_sides_of {P : Program} {w : World} {K : PySem.W.Frag} {mg : Str → Option Value} {base : Heap} (T : Txt mg) (D : Df K mg "sides_of" s_sides_of) (c_left_numbers : Cl P w K mg base 1 "left_numbers" (sp_left_numbers K)) (c_row_counts : Cl P w K mg base 1 "row_counts" (sp_row_counts K)) : Cl P w K mg base 2 "sides_of" (sp_sides_of K) :=
  D.cl sc_sides_of (fun _ _ _ _ _ _ us hl => match us, hl with | [_], _ => rfl) len1 (fun f cdv A outer s H vs Q E hr h => ⟨_, d_sides_of T c_left_numbers c_row_counts hr, r_sides_of vs H Q E h⟩)
theorem e_number_row {P : Program} {w : World} {K : PySem.W.Frag} {mg : Str → Option Value} {base : Heap} (T : Txt mg) (D : Df K mg "number_row" s_number_row) (c_marks_of : Cl P w K mg base 1 "marks_of" (sp_marks_of K)) : Cl P w K mg base 2 "number_row" (sp_number_row K) :=
  D.cl sc_number_row (fun _ _ _ _ _ _ us hl => match us, hl with | [_, _], _ => rfl) len2 (fun f cdv A outer s H vs Q E hr h => ⟨_, d_number_row T c_marks_of hr, r_number_row vs H Q E h⟩)
theorem e__law_word {P : Program} {w : World} {K : PySem.W.Frag} {mg : Str → Option Value} {base : Heap} (T : Txt mg) (D : Df K mg "_law_word" s__law_word) (c__law_draw : Cl P w K mg base 1 "_law_draw" sp_draw) : Cl P w K mg base 2 "_law_word" sp_word :=
  D.cl sc__law_word (fun _ _ _ _ _ _ us hl => match us, hl with | [_], _ => rfl) len1 (fun f cdv A outer s H vs Q E hr h => ⟨_, d__law_word T c__law_draw hr, r_word vs H Q E h⟩)
theorem e__law_layers {P : Program} {w : World} {K : PySem.W.Frag} {mg : Str → Option Value} {base : Heap} (T : Txt mg) (D : Df K mg "_law_layers" s__law_layers) (c__law_first : Cl P w K mg base 1 "_law_first" (sp_first K)) (c__law_left_numbers : Cl P w K mg base 1 "_law_left_numbers" (sp_mleft K)) (c__law_pressed_pairs : Cl P w K mg base 1 "_law_pressed_pairs" (sp_pressed_pairs K)) (c__law_pressed_runs : Cl P w K mg base 1 "_law_pressed_runs" (sp_pressed_runs K)) : Cl P w K mg base 2 "_law_layers" (sp_law_layers K) :=
  D.cl sc__law_layers (fun _ _ _ _ _ _ us hl => match us, hl with | [_], _ => rfl) len1 (fun f cdv A outer s H vs Q E hr h => ⟨_, d__law_layers T c__law_first c__law_left_numbers c__law_pressed_pairs c__law_pressed_runs hr, r_law_layers vs H Q E h⟩)
theorem e__law_moved {P : Program} {w : World} {K : PySem.W.Frag} {mg : Str → Option Value} {base : Heap} (T : Txt mg) (D : Df K mg "_law_moved" s__law_moved) (c__law_draw : Cl P w K mg base 1 "_law_draw" sp_draw) : Cl P w K mg base 2 "_law_moved" (sp_moved K) :=
  D.cl sc__law_moved (fun _ _ _ _ _ _ us hl => match us, hl with | [_, _], _ => rfl) (fun vs H Q E h => by obtain ⟨_, _, _, _, _, e, _⟩ := h; rw [e]; rfl) (fun f cdv A outer s H vs Q E hr h => ⟨_, d__law_moved T c__law_draw hr, r_moved vs H Q E h⟩)
theorem e_layers_of_form {P : Program} {w : World} {K : PySem.W.Frag} {mg : Str → Option Value} {base : Heap} (T : Txt mg) (D : Df K mg "layers_of_form" s_layers_of_form) (c_marks_of : Cl P w K mg base 1 "marks_of" (sp_marks_of K)) (c_number_row : Cl P w K mg base 2 "number_row" (sp_number_row K)) (c_row_blocks : Cl P w K mg base 2 "row_blocks" (sp_row_blocks K)) (c_row_pairs : Cl P w K mg base 1 "row_pairs" (sp_row_pairs K)) (c_sides_of : Cl P w K mg base 2 "sides_of" (sp_sides_of K)) : Cl P w K mg base 3 "layers_of_form" (sp_layers K) :=
  D.cl sc_layers_of_form (fun _ _ _ _ _ _ us hl => match us, hl with | [_], _ => rfl) len1 (fun f cdv A outer s H vs Q E hr h => ⟨_, d_layers_of_form T c_marks_of c_number_row c_row_blocks c_row_pairs c_sides_of hr, r_layers_of_form vs H Q E h⟩)
theorem ek_layers_of_form {P : Program} {w : World} {K : PySem.W.Frag} {mg : Str → Option Value} {base : Heap} (T : Txt mg) (D : Df K mg "layers_of_form" s_layers_of_form) (c_marks_of : Cl P w K mg base 1 "marks_of" (sp_marks_of K)) (c_number_row : Cl P w K mg base 2 "number_row" (sp_number_row K)) (c_row_blocks : Cl P w K mg base 2 "row_blocks" (sp_row_blocks K)) (c_row_pairs : Cl P w K mg base 1 "row_pairs" (sp_row_pairs K)) (c_sides_of : Cl P w K mg base 2 "sides_of" (sp_sides_of K)) : ClK P w K mg base 3 "layers_of_form" (sp_layers K) ["form"] LD.gKw1 :=
  D.clK (g := LD.gKw1) sc_layers_of_form (fun _ _ _ _ _ _ us ws hl => match us, ws, hl with | [], [_], _ => rfl) LD.gKw1_rel len1 (fun f cdv A outer s H vs Q E hr h => ⟨_, d_layers_of_form T c_marks_of c_number_row c_row_blocks c_row_pairs c_sides_of hr, r_layers_of_form vs H Q E h⟩)
theorem e__law_shape {P : Program} {w : World} {K : PySem.W.Frag} {mg : Str → Option Value} {base : Heap} (T : Txt mg) (D : Df K mg "_law_shape" s__law_shape) (c__law_draw : Cl P w K mg base 1 "_law_draw" sp_draw) (c__law_walked : Cl P w K mg base 1 "_law_walked" (sp_walked K)) : Cl P w K mg base 3 "_law_shape" (sp_shape K) :=
  D.cl sc__law_shape (fun _ _ _ _ _ _ us hl => match us, hl with | [_, _, _], _ => rfl) (fun vs H Q E h => by obtain ⟨_, _, _, _, e, _⟩ := h; rw [e]; rfl) (fun f cdv A outer s H vs Q E hr h => ⟨_, d__law_shape T c__law_draw c__law_walked hr, r_shape vs H Q E h⟩)
theorem e__law_renamed {P : Program} {w : World} {K : PySem.W.Frag} {mg : Str → Option Value} {base : Heap} (T : Txt mg) (D : Df K mg "_law_renamed" s__law_renamed) (c__law_draw : Cl P w K mg base 1 "_law_draw" sp_draw) (c__law_word : Cl P w K mg base 2 "_law_word" sp_word) : Cl P w K mg base 3 "_law_renamed" (sp_renamed K) :=
  D.cl sc__law_renamed (fun _ _ _ _ _ _ us hl => match us, hl with | [_, _], _ => rfl) (fun vs H Q E h => by obtain ⟨_, _, _, _, _, e, _⟩ := h; rw [e]; rfl) (fun f cdv A outer s H vs Q E hr h => ⟨_, d__law_renamed T c__law_draw c__law_word hr, r_renamed vs H Q E h⟩)
theorem e__law_document {P : Program} {w : World} {K : PySem.W.Frag} {mg : Str → Option Value} {base : Heap} (T : Txt mg) (D : Df K mg "_law_document" s__law_document) (c__law_copied : Cl P w K mg base 1 "_law_copied" (sp_copied K)) (c__law_draw : Cl P w K mg base 1 "_law_draw" sp_draw) (c__law_shape : Cl P w K mg base 3 "_law_shape" (sp_shape K)) (c__law_word : Cl P w K mg base 2 "_law_word" sp_word) : Cl P w K mg base 4 "_law_document" (sp_document K) :=
  D.cl sc__law_document (fun _ _ _ _ _ _ us hl => match us, hl with | [_], _ => rfl) len1 (fun f cdv A outer s H vs Q E hr h => ⟨_, d__law_document T c__law_copied c__law_draw c__law_shape c__law_word hr, r_document vs H Q E h⟩)
theorem e__law_like_f {P : Program} {w : World} {K : PySem.W.Frag} {mg : Str → Option Value} {base : Heap} (D : Df K mg "_law_like" s__law_like) : Cl P w K mg base 1 "_law_like" (fun _ _ _ _ => False) :=
  D.cl sc__law_like (fun _ _ _ _ _ _ us hl => match us, hl with | [_, _], _ => rfl) (fun _ _ _ _ h => h.elim) (fun _ _ _ _ _ _ _ _ _ _ h => h.elim)
theorem e__law_like_n {P : Program} {w : World} {K : PySem.W.Frag} {mg : Str → Option Value} {base : Heap} (T : Txt mg) (D : Df K mg "_law_like" s__law_like) : ∀ n : Nat, Cl P w K mg base (n + 2) "_law_like" (sp_like n)
  | 0 => D.cl sc__law_like (fun _ _ _ _ _ _ us hl => match us, hl with | [_, _], _ => rfl) (fun vs H Q E h => by obtain ⟨_, _, e, _⟩ := h; rw [e]; rfl) (fun f cdv A outer s H vs Q E hr h => ⟨_, d__law_like T (e__law_like_f D) hr, r_like0 vs H Q E h⟩)
  | n + 1 => D.cl sc__law_like (fun _ _ _ _ _ _ us hl => match us, hl with | [_, _], _ => rfl) (fun vs H Q E h => by obtain ⟨_, _, e, _⟩ := h; rw [e]; rfl) (fun f cdv A outer s H vs Q E hr h => ⟨_, d__law_like T (e__law_like_n T D n) hr, r_like vs H Q E h⟩)
theorem e__law_like {P : Program} {w : World} {K : PySem.W.Frag} {mg : Str → Option Value} {base : Heap} (T : Txt mg) (D : Df K mg "_law_like" s__law_like) : Cl P w K mg base 7 "_law_like" (sp_like 5) := e__law_like_n T D 5
theorem e__law_right {P : Program} {w : World} {K : PySem.W.Frag} {mg : Str → Option Value} {base : Heap} (T : Txt mg) (D : Df K mg "_law_right" s__law_right) (c__law_layers : Cl P w K mg base 2 "_law_layers" (sp_law_layers K)) (c__law_like : Cl P w K mg base 7 "_law_like" (sp_like 5)) (c__law_trees : Cl P w K mg base 1 "_law_trees" (sp_trees K)) (c_k_layers_of_form : ClK P w K mg base 3 "layers_of_form" (sp_layers K) ["form"] LD.gKw1) (c_layers_of_form : Cl P w K mg base 3 "layers_of_form" (sp_layers K)) : Cl P w K mg base 8 "_law_right" (sp_right K) :=
  D.cl sc__law_right (fun _ _ _ _ _ _ us hl => match us, hl with | [_, _], _ => rfl) len2 (fun f cdv A outer s H vs Q E hr h => ⟨_, d__law_right T c__law_layers c__law_like c__law_trees c_k_layers_of_form c_layers_of_form hr, r_right vs H Q E h⟩)
theorem e_law {P : Program} {w : World} {K : PySem.W.Frag} {mg : Str → Option Value} {base : Heap} (T : Txt mg) (D : Df K mg "law" s_law) (c__law_document : Cl P w K mg base 4 "_law_document" (sp_document K)) (c__law_draw : Cl P w K mg base 1 "_law_draw" sp_draw) (c__law_moved : Cl P w K mg base 2 "_law_moved" (sp_moved K)) (c__law_renamed : Cl P w K mg base 3 "_law_renamed" (sp_renamed K)) (c__law_right : Cl P w K mg base 8 "_law_right" (sp_right K)) (c__law_urn : Cl P w K mg base 1 "_law_urn" (sp_urn K)) (c__law_word : Cl P w K mg base 2 "_law_word" sp_word) : Cl P w K mg base 9 "law" (spLaw K) :=
  D.cl sc_law (fun _ _ _ _ _ _ us hl => match us, hl with | [_], _ => rfl) len1 (fun f cdv A outer s H vs Q E hr h => ⟨_, d_law T c__law_document c__law_draw c__law_moved c__law_renamed c__law_right c__law_urn c__law_word hr, r_law vs H Q E h⟩)
theorem all_mk {l : PySem.W.OpenLaw} {w : World} {K : PySem.W.Frag} {h : Heap} {mg : Str → Option Value} {fa : Addr} (X : K.In h) (G : h.Ns mainGlobals mg) (hfa : mg "law" = some (.ref fa))
    {f0 : Addr} {od0 an0 : Option Addr} {sl0 : Array (Option Value)} {oc0 kV0 dc0 pm0 cd0 ct0 : Value} (a0 : PySem.W.nsIn K mainGlobals "marks_of" = some (some (.ref f0))) (l0 : K.lookup f0 = some ⟨oc0, od0, .func (PySem.W.fnOf "marks_of" "marks_of" (defArgs s_marks_of) (defBody s_marks_of) (defScope s_marks_of) .none kV0 dc0 pm0 an0 cd0 ct0), sl0⟩) (c0 : PySem.W.codeIn K cd0 "marks_of" = true) (k0 : PySem.W.keepIn K (.ref f0) = true)
    {f1 : Addr} {od1 an1 : Option Addr} {sl1 : Array (Option Value)} {oc1 kV1 dc1 pm1 cd1 ct1 : Value} (a1 : PySem.W.nsIn K mainGlobals "left_numbers" = some (some (.ref f1))) (l1 : K.lookup f1 = some ⟨oc1, od1, .func (PySem.W.fnOf "left_numbers" "left_numbers" (defArgs s_left_numbers) (defBody s_left_numbers) (defScope s_left_numbers) .none kV1 dc1 pm1 an1 cd1 ct1), sl1⟩) (c1 : PySem.W.codeIn K cd1 "left_numbers" = true) (k1 : PySem.W.keepIn K (.ref f1) = true)
    {f2 : Addr} {od2 an2 : Option Addr} {sl2 : Array (Option Value)} {oc2 kV2 dc2 pm2 cd2 ct2 : Value} (a2 : PySem.W.nsIn K mainGlobals "blocks_of" = some (some (.ref f2))) (l2 : K.lookup f2 = some ⟨oc2, od2, .func (PySem.W.fnOf "blocks_of" "blocks_of" (defArgs s_blocks_of) (defBody s_blocks_of) (defScope s_blocks_of) .none kV2 dc2 pm2 an2 cd2 ct2), sl2⟩) (c2 : PySem.W.codeIn K cd2 "blocks_of" = true) (k2 : PySem.W.keepIn K (.ref f2) = true)
    {f3 : Addr} {od3 an3 : Option Addr} {sl3 : Array (Option Value)} {oc3 kV3 dc3 pm3 cd3 ct3 : Value} (a3 : PySem.W.nsIn K mainGlobals "row_counts" = some (some (.ref f3))) (l3 : K.lookup f3 = some ⟨oc3, od3, .func (PySem.W.fnOf "row_counts" "row_counts" (defArgs s_row_counts) (defBody s_row_counts) (defScope s_row_counts) .none kV3 dc3 pm3 an3 cd3 ct3), sl3⟩) (c3 : PySem.W.codeIn K cd3 "row_counts" = true) (k3 : PySem.W.keepIn K (.ref f3) = true)
    {f4 : Addr} {od4 an4 : Option Addr} {sl4 : Array (Option Value)} {oc4 kV4 dc4 pm4 cd4 ct4 : Value} (a4 : PySem.W.nsIn K mainGlobals "row_pairs" = some (some (.ref f4))) (l4 : K.lookup f4 = some ⟨oc4, od4, .func (PySem.W.fnOf "row_pairs" "row_pairs" (defArgs s_row_pairs) (defBody s_row_pairs) (defScope s_row_pairs) .none kV4 dc4 pm4 an4 cd4 ct4), sl4⟩) (c4 : PySem.W.codeIn K cd4 "row_pairs" = true) (k4 : PySem.W.keepIn K (.ref f4) = true)
    {f5 : Addr} {od5 an5 : Option Addr} {sl5 : Array (Option Value)} {oc5 kV5 dc5 pm5 cd5 ct5 : Value} (a5 : PySem.W.nsIn K mainGlobals "_law_draw" = some (some (.ref f5))) (l5 : K.lookup f5 = some ⟨oc5, od5, .func (PySem.W.fnOf "_law_draw" "_law_draw" (defArgs s__law_draw) (defBody s__law_draw) (defScope s__law_draw) .none kV5 dc5 pm5 an5 cd5 ct5), sl5⟩) (c5 : PySem.W.codeIn K cd5 "_law_draw" = true) (k5 : PySem.W.keepIn K (.ref f5) = true)
    {f6 : Addr} {od6 an6 : Option Addr} {sl6 : Array (Option Value)} {oc6 kV6 dc6 pm6 cd6 ct6 : Value} (a6 : PySem.W.nsIn K mainGlobals "_law_urn" = some (some (.ref f6))) (l6 : K.lookup f6 = some ⟨oc6, od6, .func (PySem.W.fnOf "_law_urn" "_law_urn" (defArgs s__law_urn) (defBody s__law_urn) (defScope s__law_urn) .none kV6 dc6 pm6 an6 cd6 ct6), sl6⟩) (c6 : PySem.W.codeIn K cd6 "_law_urn" = true) (k6 : PySem.W.keepIn K (.ref f6) = true)
    {f7 : Addr} {od7 an7 : Option Addr} {sl7 : Array (Option Value)} {oc7 kV7 dc7 pm7 cd7 ct7 : Value} (a7 : PySem.W.nsIn K mainGlobals "_law_copied" = some (some (.ref f7))) (l7 : K.lookup f7 = some ⟨oc7, od7, .func (PySem.W.fnOf "_law_copied" "_law_copied" (defArgs s__law_copied) (defBody s__law_copied) (defScope s__law_copied) .none kV7 dc7 pm7 an7 cd7 ct7), sl7⟩) (c7 : PySem.W.codeIn K cd7 "_law_copied" = true) (k7 : PySem.W.keepIn K (.ref f7) = true)
    {f8 : Addr} {od8 an8 : Option Addr} {sl8 : Array (Option Value)} {oc8 kV8 dc8 pm8 cd8 ct8 : Value} (a8 : PySem.W.nsIn K mainGlobals "_law_walked" = some (some (.ref f8))) (l8 : K.lookup f8 = some ⟨oc8, od8, .func (PySem.W.fnOf "_law_walked" "_law_walked" (defArgs s__law_walked) (defBody s__law_walked) (defScope s__law_walked) .none kV8 dc8 pm8 an8 cd8 ct8), sl8⟩) (c8 : PySem.W.codeIn K cd8 "_law_walked" = true) (k8 : PySem.W.keepIn K (.ref f8) = true)
    {f9 : Addr} {od9 an9 : Option Addr} {sl9 : Array (Option Value)} {oc9 kV9 dc9 pm9 cd9 ct9 : Value} (a9 : PySem.W.nsIn K mainGlobals "_law_trees" = some (some (.ref f9))) (l9 : K.lookup f9 = some ⟨oc9, od9, .func (PySem.W.fnOf "_law_trees" "_law_trees" (defArgs s__law_trees) (defBody s__law_trees) (defScope s__law_trees) .none kV9 dc9 pm9 an9 cd9 ct9), sl9⟩) (c9 : PySem.W.codeIn K cd9 "_law_trees" = true) (k9 : PySem.W.keepIn K (.ref f9) = true)
    {f10 : Addr} {od10 an10 : Option Addr} {sl10 : Array (Option Value)} {oc10 kV10 dc10 pm10 cd10 ct10 : Value} (a10 : PySem.W.nsIn K mainGlobals "_law_first" = some (some (.ref f10))) (l10 : K.lookup f10 = some ⟨oc10, od10, .func (PySem.W.fnOf "_law_first" "_law_first" (defArgs s__law_first) (defBody s__law_first) (defScope s__law_first) .none kV10 dc10 pm10 an10 cd10 ct10), sl10⟩) (c10 : PySem.W.codeIn K cd10 "_law_first" = true) (k10 : PySem.W.keepIn K (.ref f10) = true)
    {f11 : Addr} {od11 an11 : Option Addr} {sl11 : Array (Option Value)} {oc11 kV11 dc11 pm11 cd11 ct11 : Value} (a11 : PySem.W.nsIn K mainGlobals "_law_pressed_runs" = some (some (.ref f11))) (l11 : K.lookup f11 = some ⟨oc11, od11, .func (PySem.W.fnOf "_law_pressed_runs" "_law_pressed_runs" (defArgs s__law_pressed_runs) (defBody s__law_pressed_runs) (defScope s__law_pressed_runs) .none kV11 dc11 pm11 an11 cd11 ct11), sl11⟩) (c11 : PySem.W.codeIn K cd11 "_law_pressed_runs" = true) (k11 : PySem.W.keepIn K (.ref f11) = true)
    {f12 : Addr} {od12 an12 : Option Addr} {sl12 : Array (Option Value)} {oc12 kV12 dc12 pm12 cd12 ct12 : Value} (a12 : PySem.W.nsIn K mainGlobals "_law_left_numbers" = some (some (.ref f12))) (l12 : K.lookup f12 = some ⟨oc12, od12, .func (PySem.W.fnOf "_law_left_numbers" "_law_left_numbers" (defArgs s__law_left_numbers) (defBody s__law_left_numbers) (defScope s__law_left_numbers) .none kV12 dc12 pm12 an12 cd12 ct12), sl12⟩) (c12 : PySem.W.codeIn K cd12 "_law_left_numbers" = true) (k12 : PySem.W.keepIn K (.ref f12) = true)
    {f13 : Addr} {od13 an13 : Option Addr} {sl13 : Array (Option Value)} {oc13 kV13 dc13 pm13 cd13 ct13 : Value} (a13 : PySem.W.nsIn K mainGlobals "_law_pressed_pairs" = some (some (.ref f13))) (l13 : K.lookup f13 = some ⟨oc13, od13, .func (PySem.W.fnOf "_law_pressed_pairs" "_law_pressed_pairs" (defArgs s__law_pressed_pairs) (defBody s__law_pressed_pairs) (defScope s__law_pressed_pairs) .none kV13 dc13 pm13 an13 cd13 ct13), sl13⟩) (c13 : PySem.W.codeIn K cd13 "_law_pressed_pairs" = true) (k13 : PySem.W.keepIn K (.ref f13) = true)
    {f14 : Addr} {od14 an14 : Option Addr} {sl14 : Array (Option Value)} {oc14 kV14 dc14 pm14 cd14 ct14 : Value} (a14 : PySem.W.nsIn K mainGlobals "row_blocks" = some (some (.ref f14))) (l14 : K.lookup f14 = some ⟨oc14, od14, .func (PySem.W.fnOf "row_blocks" "row_blocks" (defArgs s_row_blocks) (defBody s_row_blocks) (defScope s_row_blocks) .none kV14 dc14 pm14 an14 cd14 ct14), sl14⟩) (c14 : PySem.W.codeIn K cd14 "row_blocks" = true) (k14 : PySem.W.keepIn K (.ref f14) = true)
    {f15 : Addr} {od15 an15 : Option Addr} {sl15 : Array (Option Value)} {oc15 kV15 dc15 pm15 cd15 ct15 : Value} (a15 : PySem.W.nsIn K mainGlobals "sides_of" = some (some (.ref f15))) (l15 : K.lookup f15 = some ⟨oc15, od15, .func (PySem.W.fnOf "sides_of" "sides_of" (defArgs s_sides_of) (defBody s_sides_of) (defScope s_sides_of) .none kV15 dc15 pm15 an15 cd15 ct15), sl15⟩) (c15 : PySem.W.codeIn K cd15 "sides_of" = true) (k15 : PySem.W.keepIn K (.ref f15) = true)
    {f16 : Addr} {od16 an16 : Option Addr} {sl16 : Array (Option Value)} {oc16 kV16 dc16 pm16 cd16 ct16 : Value} (a16 : PySem.W.nsIn K mainGlobals "number_row" = some (some (.ref f16))) (l16 : K.lookup f16 = some ⟨oc16, od16, .func (PySem.W.fnOf "number_row" "number_row" (defArgs s_number_row) (defBody s_number_row) (defScope s_number_row) .none kV16 dc16 pm16 an16 cd16 ct16), sl16⟩) (c16 : PySem.W.codeIn K cd16 "number_row" = true) (k16 : PySem.W.keepIn K (.ref f16) = true)
    {f17 : Addr} {od17 an17 : Option Addr} {sl17 : Array (Option Value)} {oc17 kV17 dc17 pm17 cd17 ct17 : Value} (a17 : PySem.W.nsIn K mainGlobals "_law_word" = some (some (.ref f17))) (l17 : K.lookup f17 = some ⟨oc17, od17, .func (PySem.W.fnOf "_law_word" "_law_word" (defArgs s__law_word) (defBody s__law_word) (defScope s__law_word) .none kV17 dc17 pm17 an17 cd17 ct17), sl17⟩) (c17 : PySem.W.codeIn K cd17 "_law_word" = true) (k17 : PySem.W.keepIn K (.ref f17) = true)
    {f18 : Addr} {od18 an18 : Option Addr} {sl18 : Array (Option Value)} {oc18 kV18 dc18 pm18 cd18 ct18 : Value} (a18 : PySem.W.nsIn K mainGlobals "_law_layers" = some (some (.ref f18))) (l18 : K.lookup f18 = some ⟨oc18, od18, .func (PySem.W.fnOf "_law_layers" "_law_layers" (defArgs s__law_layers) (defBody s__law_layers) (defScope s__law_layers) .none kV18 dc18 pm18 an18 cd18 ct18), sl18⟩) (c18 : PySem.W.codeIn K cd18 "_law_layers" = true) (k18 : PySem.W.keepIn K (.ref f18) = true)
    {f19 : Addr} {od19 an19 : Option Addr} {sl19 : Array (Option Value)} {oc19 kV19 dc19 pm19 cd19 ct19 : Value} (a19 : PySem.W.nsIn K mainGlobals "_law_moved" = some (some (.ref f19))) (l19 : K.lookup f19 = some ⟨oc19, od19, .func (PySem.W.fnOf "_law_moved" "_law_moved" (defArgs s__law_moved) (defBody s__law_moved) (defScope s__law_moved) .none kV19 dc19 pm19 an19 cd19 ct19), sl19⟩) (c19 : PySem.W.codeIn K cd19 "_law_moved" = true) (k19 : PySem.W.keepIn K (.ref f19) = true)
    {f20 : Addr} {od20 an20 : Option Addr} {sl20 : Array (Option Value)} {oc20 kV20 dc20 pm20 cd20 ct20 : Value} (a20 : PySem.W.nsIn K mainGlobals "layers_of_form" = some (some (.ref f20))) (l20 : K.lookup f20 = some ⟨oc20, od20, .func (PySem.W.fnOf "layers_of_form" "layers_of_form" (defArgs s_layers_of_form) (defBody s_layers_of_form) (defScope s_layers_of_form) .none kV20 dc20 pm20 an20 cd20 ct20), sl20⟩) (c20 : PySem.W.codeIn K cd20 "layers_of_form" = true) (k20 : PySem.W.keepIn K (.ref f20) = true)
    {f21 : Addr} {od21 an21 : Option Addr} {sl21 : Array (Option Value)} {oc21 kV21 dc21 pm21 cd21 ct21 : Value} (a21 : PySem.W.nsIn K mainGlobals "_law_shape" = some (some (.ref f21))) (l21 : K.lookup f21 = some ⟨oc21, od21, .func (PySem.W.fnOf "_law_shape" "_law_shape" (defArgs s__law_shape) (defBody s__law_shape) (defScope s__law_shape) .none kV21 dc21 pm21 an21 cd21 ct21), sl21⟩) (c21 : PySem.W.codeIn K cd21 "_law_shape" = true) (k21 : PySem.W.keepIn K (.ref f21) = true)
    {f22 : Addr} {od22 an22 : Option Addr} {sl22 : Array (Option Value)} {oc22 kV22 dc22 pm22 cd22 ct22 : Value} (a22 : PySem.W.nsIn K mainGlobals "_law_renamed" = some (some (.ref f22))) (l22 : K.lookup f22 = some ⟨oc22, od22, .func (PySem.W.fnOf "_law_renamed" "_law_renamed" (defArgs s__law_renamed) (defBody s__law_renamed) (defScope s__law_renamed) .none kV22 dc22 pm22 an22 cd22 ct22), sl22⟩) (c22 : PySem.W.codeIn K cd22 "_law_renamed" = true) (k22 : PySem.W.keepIn K (.ref f22) = true)
    {f23 : Addr} {od23 an23 : Option Addr} {sl23 : Array (Option Value)} {oc23 kV23 dc23 pm23 cd23 ct23 : Value} (a23 : PySem.W.nsIn K mainGlobals "_law_document" = some (some (.ref f23))) (l23 : K.lookup f23 = some ⟨oc23, od23, .func (PySem.W.fnOf "_law_document" "_law_document" (defArgs s__law_document) (defBody s__law_document) (defScope s__law_document) .none kV23 dc23 pm23 an23 cd23 ct23), sl23⟩) (c23 : PySem.W.codeIn K cd23 "_law_document" = true) (k23 : PySem.W.keepIn K (.ref f23) = true)
    {f24 : Addr} {od24 an24 : Option Addr} {sl24 : Array (Option Value)} {oc24 kV24 dc24 pm24 cd24 ct24 : Value} (a24 : PySem.W.nsIn K mainGlobals "_law_like" = some (some (.ref f24))) (l24 : K.lookup f24 = some ⟨oc24, od24, .func (PySem.W.fnOf "_law_like" "_law_like" (defArgs s__law_like) (defBody s__law_like) (defScope s__law_like) .none kV24 dc24 pm24 an24 cd24 ct24), sl24⟩) (c24 : PySem.W.codeIn K cd24 "_law_like" = true) (k24 : PySem.W.keepIn K (.ref f24) = true)
    {f25 : Addr} {od25 an25 : Option Addr} {sl25 : Array (Option Value)} {oc25 kV25 dc25 pm25 cd25 ct25 : Value} (a25 : PySem.W.nsIn K mainGlobals "_law_right" = some (some (.ref f25))) (l25 : K.lookup f25 = some ⟨oc25, od25, .func (PySem.W.fnOf "_law_right" "_law_right" (defArgs s__law_right) (defBody s__law_right) (defScope s__law_right) .none kV25 dc25 pm25 an25 cd25 ct25), sl25⟩) (c25 : PySem.W.codeIn K cd25 "_law_right" = true) (k25 : PySem.W.keepIn K (.ref f25) = true)
    {f26 : Addr} {od26 an26 : Option Addr} {sl26 : Array (Option Value)} {oc26 kV26 dc26 pm26 cd26 ct26 : Value} (a26 : PySem.W.nsIn K mainGlobals "law" = some (some (.ref f26))) (l26 : K.lookup f26 = some ⟨oc26, od26, .func (PySem.W.fnOf "law" "law" (defArgs s_law) (defBody s_law) (defScope s_law) .none kV26 dc26 pm26 an26 cd26 ct26), sl26⟩) (c26 : PySem.W.codeIn K cd26 "law" = true) (k26 : PySem.W.keepIn K (.ref f26) = true)
    (z0 : PySem.W.nsIn K mainGlobals "bool" = some none) (z1 : PySem.W.nsIn K mainGlobals "enumerate" = some none) (z2 : PySem.W.nsIn K mainGlobals "int" = some none) (z3 : PySem.W.nsIn K mainGlobals "isinstance" = some none) (z4 : PySem.W.nsIn K mainGlobals "len" = some none) (z5 : PySem.W.nsIn K mainGlobals "list" = some none) (z6 : PySem.W.nsIn K mainGlobals "max" = some none) (z7 : PySem.W.nsIn K mainGlobals "range" = some none) (z8 : PySem.W.nsIn K mainGlobals "reversed" = some none) (z9 : PySem.W.nsIn K mainGlobals "set" = some none) (z10 : PySem.W.nsIn K mainGlobals "sorted" = some none) (z11 : PySem.W.nsIn K mainGlobals "str" = some none) (z12 : PySem.W.nsIn K mainGlobals "sum" = some none) (z13 : PySem.W.nsIn K mainGlobals "tuple" = some none) (z14 : PySem.W.nsIn K mainGlobals "zip" = some none)
    {hA hB : Addr} {oA oB : Obj} {hz : Str} {htk : Tok} {nA nB : Nat} (aH : PySem.W.nsIn K mainGlobals "HOLE" = some (some (.ref hA))) (lA : K.lookup hA = some oA) (cA : oA.cls = .type "tuple") (dA : oA.data = .seq #[.str hz htk, .ref hB] nA) (eZ : hz = ⟨#[]⟩) (lB : K.lookup hB = some oB) (cB : oB.cls = .type "tuple") (dB : oB.data = .seq #[] nB) :
    ∃ fd : FuncData, (∀ (s : Shared) (v : Value), BindsTo s fd ⟨[v], []⟩ [("script", v)]) ∧ ∀ base : Heap, K.In base → base.Ns mainGlobals mg → FnOk l.prog w K mg base CX0 9 fa fd ["script"] (spLaw K) := by
  have e := hfa.symm.trans (PySem.W.mg_of X G a26)
  cases e
  have T : Txt mg := ⟨PySem.W.mg_none_of X G z0, PySem.W.mg_none_of X G z1, PySem.W.mg_none_of X G z2, PySem.W.mg_none_of X G z3, PySem.W.mg_none_of X G z4, PySem.W.mg_none_of X G z5, PySem.W.mg_none_of X G z6, PySem.W.mg_none_of X G z7, PySem.W.mg_none_of X G z8, PySem.W.mg_none_of X G z9, PySem.W.mg_none_of X G z10, PySem.W.mg_none_of X G z11, PySem.W.mg_none_of X G z12, PySem.W.mg_none_of X G z13, PySem.W.mg_none_of X G z14⟩
  have g_HOLE := LZ.hole_at X G aH lA cA dA eZ lB cB dB
  have D_marks_of : Df K mg "marks_of" s_marks_of := df_mk X G a0 l0 c0 k0
  have D_left_numbers : Df K mg "left_numbers" s_left_numbers := df_mk X G a1 l1 c1 k1
  have D_blocks_of : Df K mg "blocks_of" s_blocks_of := df_mk X G a2 l2 c2 k2
  have D_row_counts : Df K mg "row_counts" s_row_counts := df_mk X G a3 l3 c3 k3
  have D_row_pairs : Df K mg "row_pairs" s_row_pairs := df_mk X G a4 l4 c4 k4
  have D__law_draw : Df K mg "_law_draw" s__law_draw := df_mk X G a5 l5 c5 k5
  have D__law_urn : Df K mg "_law_urn" s__law_urn := df_mk X G a6 l6 c6 k6
  have D__law_copied : Df K mg "_law_copied" s__law_copied := df_mk X G a7 l7 c7 k7
  have D__law_walked : Df K mg "_law_walked" s__law_walked := df_mk X G a8 l8 c8 k8
  have D__law_trees : Df K mg "_law_trees" s__law_trees := df_mk X G a9 l9 c9 k9
  have D__law_first : Df K mg "_law_first" s__law_first := df_mk X G a10 l10 c10 k10
  have D__law_pressed_runs : Df K mg "_law_pressed_runs" s__law_pressed_runs := df_mk X G a11 l11 c11 k11
  have D__law_left_numbers : Df K mg "_law_left_numbers" s__law_left_numbers := df_mk X G a12 l12 c12 k12
  have D__law_pressed_pairs : Df K mg "_law_pressed_pairs" s__law_pressed_pairs := df_mk X G a13 l13 c13 k13
  have D_row_blocks : Df K mg "row_blocks" s_row_blocks := df_mk X G a14 l14 c14 k14
  have D_sides_of : Df K mg "sides_of" s_sides_of := df_mk X G a15 l15 c15 k15
  have D_number_row : Df K mg "number_row" s_number_row := df_mk X G a16 l16 c16 k16
  have D__law_word : Df K mg "_law_word" s__law_word := df_mk X G a17 l17 c17 k17
  have D__law_layers : Df K mg "_law_layers" s__law_layers := df_mk X G a18 l18 c18 k18
  have D__law_moved : Df K mg "_law_moved" s__law_moved := df_mk X G a19 l19 c19 k19
  have D_layers_of_form : Df K mg "layers_of_form" s_layers_of_form := df_mk X G a20 l20 c20 k20
  have D__law_shape : Df K mg "_law_shape" s__law_shape := df_mk X G a21 l21 c21 k21
  have D__law_renamed : Df K mg "_law_renamed" s__law_renamed := df_mk X G a22 l22 c22 k22
  have D__law_document : Df K mg "_law_document" s__law_document := df_mk X G a23 l23 c23 k23
  have D__law_like : Df K mg "_law_like" s__law_like := df_mk X G a24 l24 c24 k24
  have D__law_right : Df K mg "_law_right" s__law_right := df_mk X G a25 l25 c25 k25
  have FL := fun_mk (st := s_law) l26 c26 k26
  refine ⟨PySem.W.fnOf "law" "law" (defArgs s_law) (defBody s_law) (defScope s_law) .none kV26 dc26 pm26 an26 cd26 ct26, fun s v => .of_eq rfl, fun base _ _ => ?_⟩
  have c_marks_of := e_marks_of (P := l.prog) (w := w) (base := base) T D_marks_of g_HOLE 
  have c_left_numbers := e_left_numbers (P := l.prog) (w := w) (base := base) T D_left_numbers 
  have c_blocks_of := e_blocks_of (P := l.prog) (w := w) (base := base) T D_blocks_of 
  have c_row_counts := e_row_counts (P := l.prog) (w := w) (base := base) T D_row_counts 
  have c_row_pairs := e_row_pairs (P := l.prog) (w := w) (base := base) T D_row_pairs 
  have c__law_draw := e__law_draw (P := l.prog) (w := w) (base := base) T D__law_draw 
  have c__law_urn := e__law_urn (P := l.prog) (w := w) (base := base) T D__law_urn 
  have c__law_copied := e__law_copied (P := l.prog) (w := w) (base := base) T D__law_copied 
  have c__law_walked := e__law_walked (P := l.prog) (w := w) (base := base) T D__law_walked 
  have c__law_trees := e__law_trees (P := l.prog) (w := w) (base := base) T D__law_trees 
  have c__law_first := e__law_first (P := l.prog) (w := w) (base := base) T D__law_first 
  have c__law_pressed_runs := e__law_pressed_runs (P := l.prog) (w := w) (base := base) T D__law_pressed_runs 
  have c__law_left_numbers := e__law_left_numbers (P := l.prog) (w := w) (base := base) T D__law_left_numbers 
  have c__law_pressed_pairs := e__law_pressed_pairs (P := l.prog) (w := w) (base := base) T D__law_pressed_pairs 
  have c_row_blocks := e_row_blocks (P := l.prog) (w := w) (base := base) T D_row_blocks c_blocks_of
  have c_sides_of := e_sides_of (P := l.prog) (w := w) (base := base) T D_sides_of c_left_numbers c_row_counts
  have c_number_row := e_number_row (P := l.prog) (w := w) (base := base) T D_number_row c_marks_of
  have c__law_word := e__law_word (P := l.prog) (w := w) (base := base) T D__law_word c__law_draw
  have c__law_layers := e__law_layers (P := l.prog) (w := w) (base := base) T D__law_layers c__law_first c__law_left_numbers c__law_pressed_pairs c__law_pressed_runs
  have c__law_moved := e__law_moved (P := l.prog) (w := w) (base := base) T D__law_moved c__law_draw
  have c_layers_of_form := e_layers_of_form (P := l.prog) (w := w) (base := base) T D_layers_of_form c_marks_of c_number_row c_row_blocks c_row_pairs c_sides_of
  have c_k_layers_of_form := ek_layers_of_form (P := l.prog) (w := w) (base := base) T D_layers_of_form c_marks_of c_number_row c_row_blocks c_row_pairs c_sides_of
  have c__law_shape := e__law_shape (P := l.prog) (w := w) (base := base) T D__law_shape c__law_draw c__law_walked
  have c__law_renamed := e__law_renamed (P := l.prog) (w := w) (base := base) T D__law_renamed c__law_draw c__law_word
  have c__law_document := e__law_document (P := l.prog) (w := w) (base := base) T D__law_document c__law_copied c__law_draw c__law_shape c__law_word
  have c__law_like := e__law_like (P := l.prog) (w := w) (base := base) T D__law_like 
  have c__law_right := e__law_right (P := l.prog) (w := w) (base := base) T D__law_right c__law_layers c__law_like c__law_trees c_k_layers_of_form c_layers_of_form
  exact FL.ok sc_law len1 fun cdv A outer s H vs Q E hr h => ⟨_, d_law T c__law_document c__law_draw c__law_moved c__law_renamed c__law_right c__law_urn c__law_word hr, r_law vs H Q E h⟩
end K15
open PySem PySem.W PyProof.Rows
set_option maxHeartbeats 0 in
theorem PySem.Challenge.cw_longforms_k16_layers_of_form_holds : PySem.Challenge.rw_longforms_k16_layers_of_form.Holds := by
  w_on; o_law; k_head; (case hw => w_witness2)
  k_fill
  refine L2.walk_of (l := PySem.Challenge.rw_longforms_k16_layers_of_form) (n := 63) (k := 9) (x := "script") (CX := fun _ => L2.CX0) (sp := fun w => K15.spLaw _) rfl (by decide) rfl ⟨rfl, by decide, by decide⟩ (fun w h Y => PySem.W.kIn_of Y) ?F (fun _ _ a ns hl _ hS => ⟨_, rfl, a, ns, rfl, hS, fun _ => rfl⟩) (fun _ _ _ _ _ h => h)
  case F =>
    intro w mg fa h KX G hmg
    refine' K15.all_mk KX G hmg ?a0 ?l0 ?c0 ?k0 ?a1 ?l1 ?c1 ?k1 ?a2 ?l2 ?c2 ?k2 ?a3 ?l3 ?c3 ?k3 ?a4 ?l4 ?c4 ?k4 ?a5 ?l5 ?c5 ?k5 ?a6 ?l6 ?c6 ?k6 ?a7 ?l7 ?c7 ?k7 ?a8 ?l8 ?c8 ?k8 ?a9 ?l9 ?c9 ?k9 ?a10 ?l10 ?c10 ?k10 ?a11 ?l11 ?c11 ?k11 ?a12 ?l12 ?c12 ?k12 ?a13 ?l13 ?c13 ?k13 ?a14 ?l14 ?c14 ?k14 ?a15 ?l15 ?c15 ?k15 ?a16 ?l16 ?c16 ?k16 ?a17 ?l17 ?c17 ?k17 ?a18 ?l18 ?c18 ?k18 ?a19 ?l19 ?c19 ?k19 ?a20 ?l20 ?c20 ?k20 ?a21 ?l21 ?c21 ?k21 ?a22 ?l22 ?c22 ?k22 ?a23 ?l23 ?c23 ?k23 ?a24 ?l24 ?c24 ?k24 ?a25 ?l25 ?c25 ?k25 ?a26 ?l26 ?c26 ?k26 ?z0 ?z1 ?z2 ?z3 ?z4 ?z5 ?z6 ?z7 ?z8 ?z9 ?z10 ?z11 ?z12 ?z13 ?z14 ?aH ?lA ?cA ?dA ?eZ ?lB ?cB ?dB
    (case a0 => k_is); (case l0 => k_is); (case c0 => k_is); (case k0 => k_is); (case a1 => k_is); (case l1 => k_is); (case c1 => k_is); (case k1 => k_is); (case a2 => k_is); (case l2 => k_is); (case c2 => k_is); (case k2 => k_is); (case a3 => k_is); (case l3 => k_is); (case c3 => k_is); (case k3 => k_is); (case a4 => k_is); (case l4 => k_is); (case c4 => k_is); (case k4 => k_is); (case a5 => k_is); (case l5 => k_is); (case c5 => k_is); (case k5 => k_is); (case a6 => k_is); (case l6 => k_is); (case c6 => k_is); (case k6 => k_is); (case a7 => k_is); (case l7 => k_is); (case c7 => k_is); (case k7 => k_is); (case a8 => k_is); (case l8 => k_is); (case c8 => k_is); (case k8 => k_is); (case a9 => k_is); (case l9 => k_is); (case c9 => k_is); (case k9 => k_is); (case a10 => k_is); (case l10 => k_is); (case c10 => k_is); (case k10 => k_is); (case a11 => k_is); (case l11 => k_is); (case c11 => k_is); (case k11 => k_is); (case a12 => k_is); (case l12 => k_is); (case c12 => k_is); (case k12 => k_is); (case a13 => k_is); (case l13 => k_is); (case c13 => k_is); (case k13 => k_is); (case a14 => k_is); (case l14 => k_is); (case c14 => k_is); (case k14 => k_is); (case a15 => k_is); (case l15 => k_is); (case c15 => k_is); (case k15 => k_is); (case a16 => k_is); (case l16 => k_is); (case c16 => k_is); (case k16 => k_is); (case a17 => k_is); (case l17 => k_is); (case c17 => k_is); (case k17 => k_is); (case a18 => k_is); (case l18 => k_is); (case c18 => k_is); (case k18 => k_is); (case a19 => k_is); (case l19 => k_is); (case c19 => k_is); (case k19 => k_is); (case a20 => k_is); (case l20 => k_is); (case c20 => k_is); (case k20 => k_is); (case a21 => k_is); (case l21 => k_is); (case c21 => k_is); (case k21 => k_is); (case a22 => k_is); (case l22 => k_is); (case c22 => k_is); (case k22 => k_is); (case a23 => k_is); (case l23 => k_is); (case c23 => k_is); (case k23 => k_is); (case a24 => k_is); (case l24 => k_is); (case c24 => k_is); (case k24 => k_is); (case a25 => k_is); (case l25 => k_is); (case c25 => k_is); (case k25 => k_is); (case a26 => k_is); (case l26 => k_is); (case c26 => k_is); (case k26 => k_is); (case z0 => k_is); (case z1 => k_is); (case z2 => k_is); (case z3 => k_is); (case z4 => k_is); (case z5 => k_is); (case z6 => k_is); (case z7 => k_is); (case z8 => k_is); (case z9 => k_is); (case z10 => k_is); (case z11 => k_is); (case z12 => k_is); (case z13 => k_is); (case z14 => k_is); (case aH => k_is); (case lA => k_is); (case cA => rfl); (case dA => rfl); (case eZ => rfl); (case lB => k_is); (case cB => rfl); (case dB => rfl)

end
