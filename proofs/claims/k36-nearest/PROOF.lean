import PyProof.Rows.All
import Wide.All
import OpenK.AllK
import Wide.FinOn
import HandS.ForMost
import HandS.TupAny
import HandS.Conv
import HandS.IsInst
import HandS.Walk
import HandS.Flow
import HandS.Defaults
import KE.SortData
import HandS.Deep
import HandS.Strs
import HandS.DictTup
import KE.GoesMore
import KE.DataCmp
import PyProof.Draws
import PySem.Challenge.RW_rulerows_k36_whole_nearest_rows
import KE.KDictKeyed
import KE.KDictDisplayH
import KE.KDictCopyH
import HandS.Iter
import HandS.Head0
import HandS.Head1
import HandS.Head2
import HandS.HeadEnd
import HandS.HeadHook1
import HandS.HeadHook2
set_option Elab.async false
set_option maxRecDepth 100000
set_option linter.all false
/-! The plain mathematics of nearest: no program in sight. -/
namespace Nr

/-! ### lists compared -/
def lexI : List Int → List Int → Bool
  | [], [] => false
  | [], _ :: _ => true
  | _ :: _, [] => false
  | x :: xs, y :: ys => if x = y then lexI xs ys else decide (x < y)
abbrev Told := Int × List Int
def ltP (a b : Told) : Bool := if a.1 = b.1 then lexI a.2 b.2 else decide (a.1 < b.1)
def leP (a b : Told) : Bool := !ltP b a

theorem lexI_irrefl : ∀ a : List Int, lexI a a = false
  | [] => rfl
  | x :: xs => by unfold lexI; rw [if_pos rfl]; exact lexI_irrefl xs
theorem lexI_trans : ∀ a b c : List Int, lexI a b = true → lexI b c = true → lexI a c = true
  | [], [], _, h, _ => by simp [lexI] at h
  | [], _ :: _, [], _, h => by simp [lexI] at h
  | [], _ :: _, _ :: _, _, _ => rfl
  | _ :: _, [], _, h, _ => by simp [lexI] at h
  | _ :: _, _ :: _, [], _, h => by simp [lexI] at h
  | x :: xs, y :: ys, z :: zs, h1, h2 => by
    unfold lexI at h1 h2 ⊢
    by_cases e1 : x = y
    · subst e1
      rw [if_pos rfl] at h1
      by_cases e2 : x = z
      · subst e2
        rw [if_pos rfl] at h2 ⊢
        exact lexI_trans xs ys zs h1 h2
      · rw [if_neg e2] at h2 ⊢
        exact h2
    · rw [if_neg e1] at h1
      have l1 := of_decide_eq_true h1
      by_cases e2 : y = z
      · subst e2
        rw [if_neg e1]
        exact h1
      · rw [if_neg e2] at h2
        have l2 := of_decide_eq_true h2
        rw [if_neg (by omega)]
        exact decide_eq_true (by omega)
theorem lexI_tri : ∀ a b : List Int, lexI a b = false → lexI b a = false → a = b
  | [], [], _, _ => rfl
  | [], _ :: _, h, _ => by simp [lexI] at h
  | _ :: _, [], _, h => by simp [lexI] at h
  | x :: xs, y :: ys, h1, h2 => by
    unfold lexI at h1 h2
    by_cases e : x = y
    · subst e
      rw [if_pos rfl] at h1 h2
      rw [lexI_tri xs ys h1 h2]
    · rw [if_neg e] at h1
      rw [if_neg (Ne.symm e)] at h2
      have l1 := of_decide_eq_false h1
      have l2 := of_decide_eq_false h2
      omega
theorem lexI_snoc : ∀ (a b : List Int) (x : Int), a.length = b.length → lexI a b = true → lexI (a ++ [x]) (b ++ [x]) = true
  | [], [], _, _, h => by simp [lexI] at h
  | [], _ :: _, _, e, _ => by simp at e
  | _ :: _, [], _, e, _ => by simp at e
  | u :: us, v :: vs, x, e, h => by
    show lexI (u :: (us ++ [x])) (v :: (vs ++ [x])) = true
    unfold lexI at h ⊢
    by_cases q : u = v
    · subst q
      rw [if_pos rfl] at h ⊢
      exact lexI_snoc us vs x (by simpa using e) h
    · rw [if_neg q] at h ⊢
      exact h
theorem ltP_irrefl (a : Told) : ltP a a = false := by unfold ltP; rw [if_pos rfl]; exact lexI_irrefl _
theorem ltP_trans (a b c : Told) (h1 : ltP a b = true) (h2 : ltP b c = true) : ltP a c = true := by
  unfold ltP at *
  by_cases e1 : a.1 = b.1
  · rw [if_pos e1] at h1
    by_cases e2 : b.1 = c.1
    · rw [if_pos e2] at h2
      rw [if_pos (e1.trans e2)]
      exact lexI_trans _ _ _ h1 h2
    · rw [if_neg e2] at h2
      rw [if_neg (by rw [e1]; exact e2), e1]
      exact h2
  · rw [if_neg e1] at h1
    have l1 := of_decide_eq_true h1
    by_cases e2 : b.1 = c.1
    · rw [← e2, if_neg e1]
      exact h1
    · rw [if_neg e2] at h2
      have l2 := of_decide_eq_true h2
      rw [if_neg (by omega)]
      exact decide_eq_true (by omega)
theorem ltP_tri (a b : Told) (h1 : ltP a b = false) (h2 : ltP b a = false) : a = b := by
  obtain ⟨s, x⟩ := a
  obtain ⟨t, y⟩ := b
  unfold ltP at *
  simp only at *
  by_cases e : s = t
  · subst e
    rw [if_pos rfl] at h1 h2
    rw [lexI_tri _ _ h1 h2]
  · rw [if_neg e] at h1
    rw [if_neg (Ne.symm e)] at h2
    have l1 := of_decide_eq_false h1
    have l2 := of_decide_eq_false h2
    omega
theorem leP_refl (a : Told) : leP a a = true := by unfold leP; rw [ltP_irrefl]; rfl
theorem leP_of_lt {a b : Told} (h : ltP a b = true) : leP a b = true := by
  unfold leP
  cases q : ltP b a with
  | false => rfl
  | true =>
    have := ltP_trans _ _ _ h q
    rw [ltP_irrefl] at this
    cases this
theorem leP_cases {a b : Told} (h : leP a b = true) : ltP a b = true ∨ a = b := by
  cases q : ltP a b with
  | true => exact .inl rfl
  | false =>
    refine .inr (ltP_tri _ _ q ?_)
    unfold leP at h
    simpa using h
theorem leP_trans (a b c : Told) (h1 : leP a b = true) (h2 : leP b c = true) : leP a c = true := by
  rcases leP_cases h1 with l1 | rfl
  · rcases leP_cases h2 with l2 | rfl
    · exact leP_of_lt (ltP_trans _ _ _ l1 l2)
    · exact h1
  · exact h2
theorem leP_total (a b : Told) : (leP a b || leP b a) = true := by
  cases q : ltP b a with
  | false => unfold leP; rw [q]; rfl
  | true => rw [leP_of_lt q, Bool.or_true]
theorem leP_antisymm {a b : Told} (h1 : leP a b = true) (h2 : leP b a = true) : a = b := by
  rcases leP_cases h1 with l1 | e
  · unfold leP at h2
    rw [l1] at h2
    cases h2
  · exact e
theorem leP_snoc {s t d x : Int} {a b : List Int} (e : a.length = b.length) (h : leP (s, a) (t, b) = true) : leP (s + d, a ++ [x]) (t + d, b ++ [x]) = true := by
  rcases leP_cases h with l | q
  · refine leP_of_lt ?_
    unfold ltP at l ⊢
    simp only at l ⊢
    by_cases q : s = t
    · subst q
      rw [if_pos rfl] at l ⊢
      exact lexI_snoc _ _ _ e l
    · rw [if_neg q] at l
      rw [if_neg (by omega)]
      have := of_decide_eq_true l
      exact decide_eq_true (by omega)
  · obtain ⟨rfl, rfl⟩ := Prod.mk.inj q
    exact leP_refl _

/-! ### sorting ints -/
def sortI (l : List Int) : List Int := l.mergeSort fun a b => decide (a ≤ b)
theorem sortI_perm (l : List Int) : (sortI l).Perm l := List.mergeSort_perm _ _
theorem sortI_pw (l : List Int) : (sortI l).Pairwise (· ≤ ·) := by
  have h := List.pairwise_mergeSort (le := fun a b : Int => decide (a ≤ b)) (fun a b c h1 h2 => decide_eq_true (Int.le_trans (of_decide_eq_true h1) (of_decide_eq_true h2)))
    (fun a b => by
      by_cases h : a ≤ b
      · rw [decide_eq_true h]; rfl
      · rw [decide_eq_true (show b ≤ a by omega), Bool.or_true]) l
  exact h.imp fun h => of_decide_eq_true h
theorem sorted_one {l m : List Int} (p : l.Perm m) (h1 : l.Pairwise (· ≤ ·)) (h2 : m.Pairwise (· ≤ ·)) : l = m :=
  p.eq_of_pairwise (fun a b _ _ x y => Int.le_antisymm x y) h1 h2
theorem sortI_of {l m : List Int} (p : m.Perm l) (h : m.Pairwise (· ≤ ·)) : m = sortI l := sorted_one (p.trans (sortI_perm l).symm) h (sortI_pw l)
theorem sortI_congr {a b : List Int} (p : a.Perm b) : sortI a = sortI b := sortI_of ((sortI_perm a).trans p) (sortI_pw a)
theorem perm_of_sortI {a b : List Int} (e : sortI a = sortI b) : a.Perm b := (sortI_perm a).symm.trans (e ▸ sortI_perm b)

/-! ### tables -/
section
variable {κ β : Type} [DecidableEq κ]
def dget (kvs : List (κ × β)) (k : κ) : Option β := (kvs.find? fun kv => decide (kv.1 = k)).map (·.2)
def dput (kvs : List (κ × β)) (k : κ) (v : β) : List (κ × β) :=
  if (kvs.any fun kv => decide (kv.1 = k)) = true then kvs.map (fun kv => if kv.1 = k then (kv.1, v) else kv) else kvs ++ [(k, v)]
theorem dget_nil {k : κ} : dget ([] : List (κ × β)) k = none := rfl
theorem dget_pos {p : κ × β} {r : List (κ × β)} {k : κ} (e : p.1 = k) : dget (p :: r) k = some p.2 := by simp [dget, List.find?_cons, e]
theorem dget_neg {p : κ × β} {r : List (κ × β)} {k : κ} (e : ¬ p.1 = k) : dget (p :: r) k = dget r k := by simp [dget, List.find?_cons, e]
theorem dget_any (k : κ) : ∀ kvs : List (κ × β), (kvs.any fun kv => decide (kv.1 = k)) = (dget kvs k).isSome
  | [] => rfl
  | p :: r => by
    by_cases e : p.1 = k
    · rw [dget_pos e, List.any_cons, decide_eq_true e]; rfl
    · rw [dget_neg e, List.any_cons, decide_eq_false e, Bool.false_or, dget_any k r]
theorem dget_map (k j : κ) (y : β) : ∀ kvs : List (κ × β), dget (kvs.map fun kv => if kv.1 = k then (kv.1, y) else kv) j = (dget kvs j).map fun x => if j = k then y else x
  | [] => rfl
  | p :: r => by
    rw [List.map_cons]
    by_cases e : p.1 = k
    · rw [if_pos e]
      by_cases e2 : p.1 = j
      · rw [dget_pos (by exact e2), dget_pos e2]
        simp [← e2, e]
      · rw [dget_neg (by exact e2), dget_neg e2]
        exact dget_map k j y r
    · rw [if_neg e]
      by_cases e2 : p.1 = j
      · rw [dget_pos e2, dget_pos e2]
        simp [← e2, e]
      · rw [dget_neg e2, dget_neg e2]
        exact dget_map k j y r
theorem dget_snoc (k j : κ) (y : β) : ∀ kvs : List (κ × β), dget kvs k = none → dget (kvs ++ [(k, y)]) j = if j = k then some y else dget kvs j
  | [], _ => by
    by_cases e : j = k
    · rw [if_pos e, List.nil_append, dget_pos e.symm]
    · rw [if_neg e, List.nil_append, dget_neg (fun q => e q.symm)]
  | p :: r, h => by
    by_cases e : p.1 = k
    · rw [dget_pos e] at h; cases h
    · rw [dget_neg e] at h
      rw [List.cons_append]
      by_cases e2 : p.1 = j
      · rw [dget_pos e2, dget_pos e2, if_neg (by rw [← e2]; exact e)]
      · rw [dget_neg e2, dget_neg e2]
        exact dget_snoc k j y r h
theorem dget_put (kvs : List (κ × β)) (k j : κ) (y : β) : dget (dput kvs k y) j = if j = k then some y else dget kvs j := by
  unfold dput
  rw [dget_any]
  cases q : dget kvs k with
  | none =>
    rw [if_neg (by simp)]
    exact dget_snoc k j y kvs q
  | some z =>
    rw [if_pos (show (some z).isSome = true from rfl), dget_map]
    by_cases e : j = k
    · subst e
      rw [q, if_pos rfl]
      simp
    · rw [if_neg e]
      cases dget kvs j with
      | none => rfl
      | some x => simp [e]
theorem mem_dput {kvs : List (κ × β)} {k : κ} {v : β} {e : κ × β} (h : e ∈ dput kvs k v) : e ∈ kvs ∨ e = (k, v) := by
  unfold dput at h
  split at h
  · obtain ⟨a, ha, rfl⟩ := List.mem_map.mp h
    split
    · rename_i q
      exact .inr (by rw [q])
    · exact .inl ha
  · rcases List.mem_append.mp h with h | h
    · exact .inl h
    · exact .inr (by simpa using h)
theorem keys_dput (kvs : List (κ × β)) (k : κ) (v : β) : (dput kvs k v).map (·.1) = if (dget kvs k).isSome = true then kvs.map (·.1) else kvs.map (·.1) ++ [k] := by
  unfold dput
  rw [dget_any]
  split
  · rw [List.map_map]
    refine List.map_congr_left fun a _ => ?_
    show (if a.1 = k then (a.1, v) else a).1 = a.1
    split <;> rfl
  · rw [List.map_append]; rfl
theorem dget_mem {kvs : List (κ × β)} {k : κ} {v : β} (h : dget kvs k = some v) : (k, v) ∈ kvs := by
  unfold dget at h
  obtain ⟨e, he, rfl⟩ := Option.map_eq_some_iff.mp h
  have h1 := List.mem_of_find?_eq_some he
  have h2 := List.find?_some he
  have h3 : e.1 = k := of_decide_eq_true h2
  rw [← h3]
  exact h1
theorem dget_of_mem {k : κ} {v : β} : ∀ {kvs : List (κ × β)}, (kvs.map (·.1)).Nodup → (k, v) ∈ kvs → dget kvs k = some v
  | [], _, h => by cases h
  | p :: r, nd, h => by
    rw [List.map_cons, List.nodup_cons] at nd
    rcases List.mem_cons.mp h with h | h
    · subst h
      exact dget_pos rfl
    · rw [dget_neg, dget_of_mem nd.2 h]
      intro q
      exact nd.1 (List.mem_map.mpr ⟨_, h, q.symm⟩)
theorem dget_none_mem {kvs : List (κ × β)} {k : κ} (h : dget kvs k = none) : k ∉ kvs.map (·.1) := by
  intro hm
  obtain ⟨e, he, rfl⟩ := List.mem_map.mp hm
  unfold dget at h
  rw [Option.map_eq_none_iff, List.find?_eq_none] at h
  exact h e he (decide_eq_true rfl)
theorem nodup_dput {kvs : List (κ × β)} (k : κ) (v : β) (nd : (kvs.map (·.1)).Nodup) : ((dput kvs k v).map (·.1)).Nodup := by
  rw [keys_dput]
  split
  · exact nd
  · rename_i h
    have q : dget kvs k = none := by
      cases z : dget kvs k with
      | none => rfl
      | some _ => rw [z] at h; exact absurd rfl h
    rw [List.nodup_append]
    refine ⟨nd, by simp, fun a ha b hb => ?_⟩
    simp at hb
    subst hb
    intro e
    subst e
    exact dget_none_mem q ha
end

/-! ### the layers -/
abbrev Lay := List (List Int × Told)
def upd1 (fresh : Lay) (c : List Int × Told) : Lay :=
  match dget fresh c.1 with
  | none => dput fresh c.1 c.2
  | some v => if ltP c.2 v = true then dput fresh c.1 c.2 else fresh
theorem upd1_nd {f : Lay} (c : List Int × Told) (nd : (f.map (·.1)).Nodup) : ((upd1 f c).map (·.1)).Nodup := by
  unfold upd1
  split
  · exact nodup_dput _ _ nd
  · split
    · exact nodup_dput _ _ nd
    · exact nd
theorem upd1_mem {f : Lay} {c e : List Int × Told} (h : e ∈ upd1 f c) : e ∈ f ∨ e = c := by
  unfold upd1 at h
  split at h
  · exact mem_dput h
  · split at h
    · exact mem_dput h
    · exact .inl h
theorem upd1_own (f : Lay) (c : List Int × Told) : ∃ v, dget (upd1 f c) c.1 = some v ∧ leP v c.2 = true := by
  unfold upd1
  split
  · exact ⟨c.2, by rw [dget_put, if_pos rfl], leP_refl _⟩
  · rename_i v q
    split
    · exact ⟨c.2, by rw [dget_put, if_pos rfl], leP_refl _⟩
    · rename_i h
      refine ⟨v, q, ?_⟩
      unfold leP
      cases z : ltP c.2 v with
      | true => exact absurd z h
      | false => rfl
theorem upd1_old {f : Lay} (c : List Int × Told) {k : List Int} {v : Told} (h : dget f k = some v) : ∃ v', dget (upd1 f c) k = some v' ∧ leP v' v = true := by
  by_cases e : k = c.1
  · subst e
    unfold upd1
    rw [h]
    simp only
    split
    · rename_i q
      exact ⟨c.2, by rw [dget_put, if_pos rfl], leP_of_lt q⟩
    · exact ⟨v, h, leP_refl _⟩
  · refine ⟨v, ?_, leP_refl _⟩
    unfold upd1
    split
    · rw [dget_put, if_neg e]; exact h
    · split
      · rw [dget_put, if_neg e]; exact h
      · exact h
theorem fold_nd : ∀ (cs : Lay) (f : Lay), (f.map (·.1)).Nodup → ((cs.foldl upd1 f).map (·.1)).Nodup
  | [], _, nd => nd
  | c :: cs, f, nd => fold_nd cs (upd1 f c) (upd1_nd c nd)
theorem fold_mem {e : List Int × Told} : ∀ (cs : Lay) (f : Lay), e ∈ cs.foldl upd1 f → e ∈ f ∨ e ∈ cs
  | [], _, h => .inl h
  | c :: cs, f, h => by
    rcases fold_mem cs (upd1 f c) h with h | h
    · rcases upd1_mem h with h | h
      · exact .inl h
      · exact .inr (by rw [h]; exact List.mem_cons_self)
    · exact .inr (List.mem_cons_of_mem _ h)
theorem fold_old {k : List Int} : ∀ (cs : Lay) (f : Lay) (v : Told), dget f k = some v → ∃ v', dget (cs.foldl upd1 f) k = some v' ∧ leP v' v = true
  | [], _, v, h => ⟨v, h, leP_refl _⟩
  | c :: cs, f, v, h => by
    obtain ⟨v1, h1, l1⟩ := upd1_old c h
    obtain ⟨v2, h2, l2⟩ := fold_old cs (upd1 f c) v1 h1
    exact ⟨v2, h2, leP_trans _ _ _ l2 l1⟩
theorem fold_own {c : List Int × Told} : ∀ (cs : Lay) (f : Lay), c ∈ cs → ∃ v, dget (cs.foldl upd1 f) c.1 = some v ∧ leP v c.2 = true
  | d :: cs, f, h => by
    rcases List.mem_cons.mp h with rfl | h
    · obtain ⟨v1, h1, l1⟩ := upd1_own f c
      obtain ⟨v2, h2, l2⟩ := fold_old cs (upd1 f c) v1 h1
      exact ⟨v2, h2, leP_trans _ _ _ l2 l1⟩
    · exact fold_own cs (upd1 f d) h

section
variable (row : List Int) (ok : Nat → List Int → Int → Bool) (inc : List Int → Int → Int)
def cand (e : List Int × Told) (x : Int) : List Int × Told := (sortI (e.1 ++ [x]), (e.2.1 + inc e.1 x, e.2.2 ++ [x]))
def stepEntry (i : Nat) (e : List Int × Told) (fresh : Lay) : Lay := row.foldl (fun f x => if ok i e.1 x = true then upd1 f (cand inc e x) else f) fresh
def stepLayer (i : Nat) (layer : Lay) : Lay := layer.foldl (fun f e => stepEntry row ok inc i e f) []
def layerAt : Nat → Lay
  | 0 => [([], (0, []))]
  | i + 1 => stepLayer row ok inc i (layerAt i)
def cands (i : Nat) (layer : Lay) : Lay := layer.flatMap fun e => (row.filter (ok i e.1)).map (cand inc e)
theorem stepLayer_eq (i : Nat) (layer : Lay) : stepLayer row ok inc i layer = (cands row ok inc i layer).foldl upd1 [] := by
  unfold stepLayer cands
  rw [List.foldl_flatMap]
  congr 1
  funext f e
  unfold stepEntry
  rw [List.foldl_map, List.foldl_filter]
inductive Seq : Nat → List Int → Prop
  | nil : Seq 0 []
  | snoc {i : Nat} {a : List Int} {x : Int} : Seq i a → x ∈ row → ok i a x = true → Seq (i + 1) (a ++ [x])
def cost : List Int → List Int → Int
  | _, [] => 0
  | p, x :: xs => inc p x + cost (p ++ [x]) xs
theorem cost_snoc : ∀ (xs p : List Int) (x : Int), cost inc p (xs ++ [x]) = cost inc p xs + inc (p ++ xs) x
  | [], p, x => by
    show inc p x + 0 = 0 + inc (p ++ []) x
    rw [List.append_nil]
    omega
  | y :: ys, p, x => by
    show inc p y + cost inc (p ++ [y]) (ys ++ [x]) = inc p y + cost inc (p ++ [y]) ys + inc (p ++ y :: ys) x
    rw [cost_snoc ys (p ++ [y]) x, List.append_assoc]
    show _ + (_ + inc (p ++ y :: ys) x) = _
    omega
structure LInv (i : Nat) (layer : Lay) : Prop where
  nd : (layer.map (·.1)).Nodup
  ent : ∀ e ∈ layer, Seq row ok i e.2.2 ∧ e.2.1 = cost inc [] e.2.2 ∧ e.1 = sortI e.2.2
  all : ∀ b, Seq row ok i b → ∃ v, dget layer (sortI b) = some v ∧ leP v (cost inc [] b, b) = true
variable {row ok inc}
theorem Seq.len {i : Nat} {a : List Int} (h : Seq row ok i a) : a.length = i := by
  induction h with
  | nil => rfl
  | snoc _ _ _ ih => rw [List.length_append, ih]; rfl
theorem linv_step (hok : ∀ i p q x, p.Perm q → ok i p x = ok i q x) (hinc : ∀ p q x, p.Perm q → inc p x = inc q x) {i : Nat} {layer : Lay} (L : LInv row ok inc i layer) : LInv row ok inc (i + 1) (stepLayer row ok inc i layer) := by
  rw [stepLayer_eq]
  refine ⟨fold_nd _ _ List.nodup_nil, fun e he => ?_, fun b hb => ?_⟩
  · rcases fold_mem _ _ he with h | h
    · cases h
    · obtain ⟨e0, h0, h⟩ := List.mem_flatMap.mp h
      obtain ⟨x, hx, rfl⟩ := List.mem_map.mp h
      obtain ⟨hx1, hx2⟩ := List.mem_filter.mp hx
      obtain ⟨s, c, k⟩ := L.ent e0 h0
      have p : e0.1.Perm e0.2.2 := k ▸ sortI_perm _
      refine ⟨.snoc s hx1 (by rw [← hok i _ _ x p]; exact hx2), ?_, ?_⟩
      · have e1 : (cand inc e0 x).2.2 = e0.2.2 ++ [x] := rfl
        have e2 : (cand inc e0 x).2.1 = e0.2.1 + inc e0.1 x := rfl
        rw [e1, e2, cost_snoc, List.nil_append, c, hinc _ _ x p]
      · exact sortI_congr (p.append_right [x])
  · cases hb with
    | @snoc _ a x hs hx hk =>
      obtain ⟨v, hv, lv⟩ := L.all a hs
      have hm := dget_mem hv
      obtain ⟨s, c, k⟩ := L.ent _ hm
      have p : (sortI a).Perm a := sortI_perm a
      have hc : cand inc (sortI a, v) x ∈ cands row ok inc i layer :=
        List.mem_flatMap.mpr ⟨_, hm, List.mem_map.mpr ⟨x, List.mem_filter.mpr ⟨hx, by rw [hok i _ _ x p]; exact hk⟩, rfl⟩⟩
      obtain ⟨w, hw, lw⟩ := fold_own (cands row ok inc i layer) [] hc
      have e1 : (cand inc (sortI a, v) x).1 = sortI (a ++ [x]) := sortI_congr (p.append_right [x])
      rw [e1] at hw
      refine ⟨w, hw, leP_trans _ _ _ lw ?_⟩
      show leP (v.1 + inc (sortI a) x, v.2 ++ [x]) _ = true
      rw [cost_snoc, List.nil_append, hinc _ _ x p]
      exact leP_snoc (by rw [s.len, hs.len]) lv
theorem linv_at (hok : ∀ i p q x, p.Perm q → ok i p x = ok i q x) (hinc : ∀ p q x, p.Perm q → inc p x = inc q x) : ∀ i, LInv row ok inc i (layerAt row ok inc i)
  | 0 => by
    refine ⟨by simp [layerAt], fun e he => ?_, fun b hb => ?_⟩
    · have : e = ([], (0, [])) := by simpa [layerAt] using he
      subst this
      exact ⟨.nil, rfl, by simp [sortI]⟩
    · cases hb
      exact ⟨(0, []), by simp [layerAt, dget, sortI], leP_refl _⟩
  | i + 1 => linv_step hok hinc (linv_at hok hinc i)
end
end Nr
set_option Elab.async false
set_option maxRecDepth 100000
set_option linter.all false
/-! nearest answers as the law says: in plain lists. -/
namespace Nr
def sortP (l : List Told) : List Told := l.mergeSort leP
theorem sortP_mem {l : List Told} {x : Told} : x ∈ sortP l ↔ x ∈ l := (List.mergeSort_perm l leP).mem_iff
theorem sortP_pw (l : List Told) : (sortP l).Pairwise (fun a b => leP a b = true) := List.pairwise_mergeSort leP_trans leP_total l
theorem sortP_head {l : List Told} {x : Told} (hx : x ∈ l) (hm : ∀ y ∈ l, leP x y = true) : (sortP l).head? = some x := by
  cases q : sortP l with
  | nil =>
    have := sortP_mem.mpr hx
    rw [q] at this; cases this
  | cons h t =>
    have hh : h ∈ l := sortP_mem.mp (by rw [q]; exact List.mem_cons_self)
    have pw := sortP_pw l
    rw [q, List.pairwise_cons] at pw
    have hx' : x ∈ h :: t := by rw [← q]; exact sortP_mem.mpr hx
    have l1 : leP h x = true := by
      rcases List.mem_cons.mp hx' with e | e
      · rw [e]; exact leP_refl _
      · exact pw.1 x e
    rw [leP_antisymm l1 (hm h hh)]
    rfl
theorem sortP_nil : sortP [] = [] := by simp [sortP]

/-! ### rules, kinds -/
def rg (n : Nat) : List Int := (List.range n).map fun i : Nat => (i : Int)
theorem mem_rg {n : Nat} {x : Int} : x ∈ rg n ↔ 0 ≤ x ∧ x < n := by
  unfold rg
  rw [List.mem_map]
  constructor
  · rintro ⟨i, hi, rfl⟩
    have := List.mem_range.mp hi
    omega
  · rintro ⟨h1, h2⟩
    exact ⟨x.toNat, List.mem_range.mpr (by omega), by omega⟩
theorem rg_len (n : Nat) : (rg n).length = n := by simp [rg]
/-- matching numbers, the action wanted, the first case -/
abbrev Kind := List Int × Int × List Int
section
variable (actf : Int → Int) (rest : Int) (ks : List Kind)
def actBy (row m : List Int) : Int := match row.find? (fun n => decide (n ∈ m)) with
  | some n => actf n
  | none => rest
def wrongK (row : List Int) : Option (List Int) := (ks.find? fun k => decide (actBy actf rest row k.1 ≠ k.2.1)).map (·.2.2)
def barredM (placed : List Int) (n : Int) : Option (List Int) :=
  (ks.find? fun k => (decide (n ∈ k.1) && decide (k.2.1 ≠ actf n)) && !(placed.any fun o => decide (o ∈ k.1))).map (·.2.2)
def okM (number place : Int) (i : Nat) (placed : List Int) (one : Int) : Bool :=
  !decide (one ∈ placed) && ((decide (one = number) == decide ((i : Int) = place)) && (barredM actf ks placed one).isNone)
def incM (row placed : List Int) (one : Int) : Int := (((row.takeWhile fun o => !decide (o = one)).filter fun o => !decide (o ∈ placed)).length : Nat)
def layersM (row : List Int) (number place : Int) (i : Nat) : Lay := layerAt row (okM actf ks number place) (incM row) i
def nearestM (row : List Int) (number place : Int) : Option (List Int) := ((sortP ((layersM actf ks row number place row.length).map (·.2))).head?).map (·.2)
def rowsM (n : Nat) : Nat → List (List Int)
  | 0 => [[]]
  | i + 1 => (rowsM n i).flatMap fun r => ((rg n).filter fun o => !decide (o ∈ r)).map fun o => r ++ [o]
def rightsM (n : Nat) : List (List Int) := (rowsM n n).filter fun r => (wrongK actf rest ks r).isNone
end
def distL (other : List Int) : List Int → Int
  | [] => 0
  | x :: xs => ((xs.filter fun y => decide (other.idxOf y < other.idxOf x)).length : Nat) + distL other xs

theorem any_perm {p q : List Int} (h : p.Perm q) (f : Int → Bool) : p.any f = q.any f := by
  rw [Bool.eq_iff_iff, List.any_eq_true, List.any_eq_true]
  exact ⟨fun ⟨x, hx, e⟩ => ⟨x, h.mem_iff.mp hx, e⟩, fun ⟨x, hx, e⟩ => ⟨x, h.mem_iff.mpr hx, e⟩⟩
theorem mem_perm {p q : List Int} (h : p.Perm q) (x : Int) : decide (x ∈ p) = decide (x ∈ q) := decide_eq_decide.mpr h.mem_iff
theorem barred_perm (actf : Int → Int) (ks : List Kind) {p q : List Int} (h : p.Perm q) (x : Int) : barredM actf ks p x = barredM actf ks q x := by
  unfold barredM
  congr 2
  funext k
  rw [any_perm h]
theorem ok_perm (actf : Int → Int) (ks : List Kind) (number place : Int) (i : Nat) (p q : List Int) (x : Int) (h : p.Perm q) : okM actf ks number place i p x = okM actf ks number place i q x := by
  unfold okM
  rw [mem_perm h, barred_perm actf ks h]
theorem inc_perm (row p q : List Int) (x : Int) (h : p.Perm q) : incM row p x = incM row q x := by
  unfold incM
  congr 3
  funext o
  rw [mem_perm h]

/-! ### cost is distance -/
theorem inc_out {x y : Int} (hxy : x ≠ y) (p : List Int) : ∀ (r1 r2 : List Int), x ∉ r1 → x ∉ r2 → incM (r1 ++ x :: r2) (x :: p) y = incM (r1 ++ r2) p y
  | [], r2, _, h2 => by
    unfold incM
    rw [List.nil_append, List.nil_append, List.takeWhile_cons, if_pos (by simp [hxy]), List.filter_cons, if_neg (by simp)]
    congr 2
    refine List.filter_congr fun o ho => ?_
    have : o ≠ x := fun e => h2 (e ▸ (List.takeWhile_sublist _).subset ho)
    simp [this]
  | z :: r1, r2, h1, h2 => by
    have hz : z ≠ x := fun e => h1 (e ▸ List.mem_cons_self)
    have ih := inc_out hxy p r1 r2 (fun h => h1 (List.mem_cons_of_mem _ h)) h2
    unfold incM at ih ⊢
    rw [List.cons_append, List.cons_append, List.takeWhile_cons, List.takeWhile_cons]
    by_cases e : z = y
    · subst e
      simp
    · rw [if_pos (by simp [e]), if_pos (by simp [e]), List.filter_cons, List.filter_cons]
      by_cases q : z ∈ p
      · rw [if_neg (by simp [q]), if_neg (by simp [q])]
        exact ih
      · rw [if_pos (by simp [q, hz]), if_pos (by simp [q]), List.length_cons, List.length_cons]
        omega
theorem cost_out {x : Int} (r1 r2 : List Int) (h1 : x ∉ r1) (h2 : x ∉ r2) : ∀ (ys p : List Int), x ∉ ys → cost (incM (r1 ++ x :: r2)) (x :: p) ys = cost (incM (r1 ++ r2)) p ys
  | [], _, _ => rfl
  | y :: ys, p, h => by
    show incM (r1 ++ x :: r2) (x :: p) y + cost (incM (r1 ++ x :: r2)) (x :: (p ++ [y])) ys = incM (r1 ++ r2) p y + cost (incM (r1 ++ r2)) (p ++ [y]) ys
    rw [inc_out (show x ≠ y from fun e => h (by rw [e]; exact List.mem_cons_self)) p r1 r2 h1 h2, cost_out r1 r2 h1 h2 ys (p ++ [y]) fun q => h (List.mem_cons_of_mem _ q)]
theorem idx_other {x y : Int} (b : List Int) (h : y ≠ x) : (x :: b).idxOf y = b.idxOf y + 1 := by
  rw [List.idxOf_cons]
  have : (x == y) = false := beq_eq_false_iff_ne.mpr (Ne.symm h)
  rw [this]
  rfl
theorem idx_self (x : Int) (b : List Int) : (x :: b).idxOf x = 0 := by
  rw [List.idxOf_cons, beq_self_eq_true]
  rfl
theorem dist_skip {x : Int} (b : List Int) : ∀ l : List Int, x ∉ l → distL (x :: b) l = distL b l
  | [], _ => rfl
  | z :: l, h => by
    have hz : z ≠ x := fun e => h (e ▸ List.mem_cons_self)
    have hl : x ∉ l := fun q => h (List.mem_cons_of_mem _ q)
    unfold distL
    rw [dist_skip b l hl]
    congr 3
    refine List.filter_congr fun y hy => ?_
    have hy' : y ≠ x := fun e => hl (e ▸ hy)
    rw [idx_other b hz, idx_other b hy']
    exact decide_eq_decide.mpr (by omega)
theorem dist_front {x : Int} (b : List Int) (r2 : List Int) (h2 : x ∉ r2) : ∀ r1 : List Int, x ∉ r1 → distL (x :: b) (r1 ++ x :: r2) = (r1.length : Nat) + distL b (r1 ++ r2)
  | [], _ => by
    rw [List.nil_append, List.nil_append]
    show (((r2.filter fun y => decide ((x :: b).idxOf y < (x :: b).idxOf x)).length : Nat) : Int) + distL (x :: b) r2 = _
    rw [dist_skip b r2 h2, idx_self]
    have : (r2.filter fun y => decide ((x :: b).idxOf y < 0)) = [] := List.filter_eq_nil_iff.mpr fun a _ => by simp
    rw [this, List.length_nil]
    all_goals rfl
  | z :: r1, h => by
    have hz : z ≠ x := fun e => h (by rw [e]; exact List.mem_cons_self)
    have hr : x ∉ r1 := fun q => h (List.mem_cons_of_mem _ q)
    rw [List.cons_append, List.cons_append]
    show ((((r1 ++ x :: r2).filter fun y => decide ((x :: b).idxOf y < (x :: b).idxOf z)).length : Nat) : Int) + distL (x :: b) (r1 ++ x :: r2) = ((z :: r1).length : Nat) + ((((r1 ++ r2).filter fun y => decide (b.idxOf y < b.idxOf z)).length : Nat) + distL b (r1 ++ r2))
    rw [dist_front b r2 h2 r1 hr]
    have e : ((r1 ++ x :: r2).filter fun y => decide ((x :: b).idxOf y < (x :: b).idxOf z)).length = ((r1 ++ r2).filter fun y => decide (b.idxOf y < b.idxOf z)).length + 1 := by
      rw [List.filter_append, List.filter_append, List.filter_cons, idx_self, idx_other b hz, if_pos (decide_eq_true (by omega))]
      have f : ∀ l : List Int, x ∉ l → (l.filter fun y => decide ((x :: b).idxOf y < b.idxOf z + 1)) = l.filter fun y => decide (b.idxOf y < b.idxOf z) := fun l hl => List.filter_congr fun y hy => by
        rw [idx_other b (show y ≠ x from fun e => hl (by rw [← e]; exact hy))]
        exact decide_eq_decide.mpr (by omega)
      rw [f r1 hr, f r2 h2, List.length_append, List.length_append, List.length_cons]
      omega
    rw [e, List.length_cons]
    omega
theorem perm_split {x : Int} {b row : List Int} (p : (x :: b).Perm row) (nd : row.Nodup) : ∃ r1 r2, row = r1 ++ x :: r2 ∧ x ∉ r1 ∧ x ∉ r2 ∧ b.Perm (r1 ++ r2) ∧ (r1 ++ r2).Nodup := by
  obtain ⟨r1, r2, rfl⟩ := List.append_of_mem (p.mem_iff.mp List.mem_cons_self)
  have p2 : (x :: (r1 ++ r2)).Perm (r1 ++ x :: r2) := List.perm_middle.symm
  have nd2 := p2.nodup_iff.mpr nd
  rw [List.nodup_cons] at nd2
  exact ⟨r1, r2, rfl, fun h => nd2.1 (List.mem_append_left _ h), fun h => nd2.1 (List.mem_append_right _ h), (p.trans p2.symm).cons_inv, nd2.2⟩
theorem inc_first (x : Int) (r2 : List Int) : ∀ r1 : List Int, x ∉ r1 → incM (r1 ++ x :: r2) [] x = (r1.length : Nat)
  | [], _ => by
    unfold incM
    rw [List.nil_append, List.takeWhile_cons, if_neg (by simp)]
    rfl
  | z :: r1, h => by
    have hz : z ≠ x := fun e => h (e ▸ List.mem_cons_self)
    have ih := inc_first x r2 r1 fun q => h (List.mem_cons_of_mem _ q)
    unfold incM at ih ⊢
    rw [List.cons_append, List.takeWhile_cons, if_pos (by simp [hz]), List.filter_cons, if_pos (by simp), List.length_cons, List.length_cons]
    omega
theorem cost_dist : ∀ (b row : List Int), b.Perm row → row.Nodup → cost (incM row) [] b = distL b row
  | [], row, p, _ => by
    have : row = [] := p.symm.eq_nil
    subst this
    rfl
  | x :: b, row, p, nd => by
    obtain ⟨r1, r2, rfl, h1, h2, p', nd'⟩ := perm_split p nd
    have nb : x ∉ b := fun h => (List.mem_append.mp (p'.mem_iff.mp h)).elim h1 h2
    show incM (r1 ++ x :: r2) [] x + cost (incM (r1 ++ x :: r2)) [x] b = _
    rw [inc_first x r2 r1 h1, dist_front b r2 h2 r1 h1, cost_out r1 r2 h1 h2 b [] nb, cost_dist b (r1 ++ r2) p' nd']
theorem dist_nonneg (b : List Int) : ∀ row : List Int, 0 ≤ distL b row
  | [] => by show (0 : Int) ≤ 0; omega
  | x :: r => by
    have := dist_nonneg b r
    unfold distL
    omega
theorem dist_zero : ∀ (b row : List Int), b.Perm row → row.Nodup → distL b row = 0 → b = row
  | [], row, p, _, _ => p.symm.eq_nil.symm
  | z :: b, [], p, _, _ => by have := p.eq_nil; cases this
  | z :: b, x :: r, p, nd, h => by
    unfold distL at h
    have h0 := dist_nonneg (z :: b) r
    have hl : (r.filter fun y => decide ((z :: b).idxOf y < (z :: b).idxOf x)).length = 0 := by omega
    have hf := List.filter_eq_nil_iff.mp (List.length_eq_zero_iff.mp hl)
    have e : z = x := by
      by_cases e : z = x
      · exact e
      · have hz : z ∈ r := by
          rcases List.mem_cons.mp (p.mem_iff.mp (List.mem_cons_self (a := z) (l := b))) with q | q
          · exact absurd q e
          · exact q
        have := hf z hz
        rw [idx_self, idx_other b (fun q => e q.symm)] at this
        exact absurd (decide_eq_true (by omega)) this
    subst e
    rw [List.nodup_cons] at nd
    have h2 : distL (z :: b) r = 0 := by omega
    rw [dist_skip b r nd.1] at h2
    rw [dist_zero b r p.cons_inv nd.2 h2]
theorem dist_self (row : List Int) (nd : row.Nodup) : distL row row = 0 := by
  induction row with
  | nil => rfl
  | cons x r ih =>
    rw [List.nodup_cons] at nd
    have := dist_front (x := x) r r nd.1 [] (by simp)
    rw [List.nil_append, List.nil_append, ih nd.2] at this
    simpa using this

/-! ### right rows are the sequences of ready rules -/
theorem snoc_cases {α : Type} {a p q : List α} {x y : α} (h : a ++ [x] = p ++ y :: q) : (q = [] ∧ p = a ∧ y = x) ∨ ∃ q', q = q' ++ [x] ∧ a = p ++ y :: q' := by
  rcases List.eq_nil_or_concat q with rfl | ⟨q', z, rfl⟩
  · have h1 := List.append_inj' (s₁ := a) (t₁ := [x]) (s₂ := p) (t₂ := [y]) h rfl
    exact .inl ⟨rfl, h1.1.symm, by simpa using h1.2.symm⟩
  · rw [show p ++ y :: (q'.concat z) = (p ++ y :: q') ++ [z] by simp] at h
    have h1 := List.append_inj' (s₁ := a) (t₁ := [x]) (s₂ := p ++ y :: q') (t₂ := [z]) h rfl
    have h2 : x = z := by simpa using h1.2
    exact .inr ⟨q', by simp [h2], h1.1⟩
theorem rev_ind {α : Type} {C : List α → Prop} (h0 : C []) (h1 : ∀ a x, C a → C (a ++ [x])) (l : List α) : C l := by
  have : ∀ n (l : List α), l.length = n → C l := by
    intro n
    induction n with
    | zero => intro l h; rw [List.length_eq_zero_iff.mp h]; exact h0
    | succ n ih =>
      intro l h
      rcases List.eq_nil_or_concat l with rfl | ⟨a, x, rfl⟩
      · exact h0
      · rw [List.concat_eq_append] at h ⊢
        rw [List.length_append] at h
        exact h1 a x (ih a (by simpa using h))
  exact this _ l rfl
section
variable {row : List Int} {ok : Nat → List Int → Int → Bool}
theorem seq_good {i : Nat} {a : List Int} (h : Seq row ok i a) : ∀ p x q, a = p ++ x :: q → ok p.length p x = true ∧ x ∈ row := by
  induction h with
  | nil => intro p x q h; simp at h
  | @snoc i a y hs hy hk ih =>
    intro p x q h
    rcases snoc_cases h with ⟨rfl, rfl, rfl⟩ | ⟨q', rfl, e⟩
    · rw [hs.len]; exact ⟨hk, hy⟩
    · exact ih p x q' e
theorem good_seq : ∀ a : List Int, (∀ p x q, a = p ++ x :: q → ok p.length p x = true ∧ x ∈ row) → Seq row ok a.length a := by
  refine rev_ind (fun _ => .nil) fun a x ih h => ?_
  rw [List.length_append]
  have hx := h a x [] rfl
  exact .snoc (ih fun p y q e => h p y (q ++ [x]) (by rw [e]; simp)) hx.2 hx.1
end
theorem rows_mem {n : Nat} : ∀ {i : Nat} {b : List Int}, b ∈ rowsM n i ↔ b.length = i ∧ b.Nodup ∧ ∀ x ∈ b, x ∈ rg n
  | 0, b => by
    show b ∈ [[]] ↔ _
    constructor
    · intro h
      have : b = [] := by simpa using h
      subst this
      exact ⟨rfl, List.nodup_nil, fun _ h => nomatch h⟩
    · rintro ⟨h, _⟩
      rw [List.length_eq_zero_iff.mp h]
      exact List.mem_singleton.mpr rfl
  | i + 1, b => by
    show b ∈ (rowsM n i).flatMap _ ↔ _
    rw [List.mem_flatMap]
    constructor
    · rintro ⟨r, hr, hb⟩
      obtain ⟨o, ho, rfl⟩ := List.mem_map.mp hb
      obtain ⟨h1, h2⟩ := List.mem_filter.mp ho
      obtain ⟨l, nd, hs⟩ := rows_mem.mp hr
      have no : o ∉ r := by simpa using h2
      refine ⟨by rw [List.length_append, l]; rfl, List.nodup_append.mpr ⟨nd, by simp, fun a ha b hb e => ?_⟩, fun x hx => ?_⟩
      · have : b = o := by simpa using hb
        subst this; subst e
        exact no ha
      · rcases List.mem_append.mp hx with hx | hx
        · exact hs x hx
        · have : x = o := by simpa using hx
          rw [this]; exact h1
    · rintro ⟨l, nd, hs⟩
      rcases List.eq_nil_or_concat b with rfl | ⟨r, o, rfl⟩
      · cases l
      · rw [List.concat_eq_append] at *
        rw [List.length_append] at l
        obtain ⟨nd1, _, nd2⟩ := List.nodup_append.mp nd
        refine ⟨r, rows_mem.mpr ⟨by simpa using l, nd1, fun x hx => hs x (List.mem_append_left _ hx)⟩, List.mem_map.mpr ⟨o, List.mem_filter.mpr ⟨hs o (by simp), ?_⟩, rfl⟩⟩
        have : o ∉ r := fun h => nd2 o h o (by simp) rfl
        simp [this]
theorem perm_of : ∀ (a c : List Int), a.Nodup → (∀ x ∈ a, x ∈ c) → c.length ≤ a.length → a.Perm c
  | [], c, _, _, h => by
    have : c = [] := List.length_eq_zero_iff.mp (by simpa using h)
    rw [this]
  | x :: a, c, nd, hs, h => by
    rw [List.nodup_cons] at nd
    obtain ⟨c1, c2, rfl⟩ := List.append_of_mem (hs x List.mem_cons_self)
    have p : a.Perm (c1 ++ c2) := perm_of a (c1 ++ c2) nd.2 (fun y hy => by
      rcases List.mem_append.mp (hs y (List.mem_cons_of_mem _ hy)) with q | q
      · exact List.mem_append_left _ q
      · rcases List.mem_cons.mp q with q | q
        · exact absurd (q ▸ hy) nd.1
        · exact List.mem_append_right _ q) (by simp at h ⊢; omega)
    exact (p.cons x).trans List.perm_middle.symm
theorem rg_perm {n : Nat} {b : List Int} (h : b ∈ rowsM n n) : b.Perm (rg n) := by
  obtain ⟨l, nd, hs⟩ := rows_mem.mp h
  exact perm_of b (rg n) nd hs (by rw [rg_len, l]; exact Nat.le_refl _)
section
variable {actf : Int → Int} {rest : Int} {ks : List Kind}
theorem wrong_none {row : List Int} : wrongK actf rest ks row = none ↔ ∀ k ∈ ks, actBy actf rest row k.1 = k.2.1 := by
  unfold wrongK
  rw [Option.map_eq_none_iff, List.find?_eq_none]
  constructor
  · intro h k hk
    have := h k hk
    simpa using this
  · intro h k hk
    simp [h k hk]
theorem barred_none {p : List Int} {x : Int} : barredM actf ks p x = none ↔ ∀ k ∈ ks, x ∈ k.1 → k.2.1 ≠ actf x → ∃ o ∈ p, o ∈ k.1 := by
  unfold barredM
  rw [Option.map_eq_none_iff, List.find?_eq_none]
  constructor
  · intro h k hk h1 h2
    have := h k hk
    simpa [h1, h2] using this
  · intro h k hk q
    simp only [Bool.and_eq_true, decide_eq_true_eq, Bool.not_eq_true', List.any_eq_false] at q
    obtain ⟨o, ho, h3⟩ := h k hk q.1.1 q.1.2
    exact q.2 o ho h3
theorem find_split {f : Int → Bool} {x : Int} : ∀ {l : List Int}, l.find? f = some x → ∃ p q, l = p ++ x :: q ∧ f x = true ∧ ∀ y ∈ p, f y = false
  | [], h => by cases h
  | y :: l, h => by
    rw [List.find?_cons] at h
    cases e : f y with
    | true =>
      rw [e] at h
      have : y = x := Option.some.inj h
      subst this
      exact ⟨[], l, rfl, e, fun _ h => nomatch h⟩
    | false =>
      rw [e] at h
      obtain ⟨p, q, rfl, h1, h2⟩ := find_split h
      refine ⟨y :: p, q, rfl, h1, fun z hz => ?_⟩
      rcases List.mem_cons.mp hz with rfl | hz
      · exact e
      · exact h2 z hz
theorem find_at {f : Int → Bool} {x : Int} (p q : List Int) (hx : f x = true) (hp : ∀ y ∈ p, f y = false) : (p ++ x :: q).find? f = some x := by
  rw [List.find?_append, List.find?_eq_none.mpr (fun y hy => by rw [hp y hy]; decide), List.find?_cons, hx]
  rfl
theorem actBy_of {row m : List Int} {x : Int} (h : row.find? (fun n => decide (n ∈ m)) = some x) : actBy actf rest row m = actf x := by unfold actBy; rw [h]
theorem actBy_none {row m : List Int} (h : row.find? (fun n => decide (n ∈ m)) = none) : actBy actf rest row m = rest := by unfold actBy; rw [h]
variable {n : Nat} {row : List Int} {number place : Int}
theorem right_seq (hr : row ∈ rowsM n n) (hw : wrongK actf rest ks row = none) (hp : 0 ≤ place ∧ place < n) (b : List Int) :
    (b ∈ rowsM n n ∧ wrongK actf rest ks b = none ∧ b.getD place.toNat 0 = number) ↔ Seq row (okM actf ks number place) n b := by
  have rp := rg_perm hr
  constructor
  · rintro ⟨hb, hwb, hn⟩
    have bp := rg_perm hb
    obtain ⟨l, nd, hs⟩ := rows_mem.mp hb
    have g := good_seq (row := row) (ok := okM actf ks number place) b fun p x q e => ?_
    · rw [l] at g; exact g
    · refine ⟨?_, rp.mem_iff.mpr (hs x (by rw [e]; simp))⟩
      have nx : x ∉ p := fun h => by
        rw [e] at nd
        exact (List.nodup_append.mp nd).2.2 x h x List.mem_cons_self rfl
      have hnum : (x = number) ↔ ((p.length : Int) = place) := by
        constructor
        · intro hx
          have h1 : b[p.length]? = some x := by rw [e]; simp
          have h2 : b[place.toNat]? = some x := by
            rw [hx, ← hn, List.getD_eq_getElem?_getD, List.getElem?_eq_getElem (by omega)]
            rfl
          have h3 : p.length < b.length := by rw [e]; simp
          have h4 : place.toNat < b.length := by omega
          rw [List.getElem?_eq_getElem h3] at h1
          rw [List.getElem?_eq_getElem h4] at h2
          have := (List.getElem_inj nd).mp ((Option.some.inj h1).trans (Option.some.inj h2).symm)
          omega
        · intro hx
          rw [← hn, ← hx, e]
          simp
      have hb : barredM actf ks p x = none := barred_none.mpr fun k hk h1 h2 => by
        by_cases q1 : ∃ o ∈ p, o ∈ k.1
        · exact q1
        · refine absurd ?_ (fun h => h2 (Eq.symm h))
          rw [← wrong_none.mp hwb k hk]
          refine (actBy_of ?_).symm
          rw [e]
          exact find_at p q (decide_eq_true h1) fun y hy => decide_eq_false fun h => q1 ⟨y, hy, h⟩
      unfold okM
      rw [hb, decide_eq_false nx, show decide (x = number) = decide ((p.length : Int) = place) from decide_eq_decide.mpr hnum]
      simp
  · intro hs
    have g := seq_good hs
    have l := hs.len
    have sub : ∀ x ∈ b, x ∈ row := fun x hx => by
      obtain ⟨p, q, e⟩ := List.append_of_mem hx
      exact (g p x q e).2
    have nd : b.Nodup := by
      clear l sub
      revert hs
      intro hs
      have : ∀ a : List Int, (∀ p x q, a = p ++ x :: q → okM actf ks number place p.length p x = true ∧ x ∈ row) → a.Nodup := by
        refine rev_ind (fun _ => List.nodup_nil) fun a x ih h => ?_
        have hx := (h a x [] rfl).1
        unfold okM at hx
        simp only [Bool.and_eq_true, Bool.not_eq_true', decide_eq_false_iff_not] at hx
        refine List.nodup_append.mpr ⟨ih fun p y q e => h p y (q ++ [x]) (by rw [e]; simp), by simp, fun y hy z hz e => ?_⟩
        have : z = x := by simpa using hz
        subst this; subst e
        exact hx.1 hy
      exact this b g
    have hb : b ∈ rowsM n n := rows_mem.mpr ⟨l, nd, fun x hx => rp.mem_iff.mp (sub x hx)⟩
    refine ⟨hb, wrong_none.mpr fun k hk => ?_, ?_⟩
    · have pp : b.Perm row := (rg_perm hb).trans rp.symm
      cases q : b.find? (fun n => decide (n ∈ k.1)) with
      | none =>
        rw [actBy_none q, ← wrong_none.mp hw k hk]
        refine (actBy_none (List.find?_eq_none.mpr fun y hy => ?_)).symm
        exact List.find?_eq_none.mp q y (pp.mem_iff.mpr hy)
      | some x =>
        rw [actBy_of q]
        obtain ⟨p, r, e, hx, hno⟩ := find_split q
        have h1 := (g p x r e).1
        unfold okM at h1
        simp only [Bool.and_eq_true, Option.isNone_iff_eq_none] at h1
        by_cases z : k.2.1 = actf x
        · exact z.symm
        · obtain ⟨o, ho, h3⟩ := barred_none.mp h1.2.2 k hk (of_decide_eq_true hx) z
          exact absurd h3 (of_decide_eq_false (hno o ho))
    · have hlt : place.toNat < b.length := by omega
      have e : b = b.take place.toNat ++ b[place.toNat] :: b.drop (place.toNat + 1) := by rw [List.getElem_cons_drop, List.take_append_drop]
      have h1 := (g _ _ _ e).1
      unfold okM at h1
      simp only [Bool.and_eq_true, beq_iff_eq] at h1
      have hl : (b.take place.toNat).length = place.toNat := by rw [List.length_take]; omega
      rw [hl] at h1
      have h2 : decide (((place.toNat : Nat) : Int) = place) = true := decide_eq_true (by omega)
      rw [h2] at h1
      rw [List.getD_eq_getElem?_getD, List.getElem?_eq_getElem hlt]
      exact of_decide_eq_true h1.2.1
/-- at the last layer there is one entry at most -/
theorem last_one (hr : row ∈ rowsM n n) : layersM actf ks row number place n = [] ∧ (∀ b, ¬ Seq row (okM actf ks number place) n b) ∨
    ∃ k s a, layersM actf ks row number place n = [(k, (s, a))] ∧ Seq row (okM actf ks number place) n a ∧ s = distL a row ∧ ∀ b, Seq row (okM actf ks number place) n b → leP (s, a) (distL b row, b) = true := by
  have L := linv_at (row := row) (ok := okM actf ks number place) (inc := incM row) (ok_perm actf ks number place) (inc_perm row) n
  obtain ⟨l, nd, hs⟩ := rows_mem.mp hr
  have sub : ∀ b, Seq row (okM actf ks number place) n b → b.Perm row := fun b hb => by
    have g := seq_good hb
    refine perm_of b row ?_ (fun x hx => ?_) (by rw [hb.len, l]; exact Nat.le_refl _)
    · have : ∀ a : List Int, (∀ p x q, a = p ++ x :: q → okM actf ks number place p.length p x = true ∧ x ∈ row) → a.Nodup := by
        refine rev_ind (fun _ => List.nodup_nil) fun a x ih h => ?_
        have hx := (h a x [] rfl).1
        unfold okM at hx
        simp only [Bool.and_eq_true, Bool.not_eq_true', decide_eq_false_iff_not] at hx
        refine List.nodup_append.mpr ⟨ih fun p y q e => h p y (q ++ [x]) (by rw [e]; simp), by simp, fun y hy z hz e => ?_⟩
        have : z = x := by simpa using hz
        subst this; subst e
        exact hx.1 hy
      exact this b g
    · obtain ⟨p, q, e⟩ := List.append_of_mem hx
      exact (g p x q e).2
  have cd : ∀ b, Seq row (okM actf ks number place) n b → cost (incM row) [] b = distL b row := fun b hb => cost_dist b row (sub b hb) nd
  show (layerAt row (okM actf ks number place) (incM row) n = [] ∧ _) ∨ ∃ k s a, layerAt row (okM actf ks number place) (incM row) n = _ ∧ _
  cases q : layerAt row (okM actf ks number place) (incM row) n with
  | nil =>
    refine .inl ⟨rfl, fun b hb => ?_⟩
    obtain ⟨v, hv, _⟩ := L.all b hb
    rw [q] at hv
    cases hv
  | cons e t =>
    obtain ⟨k, s, a⟩ := e
    have he := L.ent (k, (s, a)) (by rw [q]; exact List.mem_cons_self)
    have keys : ∀ e ∈ layerAt row (okM actf ks number place) (incM row) n, e.1 = sortI row := fun e h => by
      obtain ⟨h1, _, h3⟩ := L.ent e h
      rw [h3]
      exact sortI_congr (sub _ h1)
    have ht : t = [] := by
      cases t with
      | nil => rfl
      | cons e2 t2 =>
        have nd2 := L.nd
        rw [q, List.map_cons, List.map_cons, List.nodup_cons] at nd2
        refine absurd ?_ nd2.1
        have k1 := keys (k, (s, a)) (by rw [q]; exact List.mem_cons_self)
        have k2 := keys e2 (by rw [q]; exact List.mem_cons_of_mem _ List.mem_cons_self)
        rw [k1, k2]
        exact List.mem_cons_self
    subst ht
    refine .inr ⟨k, s, a, rfl, he.1, he.2.1.trans (cd a he.1), fun b hb => ?_⟩
    obtain ⟨v, hv, lv⟩ := L.all b hb
    rw [q] at hv
    have hm := dget_mem hv
    have : v = (s, a) := by
      have := List.mem_singleton.mp hm
      exact (Prod.mk.inj this).2
    rw [← this, ← cd b hb]
    exact lv
theorem nearest_law (hr : row ∈ rowsM n n) (hw : wrongK actf rest ks row = none) (hp : 0 ≤ place ∧ place < n) :
    nearestM actf ks row number place = ((sortP (((rightsM actf rest ks n).filter fun b => decide (b.getD place.toNat 0 = number)).map fun b => (distL b row, b))).head?).map (·.2) := by
  have l := (rows_mem.mp hr).1
  have memS : ∀ y, y ∈ (((rightsM actf rest ks n).filter fun b => decide (b.getD place.toNat 0 = number)).map fun b => (distL b row, b)) ↔ ∃ b, Seq row (okM actf ks number place) n b ∧ y = (distL b row, b) := fun y => by
    rw [List.mem_map]
    constructor
    · rintro ⟨b, hb, rfl⟩
      obtain ⟨h1, h2⟩ := List.mem_filter.mp hb
      obtain ⟨h3, h4⟩ := List.mem_filter.mp h1
      exact ⟨b, (right_seq hr hw hp b).mp ⟨h3, Option.isNone_iff_eq_none.mp h4, of_decide_eq_true h2⟩, rfl⟩
    · rintro ⟨b, hb, rfl⟩
      obtain ⟨h1, h2, h3⟩ := (right_seq hr hw hp b).mpr hb
      exact ⟨b, List.mem_filter.mpr ⟨List.mem_filter.mpr ⟨h1, Option.isNone_iff_eq_none.mpr h2⟩, decide_eq_true h3⟩, rfl⟩
  unfold nearestM
  rw [l]
  rcases last_one (actf := actf) (ks := ks) (number := number) (place := place) hr with ⟨e, no⟩ | ⟨k, s, a, e, ha, hs, hm⟩
  · rw [e]
    have : (((rightsM actf rest ks n).filter fun b => decide (b.getD place.toNat 0 = number)).map fun b => (distL b row, b)) = [] := by
      refine List.eq_nil_iff_forall_not_mem.mpr fun y hy => ?_
      obtain ⟨b, hb, _⟩ := (memS y).mp hy
      exact no b hb
    rw [this]
    rfl
  · rw [e]
    have h1 : (sortP (([(k, (s, a))] : Lay).map (·.2))).head? = some (s, a) := sortP_head (by simp) fun y hy => by
      have : y = (s, a) := by simpa using hy
      rw [this]; exact leP_refl _
    rw [h1, sortP_head ((memS (s, a)).mpr ⟨a, ha, by rw [hs]⟩) fun y hy => ?_]
    obtain ⟨b, hb, rfl⟩ := (memS y).mp hy
    exact hm b hb
theorem nearest_self (hr : row ∈ rowsM n n) (hw : wrongK actf rest ks row = none) (hp : 0 ≤ place ∧ place < n) :
    nearestM actf ks row (row.getD place.toNat 0) place = some row := by
  obtain ⟨l, nd, _⟩ := rows_mem.mp hr
  have sr : Seq row (okM actf ks (row.getD place.toNat 0) place) n row := (right_seq hr hw hp row).mp ⟨hr, hw, rfl⟩
  unfold nearestM
  rw [l]
  rcases last_one (actf := actf) (ks := ks) (number := row.getD place.toNat 0) (place := place) hr with ⟨_, no⟩ | ⟨k, s, a, e, ha, hs, hm⟩
  · exact absurd sr (no row)
  · rw [e]
    have h1 : (sortP (([(k, (s, a))] : Lay).map (·.2))).head? = some (s, a) := sortP_head (by simp) fun y hy => by
      have : y = (s, a) := by simpa using hy
      rw [this]; exact leP_refl _
    rw [h1]
    have le := hm row sr
    rw [dist_self row nd] at le
    have h0 := dist_nonneg a row
    have hb := (right_seq hr hw hp a).mpr ha
    have z : distL a row = 0 := by
      rcases leP_cases le with h | h
      · unfold ltP at h
        simp only at h
        by_cases q : s = 0
        · omega
        · rw [if_neg q] at h
          have := of_decide_eq_true h
          omega
      · have := (Prod.mk.inj h).1
        omega
    have := dist_zero a row ((rg_perm hb.1).trans (rg_perm hr).symm) nd z
    rw [this]
    rfl
end
end Nr
set_option Elab.async false
set_option linter.all false
set_option maxRecDepth 100000
set_option maxHeartbeats 2000000
/-! Readings that evaluate purely to data, under an environment of data. -/
namespace Nr
open PySem PySem.Spec L2

/-! ### heaps, what is hidden -/
def hide (H : Hp) (L : List Addr) : Hp := fun a => if a ∈ L then none else H a
def Live (L : List Addr) (H : Hp) : Prop := ∀ l ∈ L, H l ≠ none
theorem hide_nil (H : Hp) : hide H [] = H := by funext a; simp [hide]
theorem hide_in {H : Hp} {L : List Addr} {a : Addr} (h : a ∈ L) : hide H L a = none := by simp [hide, h]
theorem hide_out {H : Hp} {L : List Addr} {a : Addr} (h : a ∉ L) : hide H L a = H a := by simp [hide, h]
theorem hide_some {H : Hp} {L : List Addr} {a : Addr} {o : HO} (h : hide H L a = some o) : a ∉ L ∧ H a = some o := by
  by_cases e : a ∈ L
  · rw [hide_in e] at h; cases h
  · rw [hide_out e] at h; exact ⟨e, h⟩
theorem hide_same {H H' : Hp} {L : List Addr} (e : Same H H') : Same (hide H L) (hide H' L) := fun a o h => by
  obtain ⟨h1, h2⟩ := hide_some h
  rw [hide_out h1]; exact e a o h2
theorem hide_sub {H : Hp} {L : List Addr} : Same (hide H L) H := fun a o h => (hide_some h).2
theorem live_nil {H : Hp} : Live [] H := fun _ h => nomatch h
theorem live_mono {L : List Addr} {H H' : Hp} (h : Live L H) (e : Same H H') : Live L H' := fun l hl => by
  cases q : H l with
  | none => exact absurd q (h l hl)
  | some o => rw [e l o q]; intro z; cases z
theorem live_cons {L : List Addr} {H : Hp} {l : Addr} {o : HO} (h : Live L H) (e : H l = some o) : Live (l :: L) H := fun x hx => by
  rcases List.mem_cons.mp hx with rfl | hx
  · rw [e]; intro z; cases z
  · exact h x hx
theorem live_new {L : List Addr} {H : Hp} {p : Addr} (h : Live L H) (e : H p = none) : p ∉ L := fun z => h p z e
theorem same_new {H : Hp} {p : Addr} (h : H p = none) (o : HO) : Same H (upd H p o) := fun b u q => by rw [upd_ne (ne_of_none q h)]; exact q
/-- a hidden object is written -/
theorem hide_upd {H : Hp} {L : List Addr} {l : Addr} {o : HO} (h : l ∈ L) : hide (upd H l o) L = hide H L := by
  funext a
  by_cases e : a ∈ L
  · rw [hide_in e, hide_in e]
  · rw [hide_out e, hide_out e, upd_ne (show a ≠ l from fun z => e (by rw [z]; exact h))]
/-- one more is hidden that was not there -/
theorem hide_more {H0 H : Hp} {L : List Addr} {D : Addr} (e : Same H0 H) (h : H0 D = none) : Same (hide H0 L) (hide H (D :: L)) := fun a o q => by
  obtain ⟨h1, h2⟩ := hide_some q
  rw [hide_out (fun z => by
    rcases List.mem_cons.mp z with rfl | z
    · rw [h] at h2; cases h2
    · exact h1 z)]
  exact e a o h2
theorem hide_less {H : Hp} {L : List Addr} {D : Addr} : Same (hide H (D :: L)) (hide H L) := fun a o q => by
  obtain ⟨h1, h2⟩ := hide_some q
  rw [hide_out (fun z => h1 (List.mem_cons_of_mem _ z))]
  exact h2

/-! ### data -/
/-- as PyData; a tuple's flag: it is known to have no dict of its own (its methods can be asked) -/
inductive Dat where
  | none | bool (b : Bool) | int (i : Int) | str (x : Str) | list (xs : List Dat) | tuple (f : Bool) (xs : List Dat)
mutual
def Dat.py : Dat → PyData
  | .none => .none
  | .bool b => .bool b
  | .int i => .int i
  | .str x => .str x
  | .list xs => .list (Dat.pys xs)
  | .tuple _ xs => .tuple (Dat.pys xs)
def Dat.pys : List Dat → List PyData
  | [] => []
  | d :: ds => d.py :: Dat.pys ds
end
def RdT (f : Bool) (H : Hp) (a : Addr) (xs : List V) : Prop := Rd H a (.tup xs) ∧ (f = true → ∃ o : Obj, H a = some (.frz o (.tup xs)) ∧ o.dict = none)
theorem RdT.mono {f : Bool} {H H' : Hp} {a : Addr} {xs : List V} (h : RdT f H a xs) (e : Same H H') : RdT f H' a xs :=
  ⟨h.1.elim (fun q => .inl (e _ _ q)) fun ⟨o, q⟩ => .inr ⟨o, e _ _ q⟩, fun z => let ⟨o, q, d⟩ := h.2 z; ⟨o, e _ _ q, d⟩⟩
theorem RdT.sq {K : PySem.W.Frag} {f : Bool} {H : Hp} {L : List Addr} {a : Addr} {xs : List V} (h : RdT f (hide H L) a xs) : SqT K H a xs := .inl (h.mono hide_sub).1
theorem rdt_new {H : Hp} {L : List Addr} {p : Addr} {xs : List V} (h : p ∉ L) : RdT false (hide (upd H p (.tup xs)) L) p xs := ⟨.inl (by rw [hide_out h, upd_same]), fun z => nomatch z⟩
theorem rdt_newZ {H : Hp} {L : List Addr} {p : Addr} {xs : List V} {o : Obj} (h : p ∉ L) (ho : o.dict = none) : RdT true (hide (upd H p (.frz o (.tup xs))) L) p xs := ⟨.inr ⟨o, by rw [hide_out h, upd_same]⟩, fun _ => ⟨o, by rw [hide_out h, upd_same], ho⟩⟩
mutual
inductive Dt (H : Hp) : V → Dat → Prop
  | non : Dt H .non .none
  | bl (b : Bool) : Dt H (.bl b) (.bool b)
  | int (i : Int) : Dt H (.int i) (.int i)
  | str (x : Str) : Dt H (.str x) (.str x)
  | lst {a : Addr} {xs : List V} {ds : List Dat} : H a = some (.lst xs) → DtAll H xs ds → Dt H (.ref a) (.list ds)
  | tup {f : Bool} {a : Addr} {xs : List V} {ds : List Dat} : RdT f H a xs → DtAll H xs ds → Dt H (.ref a) (.tuple f ds)
inductive DtAll (H : Hp) : List V → List Dat → Prop
  | nil : DtAll H [] []
  | cons {v : V} {vs : List V} {d : Dat} {ds : List Dat} : Dt H v d → DtAll H vs ds → DtAll H (v :: vs) (d :: ds)
end
mutual
theorem Dt.mono {H H' : Hp} (e : Same H H') : ∀ {v : V} {d : Dat}, Dt H v d → Dt H' v d
  | _, _, .non => .non
  | _, _, .bl b => .bl b
  | _, _, .int i => .int i
  | _, _, .str x => .str x
  | _, _, .lst h a => .lst (e _ _ h) (DtAll.mono e a)
  | _, _, .tup h a => .tup (h.mono e) (DtAll.mono e a)
theorem DtAll.mono {H H' : Hp} (e : Same H H') : ∀ {vs : List V} {ds : List Dat}, DtAll H vs ds → DtAll H' vs ds
  | _, _, .nil => .nil
  | _, _, .cons h t => .cons (Dt.mono e h) (DtAll.mono e t)
end
mutual
theorem Dt.dp {K : PySem.W.Frag} {H : Hp} : ∀ {v : V} {d : Dat}, Dt H v d → Dp K H v d.py
  | _, _, .non => .non
  | _, _, .bl b => .bl b
  | _, _, .int i => .int i
  | _, _, .str x => .str x
  | _, _, .lst h a => .lst (.of h) (DtAll.dp a)
  | _, _, .tup h a => .tup (.inl h.1) (DtAll.dp a)
theorem DtAll.dp {K : PySem.W.Frag} {H : Hp} : ∀ {vs : List V} {ds : List Dat}, DtAll H vs ds → DpAll K H vs (Dat.pys ds)
  | _, _, .nil => .nil
  | _, _, .cons h t => .cons (Dt.dp h) (DtAll.dp t)
end
theorem Dt.up {H : Hp} {L : List Addr} {v : V} {d : Dat} (h : Dt (hide H L) v d) : Dt H v d := h.mono hide_sub
theorem DtAll.up {H : Hp} {L : List Addr} {v : List V} {d : List Dat} (h : DtAll (hide H L) v d) : DtAll H v d := h.mono hide_sub
theorem DtAll.len {H : Hp} : ∀ {vs : List V} {ds : List Dat}, DtAll H vs ds → vs.length = ds.length
  | _, _, .nil => rfl
  | _, _, .cons _ t => by rw [List.length_cons, List.length_cons, DtAll.len t]
theorem DtAll.get {H : Hp} : ∀ {vs : List V} {ds : List Dat} {i : Nat} {d : Dat}, DtAll H vs ds → ds[i]? = some d → ∃ v, vs[i]? = some v ∧ Dt H v d
  | _, _, _, _, .nil, e => by simp at e
  | _, _, 0, _, .cons h _, e => by
    simp at e; subst e
    exact ⟨_, rfl, h⟩
  | _, _, i + 1, _, .cons _ t, e => by
    obtain ⟨v, h1, h2⟩ := DtAll.get (i := i) t (by simpa using e)
    exact ⟨v, by simpa using h1, h2⟩
theorem DtAll.get' {H : Hp} {vs : List V} {ds : List Dat} {i : Nat} {v : V} (h : DtAll H vs ds) (e : vs[i]? = some v) : ∃ d, ds[i]? = some d ∧ Dt H v d := by
  have hl := h.len
  have hi : i < vs.length := (List.getElem?_eq_some_iff.mp e).1
  obtain ⟨w, h1, h2⟩ := h.get (List.getElem?_eq_getElem (show i < ds.length by omega))
  rw [e] at h1; cases h1
  exact ⟨_, List.getElem?_eq_getElem (by omega), h2⟩
theorem DtAll.append {H : Hp} : ∀ {vs ws : List V} {ds es : List Dat}, DtAll H vs ds → DtAll H ws es → DtAll H (vs ++ ws) (ds ++ es)
  | _, _, _, _, .nil, h => h
  | _, _, _, _, .cons a t, h => .cons a (DtAll.append t h)
theorem DtAll.one {H : Hp} {v : V} {d : Dat} (h : Dt H v d) : DtAll H [v] [d] := .cons h .nil
theorem DtAll.take {H : Hp} : ∀ {vs : List V} {ds : List Dat} (n : Nat), DtAll H vs ds → DtAll H (vs.take n) (ds.take n)
  | _, _, 0, _ => .nil
  | _, _, _ + 1, .nil => .nil
  | _, _, n + 1, .cons h t => .cons h (DtAll.take n t)
theorem DtAll.drop {H : Hp} : ∀ {vs : List V} {ds : List Dat} (n : Nat), DtAll H vs ds → DtAll H (vs.drop n) (ds.drop n)
  | _, _, 0, h => h
  | _, _, _ + 1, .nil => .nil
  | _, _, n + 1, .cons _ t => DtAll.drop n t
theorem DtAll.eraseIdx {H : Hp} : ∀ {vs : List V} {ds : List Dat} (n : Nat), DtAll H vs ds → DtAll H (vs.eraseIdx n) (ds.eraseIdx n)
  | _, _, _, .nil => .nil
  | _, _, 0, .cons _ t => t
  | _, _, n + 1, .cons h t => .cons h (DtAll.eraseIdx n t)
theorem Dt.int_of {H : Hp} {v : V} {i : Int} (h : Dt H v (.int i)) : v = .int i := by cases h; rfl
theorem Dt.bl_of {H : Hp} {v : V} {b : Bool} (h : Dt H v (.bool b)) : v = .bl b := by cases h; rfl
theorem Dt.str_of {H : Hp} {v : V} {x : Str} (h : Dt H v (.str x)) : v = .str x := by cases h; rfl
theorem Dt.non_of {H : Hp} {v : V} (h : Dt H v .none) : v = .non := by cases h; rfl
theorem Dt.tup_of {H : Hp} {v : V} {f : Bool} {ds : List Dat} (h : Dt H v (.tuple f ds)) : ∃ a xs, v = .ref a ∧ RdT f H a xs ∧ DtAll H xs ds := by
  cases h with
  | tup h a => exact ⟨_, _, rfl, h, a⟩
theorem Dt.weak {H : Hp} {v : V} {f : Bool} {ds : List Dat} (h : Dt H v (.tuple f ds)) : Dt H v (.tuple false ds) := by
  obtain ⟨a, xs, rfl, h1, h2⟩ := h.tup_of
  exact .tup ⟨h1.1, fun z => nomatch z⟩ h2
theorem Dt.lst_of {H : Hp} {v : V} {ds : List Dat} (h : Dt H v (.list ds)) : ∃ a xs, v = .ref a ∧ H a = some (.lst xs) ∧ DtAll H xs ds := by
  cases h with
  | lst h a => exact ⟨_, _, rfl, h, a⟩
theorem dt_ints {H : Hp} : ∀ {vs : List V} {ns : List Int}, DtAll H vs (ns.map .int) → vs = ns.map V.int
  | _, [], .nil => rfl
  | _, n :: ns, .cons h t => by rw [h.int_of, dt_ints t]; rfl
theorem ints_dt {H : Hp} : ∀ ns : List Int, DtAll H (ns.map V.int) (ns.map .int)
  | [] => .nil
  | n :: ns => .cons (.int n) (ints_dt ns)
theorem dt_bls {H : Hp} : ∀ {vs : List V} {bs : List Bool}, DtAll H vs (bs.map .bool) → vs = bs.map V.bl
  | _, [], .nil => rfl
  | _, n :: ns, .cons h t => by rw [h.bl_of, dt_bls t]; rfl

/-! ### environments -/
inductive Slot where
  | no | dat (d : Dat) | val (v : V) | gen (φ : V → Hp → Prop)
abbrev Gam := List Slot
def SlotOk (H : Hp) : Slot → Option V → Prop
  | .no, _ => True
  | .dat d, some v => Dt H v d
  | .dat _, none => False
  | .val v, x => x = some v
  | .gen φ, x => ∃ v, x = some v ∧ ∀ H', Same H H' → φ v H'
def Env (H : Hp) (σ : L2.St) (Γ : Gam) : Prop := σ.length = Γ.length ∧ ∀ (i : Nat) (s : Slot), Γ[i]? = some s → ∃ x : Option V, σ[i]? = some x ∧ SlotOk H s x
theorem SlotOk.mono {H H' : Hp} (e : Same H H') : ∀ {s : Slot} {x : Option V}, SlotOk H s x → SlotOk H' s x
  | .no, _, _ => True.intro
  | .dat _, some _, h => Dt.mono e h
  | .val _, _, h => h
  | .gen _, _, h => let ⟨v, h1, h2⟩ := h; ⟨v, h1, fun H2 e2 => h2 H2 (e.trans e2)⟩
theorem Env.mono {H H' : Hp} {σ : L2.St} {Γ : Gam} (h : Env H σ Γ) (e : Same H H') : Env H' σ Γ :=
  ⟨h.1, fun i s q => let ⟨x, h1, h2⟩ := h.2 i s q; ⟨x, h1, h2.mono e⟩⟩
theorem Env.dat {H : Hp} {σ : L2.St} {Γ : Gam} (h : Env H σ Γ) {i : Nat} {d : Dat} (e : Γ[i]? = some (.dat d)) : ∃ v, σ[i]? = some (some v) ∧ Dt H v d := by
  obtain ⟨x, h1, h2⟩ := h.2 i _ e
  cases x with
  | none => exact h2.elim
  | some v => exact ⟨v, h1, h2⟩
theorem Env.val {H : Hp} {σ : L2.St} {Γ : Gam} (h : Env H σ Γ) {i : Nat} {v : V} (e : Γ[i]? = some (.val v)) : σ[i]? = some (some v) := by
  obtain ⟨x, h1, h2⟩ := h.2 i _ e
  have h3 : x = some v := h2
  rw [h1, h3]
theorem Env.gen {H : Hp} {σ : L2.St} {Γ : Gam} (h : Env H σ Γ) {i : Nat} {φ : V → Hp → Prop} (e : Γ[i]? = some (.gen φ)) : ∃ v, σ[i]? = some (some v) ∧ ∀ H', Same H H' → φ v H' := by
  obtain ⟨x, h1, v, h2, h3⟩ := h.2 i _ e
  exact ⟨v, by rw [h1, h2], h3⟩
theorem Env.set {H : Hp} {σ : L2.St} {Γ : Gam} (h : Env H σ Γ) {i : Nat} {s : Slot} {x : Option V} (o : SlotOk H s x) : Env H (σ.set i x) (Γ.set i s) := by
  refine ⟨by rw [List.length_set, List.length_set]; exact h.1, fun j t e => ?_⟩
  by_cases q : i = j
  · subst q
    have hi : i < Γ.length := by
      have := (List.getElem?_eq_some_iff.mp e).1
      rwa [List.length_set] at this
    rw [List.getElem?_set_self hi] at e
    cases e
    exact ⟨x, List.getElem?_set_self (by rw [h.1]; exact hi), o⟩
  · rw [List.getElem?_set_ne q] at e
    rw [List.getElem?_set_ne q]
    exact h.2 j t e
theorem Env.setD {H : Hp} {σ : L2.St} {Γ : Gam} (h : Env H σ Γ) {i : Nat} {v : V} {d : Dat} (o : Dt H v d) : Env H (σ.set i (some v)) (Γ.set i (.dat d)) := h.set (s := .dat d) (x := some v) o
theorem Env.setV {H : Hp} {σ : L2.St} {Γ : Gam} (h : Env H σ Γ) {i : Nat} (v : V) : Env H (σ.set i (some v)) (Γ.set i (.val v)) := h.set (s := .val v) (x := some v) rfl
theorem Env.setN {H : Hp} {σ : L2.St} {Γ : Gam} (h : Env H σ Γ) {i : Nat} (x : Option V) : Env H (σ.set i x) (Γ.set i .no) := h.set (s := .no) (x := x) True.intro
/-- slots forgotten -/
def blank (Γ : Gam) : List Nat → Gam
  | [] => Γ
  | v :: vs => (blank Γ vs).set v .no
theorem Env.no {H : Hp} {σ : L2.St} {Γ : Gam} (h : Env H σ Γ) (i : Nat) : Env H σ (Γ.set i .no) := by
  refine ⟨by rw [List.length_set]; exact h.1, fun j t e => ?_⟩
  by_cases q : i = j
  · subst q
    have hi : i < Γ.length := by
      have := (List.getElem?_eq_some_iff.mp e).1
      rwa [List.length_set] at this
    rw [List.getElem?_set_self hi] at e
    cases e
    have hs : i < σ.length := by rw [h.1]; exact hi
    exact ⟨σ[i], List.getElem?_eq_getElem hs, True.intro⟩
  · rw [List.getElem?_set_ne q] at e
    exact h.2 j t e
theorem Env.blank {H : Hp} {σ : L2.St} {Γ : Gam} (h : Env H σ Γ) : ∀ vs : List Nat, Env H σ (blank Γ vs)
  | [] => h
  | v :: vs => (Env.blank h vs).no v
theorem Env.wipe {H : Hp} {σ : L2.St} {Γ : Gam} (h : Env H σ Γ) : ∀ vs : List Nat, Env H (wipe σ vs) (Nr.blank Γ vs)
  | [] => h
  | v :: vs => (Env.wipe h vs).setN none
theorem wipe_set {σ : L2.St} {j : Nat} {x : Option V} : ∀ {vs : List Nat}, j ∈ vs → wipe (σ.set j x) vs = wipe σ vs
  | v :: vs, h => by
    unfold wipe
    by_cases e : j ∈ vs
    · rw [wipe_set e]
    · rcases List.mem_cons.mp h with rfl | h
      · have : ∀ ws : List Nat, j ∉ ws → wipe (σ.set j x) ws = (wipe σ ws).set j x := by
          intro ws
          induction ws with
          | nil => intro _; rfl
          | cons u us ih =>
            intro hn
            unfold wipe
            rw [ih (fun z => hn (List.mem_cons_of_mem _ z)), List.set_comm _ _ (show j ≠ u from fun z => hn (by rw [z]; exact List.mem_cons_self))]
        rw [this vs e, List.set_set]
      · exact absurd h e
theorem wipe_wipe {σ : L2.St} : ∀ (us vs : List Nat), (∀ u ∈ us, u ∈ vs) → wipe (wipe σ us) vs = wipe σ vs
  | [], _, _ => rfl
  | u :: us, vs, h => by
    show wipe ((wipe σ us).set u none) vs = wipe σ vs
    rw [wipe_set (h u List.mem_cons_self), wipe_wipe us vs fun x hx => h x (List.mem_cons_of_mem _ hx)]

/-! ### what evaluates to what -/
def EvG (te : TE) (Γ : Gam) (d : Dat) : Prop := ∀ (L : List Addr) (σ : L2.St) (H : Hp) (Q : VK), Live L H → Env (hide H L) σ Γ → (∀ v H', Same H H' → Dt (hide H' L) v d → Q v H') → te σ H Q
def EvT (tt : TT) (Γ : Gam) (b : Bool) : Prop := ∀ (L : List Addr) (σ : L2.St) (H : Hp) (Q : Bool → Hp → Prop), Live L H → Env (hide H L) σ Γ → (∀ H', Same H H' → Q b H') → tt σ H Q
def EvA (ta : TA) (Γ : Gam) (ds : List Dat) : Prop := ∀ (L : List Addr) (σ : L2.St) (H : Hp) (Q : List V → Hp → Prop), Live L H → Env (hide H L) σ Γ → (∀ vs H', Same H H' → DtAll (hide H' L) vs ds → Q vs H') → ta σ H Q
def OpG (r : R2) (a b d : Dat) : Prop := ∀ (L : List Addr) (x y : V) (H : Hp) (Q : VK), Live L H → Dt (hide H L) x a → Dt (hide H L) y b → (∀ v H', Same H H' → Dt (hide H' L) v d → Q v H') → r x y H Q
def CallG (r : List V → Hp → VK → Prop) (ds : List Dat) (d : Dat) : Prop := ∀ (L : List Addr) (vs : List V) (H : Hp) (Q : VK), Live L H → DtAll (hide H L) vs ds → (∀ v H', Same H H' → Dt (hide H' L) v d → Q v H') → r vs H Q
section
variable {Γ : Gam} {ta tb tc te : TE} {a b d : Dat}
theorem EvG.is {d' : Dat} (h : EvG te Γ d) (e : d = d') : EvG te Γ d' := e ▸ h
theorem ev_var {i : Nat} (h : Γ[i]? = some (.dat d)) : EvG (tVar i) Γ d := fun L σ H Q _ he k => by
  obtain ⟨v, h1, h2⟩ := he.dat h
  exact ⟨v, h1, k v H (Same.refl H) h2⟩
theorem ev_int (i : Int) : EvG (tC (.int i)) Γ (.int i) := fun L σ H Q _ _ k => k _ H (Same.refl H) (.int i)
theorem ev_bl (i : Bool) : EvG (tC (.bl i)) Γ (.bool i) := fun L σ H Q _ _ k => k _ H (Same.refl H) (.bl i)
theorem ev_str (i : Str) : EvG (tC (.str i)) Γ (.str i) := fun L σ H Q _ _ k => k _ H (Same.refl H) (.str i)
theorem ev_non : EvG (tC .non) Γ .none := fun L σ H Q _ _ k => k _ H (Same.refl H) .non
theorem ea_nil : EvA tNil Γ [] := fun L σ H Q _ _ k => k [] H (Same.refl H) .nil
theorem ea_cons {tr : TA} {ds : List Dat} (h : EvG ta Γ a) (hr : EvA tr Γ ds) : EvA (tCons ta tr) Γ (a :: ds) := fun L σ H Q lv he k =>
  h L σ H _ lv he fun v H1 e1 d1 => hr L σ H1 _ (live_mono lv e1) (he.mono (hide_same e1)) fun vs H2 e2 d2 => k (v :: vs) H2 (e1.trans e2) (.cons (d1.mono (hide_same e2)) d2)
theorem ev_tup {t : TA} {ds : List Dat} (h : EvA t Γ ds) (hl : ds.length ≤ 100000) : EvG (tTup t) Γ (.tuple false ds) := fun L σ H Q lv he k =>
  h L σ H _ lv he fun vs H1 e1 d1 => ⟨by rw [d1.len]; exact Nat.le_trans hl (by decide), fun p hp => k _ _ (e1.trans (same_new hp _))
    (.tup (xs := vs) (rdt_new (live_new (live_mono lv e1) hp)) (d1.mono (hide_same (same_new hp _))))⟩
theorem ev_lst {t : TA} {ds : List Dat} (h : EvA t Γ ds) (hl : ds.length ≤ 100000) : EvG (tLst t) Γ (.list ds) := fun L σ H Q lv he k =>
  h L σ H _ lv he fun vs H1 e1 d1 => ⟨by rw [d1.len]; exact Nat.le_trans hl (by decide), fun p hp => k _ _ (e1.trans (same_new hp _))
    (.lst (xs := vs) (by rw [hide_out (live_new (live_mono lv e1) hp), upd_same]) (d1.mono (hide_same (same_new hp _))))⟩
theorem ev_op {r : R2} (ha : EvG ta Γ a) (hb : EvG tb Γ b) (hr : OpG r a b d) : EvG (tOp r ta tb) Γ d := fun L σ H Q lv he k =>
  ha L σ H _ lv he fun x H1 e1 d1 => hb L σ H1 _ (live_mono lv e1) (he.mono (hide_same e1)) fun y H2 e2 d2 =>
    hr L x y H2 Q (live_mono lv (e1.trans e2)) (d1.mono (hide_same e2)) d2 fun v H3 e3 d3 => k v H3 ((e1.trans e2).trans e3) d3
theorem ev_cb {r : List V → Hp → VK → Prop} {t : TA} {ds : List Dat} (h : EvA t Γ ds) (hr : CallG r ds d) : EvG (tCB r t) Γ d := fun L σ H Q lv he k =>
  h L σ H _ lv he fun vs H1 e1 d1 => hr L vs H1 Q (live_mono lv e1) d1 fun v H2 e2 d2 => k v H2 (e1.trans e2) d2

/-! operators by values -/
theorem OpG.l {r r' : R2} (h : OpG r a b d) : OpG (fun x y H Q => r x y H Q ∨ r' x y H Q) a b d := fun L x y H Q lv d1 d2 k => .inl (h L x y H Q lv d1 d2 k)
theorem OpG.r {r r' : R2} (h : OpG r' a b d) : OpG (fun x y H Q => r x y H Q ∨ r' x y H Q) a b d := fun L x y H Q lv d1 d2 k => .inr (h L x y H Q lv d1 d2 k)
theorem og_II {i j : Int} {f : Int → Int → Int} : OpG (rI0 fun i j => .int (f i j)) (.int i) (.int j) (.int (f i j)) := fun L x y H Q lv d1 d2 k =>
  ⟨i, j, d1.int_of, d2.int_of, k _ H (Same.refl H) (.int _)⟩
theorem og_IC {i j : Int} {C : Int → Int → Prop} {f : Int → Int → Int} (hc : C i j) : OpG (rI C fun i j => .int (f i j)) (.int i) (.int j) (.int (f i j)) := fun L x y H Q lv d1 d2 k =>
  ⟨i, j, d1.int_of, d2.int_of, hc, k _ H (Same.refl H) (.int _)⟩
theorem og_IB {i j : Int} {f : Int → Int → Bool} : OpG (rI0 fun i j => .bl (f i j)) (.int i) (.int j) (.bool (f i j)) := fun L x y H Q lv d1 d2 k =>
  ⟨i, j, d1.int_of, d2.int_of, k _ H (Same.refl H) (.bl _)⟩
theorem og_ixT {K : PySem.W.Frag} {f : Bool} {ds : List Dat} {i : Int} {j : Nat} (hj : i = (j : Int)) (h : ds[j]? = some d) : OpG (rIxT K) (.tuple f ds) (.int i) d := fun L x y H Q lv d1 d2 k => by
  obtain ⟨p, xs, rfl, h1, h2⟩ := d1.tup_of
  obtain ⟨v, h3, h4⟩ := h2.get h
  subst hj
  exact ⟨p, xs, _, v, rfl, d2.int_of, h1.sq, atI_nat h3, k v H (Same.refl H) h4⟩
theorem og_ixL {K : PySem.W.Frag} {ds : List Dat} {i : Int} {j : Nat} (hj : i = (j : Int)) (h : ds[j]? = some d) : OpG (rIxL K) (.list ds) (.int i) d := fun L x y H Q lv d1 d2 k => by
  obtain ⟨p, xs, rfl, h1, h2⟩ := d1.lst_of
  obtain ⟨v, h3, h4⟩ := h2.get h
  subst hj
  exact ⟨p, xs, _, v, rfl, d2.int_of, .of (hide_some h1).2, atI_nat h3, k v H (Same.refl H) h4⟩
theorem og_catT {K : PySem.W.Frag} {f g : Bool} {as bs : List Dat} (hz : as.length + bs.length ≤ 100000) : OpG (rCatA K) (.tuple f as) (.tuple g bs) (.tuple false (as ++ bs)) := fun L x y H Q lv d1 d2 k => by
  obtain ⟨p, xs, rfl, h1, h2⟩ := id d1.tup_of
  obtain ⟨q, ys, rfl, h3, h4⟩ := id d2.tup_of
  refine ⟨p, q, xs, ys, rfl, rfl, h1.sq, h3.sq, by rw [h2.len, h4.len]; exact Nat.le_trans hz (by decide), fun e => ?_, fun _ e => ?_, fun _ _ r hr => ?_⟩
  · have : as = [] := List.length_eq_zero_iff.mp (by rw [← h2.len, e]; rfl)
    subst this
    exact k _ H (Same.refl H) d2.weak
  · have : bs = [] := List.length_eq_zero_iff.mp (by rw [← h4.len, e]; rfl)
    subst this
    rw [List.append_nil] at k
    exact k _ H (Same.refl H) d1.weak
  · have e := same_new hr (.tup (xs ++ ys))
    exact k _ _ e (.tup (rdt_new (live_new lv hr)) ((h2.append h4).mono (hide_same e)))
theorem og_catL {as bs : List Dat} (hz : as.length + bs.length ≤ 100000) : OpG rCat (.list as) (.list bs) (.list (as ++ bs)) := fun L x y H Q lv d1 d2 k => by
  obtain ⟨p, xs, rfl, h1, h2⟩ := id d1.lst_of
  obtain ⟨q, ys, rfl, h3, h4⟩ := id d2.lst_of
  refine ⟨p, q, xs, ys, rfl, rfl, (hide_some h1).2, (hide_some h3).2, by rw [h2.len, h4.len]; exact Nat.le_trans hz (by decide), fun r hr => ?_⟩
  have e := same_new hr (.lst (xs ++ ys))
  exact k _ _ e (.lst (by rw [hide_out (live_new lv hr), upd_same]) ((h2.append h4).mono (hide_same e)))
theorem og_eq {K : PySem.W.Frag} (h1 : SeqAt.shaped a.py = true) (h2 : SeqAt.shaped b.py = true) : OpG (rEqD K) a b (.bool (PyData.eqv a.py b.py)) := fun L x y H Q lv d1 d2 k =>
  ⟨a.py, b.py, d1.up.dp, d2.up.dp, h1, h2, k _ H (Same.refl H) (.bl _)⟩
theorem og_ne {K : PySem.W.Frag} (h1 : SeqAt.shaped a.py = true) (h2 : SeqAt.shaped b.py = true) : OpG (rNeD K) a b (.bool (!PyData.eqv a.py b.py)) := fun L x y H Q lv d1 d2 k =>
  ⟨a.py, b.py, d1.up.dp, d2.up.dp, h1, h2, k _ H (Same.refl H) (.bl _)⟩
theorem og_eqI {i j : Int} : OpG rEq (.int i) (.int j) (.bool (decide (i = j))) := fun L x y H Q lv d1 d2 k => by
  rw [d1.int_of, d2.int_of]
  refine ⟨rfl, k _ H (Same.refl H) ?_⟩
  rw [dec_int, Bool.beq_eq_decide_eq]
  exact .bl _
theorem og_neI {i j : Int} : OpG rNe (.int i) (.int j) (.bool (!decide (i = j))) := fun L x y H Q lv d1 d2 k => by
  rw [d1.int_of, d2.int_of]
  refine ⟨rfl, k _ H (Same.refl H) ?_⟩
  rw [dec_int, Bool.beq_eq_decide_eq]
  exact .bl _
theorem og_neB {i j : Bool} : OpG rNe (.bool i) (.bool j) (.bool (!(i == j))) := fun L x y H Q lv d1 d2 k => by
  rw [d1.bl_of, d2.bl_of]
  refine ⟨rfl, k _ H (Same.refl H) ?_⟩
  rw [dec_bl]
  exact .bl _
theorem og_eqS {i j : Str} : OpG rEq (.str i) (.str j) (.bool (i == j)) := fun L x y H Q lv d1 d2 k => by
  rw [d1.str_of, d2.str_of]
  refine ⟨rfl, k _ H (Same.refl H) ?_⟩
  rw [dec_str]
  exact .bl _
def isNone : Dat → Bool
  | .none => true
  | _ => false
theorem dt_none {H : Hp} {v : V} {d : Dat} (h : Dt H v d) : decide (v = .non) = isNone d := by
  cases h <;> simp [isNone]
theorem og_isN {tn : Unit} : OpG (fun x y H Q => y = .non ∧ Q (.bl (decide (x = .non))) H) a .none (.bool (isNone a)) := fun L x y H Q lv d1 d2 k =>
  ⟨d2.non_of, by rw [dt_none d1]; exact k _ H (Same.refl H) (.bl _)⟩
theorem og_notN {tn : Unit} : OpG (fun x y H Q => y = .non ∧ Q (.bl (!decide (x = .non))) H) a .none (.bool (!isNone a)) := fun L x y H Q lv d1 d2 k =>
  ⟨d2.non_of, by rw [dt_none d1]; exact k _ H (Same.refl H) (.bl _)⟩
theorem inV_ints (i : Int) (ns : List Int) : inV (.int i) (ns.map V.int) = decide (i ∈ ns) := by
  unfold inV
  rw [List.any_map, Bool.eq_iff_iff, List.any_eq_true, decide_eq_true_eq]
  constructor
  · rintro ⟨x, hx, e⟩
    have : (x == i) = true := e
    rw [← eq_of_beq this]; exact hx
  · intro h
    exact ⟨i, h, show (i == i) = true from beq_self_eq_true i⟩
theorem flat_ints (ns : List Int) : (ns.map V.int).all flatV = true := by
  rw [List.all_map, List.all_eq_true]
  intro x _
  rfl
theorem og_inT {K : PySem.W.Frag} {neg : Bool} {i : Int} {f : Bool} {ns : List Int} : OpG (rIn K neg) (.int i) (.tuple f (ns.map .int)) (.bool (if neg then !decide (i ∈ ns) else decide (i ∈ ns))) := fun L x y H Q lv d1 d2 k => by
  obtain ⟨q, ys, rfl, h3, h4⟩ := d2.tup_of
  obtain rfl := dt_ints h4
  rw [d1.int_of]
  refine ⟨q, _, rfl, .inr h3.sq, rfl, flat_ints ns, ?_⟩
  rw [inV_ints]
  exact k _ H (Same.refl H) (.bl _)
theorem og_inL {K : PySem.W.Frag} {neg : Bool} {i : Int} {ns : List Int} : OpG (rIn K neg) (.int i) (.list (ns.map .int)) (.bool (if neg then !decide (i ∈ ns) else decide (i ∈ ns))) := fun L x y H Q lv d1 d2 k => by
  obtain ⟨q, ys, rfl, h3, h4⟩ := d2.lst_of
  obtain rfl := dt_ints h4
  rw [d1.int_of]
  refine ⟨q, _, rfl, .inl (.of (hide_some h3).2), rfl, flat_ints ns, ?_⟩
  rw [inV_ints]
  exact k _ H (Same.refl H) (.bl _)
end
end Nr
set_option Elab.async false
set_option linter.all false
set_option maxRecDepth 100000
set_option maxHeartbeats 2000000
/-! Tests, calls, walks, comprehensions, statements: their data. -/
namespace Nr
open PySem PySem.Spec L2

/-! ### tests -/
section
variable {Γ : Gam} {ta tb tc te : TE} {t u : TT} {a b d : Dat}
theorem et_test {c : Bool} (h : EvG te Γ (.bool c)) : EvT (tTest te) Γ c := fun L σ H Q lv he k => h L σ H _ lv he fun v H1 e1 d1 => ⟨c, d1.bl_of, k H1 e1⟩
theorem et_B {c : Bool} (h : EvG te Γ (.bool c)) : EvT (tB te) Γ c := fun L σ H Q lv he k => h L σ H _ lv he fun v H1 e1 d1 => ⟨c, d1.bl_of, k H1 e1⟩
theorem EvT.is {c c' : Bool} (h : EvT t Γ c) (e : c = c') : EvT t Γ c' := e ▸ h
theorem et_and {c c' : Bool} (h1 : EvT t Γ c) (h2 : c = true → EvT u Γ c') : EvT (tAnd t u) Γ (c && c') := fun L σ H Q lv he k => h1 L σ H _ lv he fun H1 e1 => by
  cases c with
  | true => exact h2 rfl L σ H1 Q (live_mono lv e1) (he.mono (hide_same e1)) fun H2 e2 => k H2 (e1.trans e2)
  | false => exact k H1 e1
theorem et_or {c c' : Bool} (h1 : EvT t Γ c) (h2 : c = false → EvT u Γ c') : EvT (tOr t u) Γ (c || c') := fun L σ H Q lv he k => h1 L σ H _ lv he fun H1 e1 => by
  cases c with
  | false => exact h2 rfl L σ H1 Q (live_mono lv e1) (he.mono (hide_same e1)) fun H2 e2 => k H2 (e1.trans e2)
  | true => exact k H1 e1
theorem et_not {c : Bool} (h : EvT t Γ c) : EvT (tNot t) Γ (!c) := fun L σ H Q lv he k => h L σ H _ lv he fun H1 e1 => k H1 e1
theorem et_yes : EvT tYes Γ true := fun L σ H Q lv he k => k H (Same.refl H)
theorem ev_andV {c : Bool} {e : Bool} (h1 : EvG ta Γ (.bool c)) (h2 : c = true → EvG tb Γ (.bool e)) : EvG (tAndV ta tb) Γ (.bool (c && e)) := fun L σ H Q lv he k => h1 L σ H _ lv he fun v H1 e1 d1 => ⟨c, d1.bl_of, by
  cases c with
  | true =>
    rw [if_pos rfl]
    exact h2 rfl L σ H1 Q (live_mono lv e1) (he.mono (hide_same e1)) fun v H2 e2 d2 => k v H2 (e1.trans e2) d2
  | false =>
    rw [if_neg (by decide)]
    exact k _ H1 e1 (.bl false)⟩
theorem ev_orV {c : Bool} {e : Bool} (h1 : EvG ta Γ (.bool c)) (h2 : c = false → EvG tb Γ (.bool e)) : EvG (tOrV ta tb) Γ (.bool (c || e)) := fun L σ H Q lv he k => h1 L σ H _ lv he fun v H1 e1 d1 => ⟨c, d1.bl_of, by
  cases c with
  | true =>
    rw [if_pos rfl]
    exact k _ H1 e1 (.bl true)
  | false =>
    rw [if_neg (by decide)]
    exact h2 rfl L σ H1 Q (live_mono lv e1) (he.mono (hide_same e1)) fun v H2 e2 d2 => k v H2 (e1.trans e2) d2⟩
theorem ev_notV {c : Bool} (h1 : EvG ta Γ (.bool c)) : EvG (tNotV ta) Γ (.bool (!c)) := fun L σ H Q lv he k => h1 L σ H _ lv he fun v H1 e1 d1 => ⟨c, d1.bl_of, k _ H1 e1 (.bl _)⟩
theorem ev_if {c : Bool} (h : EvT t Γ c) (h1 : c = true → EvG ta Γ d) (h2 : c = false → EvG tb Γ d) : EvG (tIf t ta tb) Γ d := fun L σ H Q lv he k => h L σ H _ lv he fun H1 e1 => by
  cases c with
  | true =>
    rw [if_pos rfl]
    exact h1 rfl L σ H1 Q (live_mono lv e1) (he.mono (hide_same e1)) fun v H2 e2 d2 => k v H2 (e1.trans e2) d2
  | false =>
    rw [if_neg (by decide)]
    exact h2 rfl L σ H1 Q (live_mono lv e1) (he.mono (hide_same e1)) fun v H2 e2 d2 => k v H2 (e1.trans e2) d2
/-- a < b < c -/
theorem ev_chain {r r' : R2} {c e : Bool} (ha : EvG ta Γ a) (hb : EvG tb Γ b) (hr : OpG r a b (.bool c)) (hc : c = true → EvG tc Γ d) (hr' : c = true → OpG r' b d (.bool e)) : EvG (tChain r r' ta tb tc) Γ (.bool (c && e)) := fun L σ H Q lv he k =>
  ha L σ H _ lv he fun x H1 e1 d1 => hb L σ H1 _ (live_mono lv e1) (he.mono (hide_same e1)) fun y H2 e2 d2 =>
    hr L x y H2 _ (live_mono lv (e1.trans e2)) (d1.mono (hide_same e2)) d2 fun v H3 e3 d3 => ⟨c, d3.bl_of, by
      have e13 := (e1.trans e2).trans e3
      cases c with
      | true =>
        rw [if_pos rfl]
        exact hc rfl L σ H3 _ (live_mono lv e13) (he.mono (hide_same e13)) fun z H4 e4 d4 =>
          hr' rfl L y z H4 Q (live_mono lv (e13.trans e4)) (d2.mono (hide_same (e3.trans e4))) d4 fun v H5 e5 d5 => k v H5 ((e13.trans e4).trans e5) d5
      | false =>
        rw [if_neg (by decide)]
        exact k _ H3 e13 (.bl false)⟩
def truD : Dat → Bool
  | .bool b => b
  | .list xs => !xs.isEmpty
  | .tuple _ xs => !xs.isEmpty
  | .int i => i != 0
  | _ => false
theorem empty_len {α β : Type} {xs : List α} {ys : List β} (h : xs.length = ys.length) : xs.isEmpty = ys.isEmpty := by
  cases xs <;> cases ys <;> simp at h ⊢
theorem et_truth {K : PySem.W.Frag} {c : Bool} (h : EvG te Γ d) (hc : truD d = c) (hd : ∀ x, d ≠ .str x) : EvT (fun σ H Q => te σ H fun x H' => ∃ k, TruV K x H' k ∧ Q k H') Γ c := fun L σ H Q lv he k => h L σ H _ lv he fun v H1 e1 d1 => by
  refine ⟨c, ?_, k H1 e1⟩
  cases d1 with
  | non => exact hc.symm
  | bl b => exact hc.symm
  | int i => exact hc.symm
  | str x => exact absurd rfl (hd x)
  | lst h1 h2 => exact .inl ⟨_, .of (hide_some h1).2, by rw [← hc, empty_len h2.len]; rfl⟩
  | tup h1 h2 => exact .inr (.inl ⟨_, h1.sq, by rw [← hc, empty_len h2.len]; rfl⟩)
end

/-! ### calls -/
/-- a def that turns data into data, touching nothing -/
def spD (n : Nat) (R : List Dat → Dat → Prop) : Sp := fun vs H Q _ => ∃ (L : List Addr) (ds : List Dat) (d : Dat), ds.length = n ∧ Live L H ∧ DtAll (hide H L) vs ds ∧ R ds d ∧ ∀ v H', Same H H' → Dt (hide H' L) v d → Q v H'
theorem spD_len {n : Nat} {R : List Dat → Dat → Prop} : ∀ vs H Q E, spD n R vs H Q E → vs.length = n := fun vs H Q E ⟨L, ds, d, hn, _, hd, _⟩ => hd.len.trans hn
theorem ev_call {Γ : Gam} {n : Nat} {R : List Dat → Dat → Prop} {ta : TA} {ds : List Dat} {d : Dat} {E : XK} (h : EvA ta Γ ds) (hn : ds.length = n) (hR : R ds d) : EvG (tCall (spD n R) [] E ta) Γ d := fun L σ H Q lv he k =>
  h L σ H _ lv he fun vs H1 e1 d1 => ⟨L, ds, d, hn, live_mono lv e1, by rw [List.append_nil]; exact d1, hR, fun v H2 e2 d2 => k v H2 (e1.trans e2) d2⟩

section
variable {K : PySem.W.Frag} {d : Dat}
theorem cg_lenT {f : Bool} {ds : List Dat} : CallG (fun xs H Q => ∃ p ys, xs = [.ref p] ∧ (SqL K H p ys ∨ SqT K H p ys) ∧ Q (.int ys.length) H) [.tuple f ds] (.int ds.length) := fun L vs H Q lv dv k => by
  cases dv with
  | cons h t =>
    cases t
    obtain ⟨p, xs, rfl, h1, h2⟩ := h.tup_of
    refine ⟨p, xs, rfl, .inr (h1.sq), ?_⟩
    rw [h2.len]
    exact k _ H (Same.refl H) (.int _)
theorem cg_lenL {ds : List Dat} : CallG (fun xs H Q => ∃ p ys, xs = [.ref p] ∧ (SqL K H p ys ∨ SqT K H p ys) ∧ Q (.int ys.length) H) [.list ds] (.int ds.length) := fun L vs H Q lv dv k => by
  cases dv with
  | cons h t =>
    cases t
    obtain ⟨p, xs, rfl, h1, h2⟩ := h.lst_of
    refine ⟨p, xs, rfl, .inl (.of (hide_some h1).2), ?_⟩
    rw [h2.len]
    exact k _ H (Same.refl H) (.int _)
theorem cg_tuple {ds : List Dat} : CallG (fun xs H Q => ∃ p ys, xs = [.ref p] ∧ ((SqL K H p ys ∧ ∀ l, H l = none → Q (.ref l) (upd H l (.tup ys))) ∨ (SqT K H p ys ∧ Q (.ref p) H))) [.list ds] (.tuple false ds) := fun L vs H Q lv dv k => by
  cases dv with
  | cons h t =>
    cases t
    obtain ⟨p, xs, rfl, h1, h2⟩ := h.lst_of
    refine ⟨p, xs, rfl, .inl ⟨.of (hide_some h1).2, fun l hl => ?_⟩⟩
    have e := same_new hl (.tup xs)
    exact k _ _ e (.tup (rdt_new (live_new lv hl)) (h2.mono (hide_same e)))
theorem cg_listT {f : Bool} {ds : List Dat} : CallG (fun xs H Q => ∃ p ys, xs = [.ref p] ∧ (SqL K H p ys ∨ SqT K H p ys) ∧ ∀ l, H l = none → Q (.ref l) (upd H l (.lst ys))) [.tuple f ds] (.list ds) := fun L vs H Q lv dv k => by
  cases dv with
  | cons h t =>
    cases t
    obtain ⟨p, xs, rfl, h1, h2⟩ := h.tup_of
    refine ⟨p, xs, rfl, .inr (h1.sq), fun l hl => ?_⟩
    have e := same_new hl (.lst xs)
    exact k _ _ e (.lst (by rw [hide_out (live_new lv hl), upd_same]) (h2.mono (hide_same e)))
theorem all_bls (bs : List Bool) : (bs.map V.bl) = bs.map V.bl := rfl
theorem cg_all {bs : List Bool} : CallG (rAll K) [.list (bs.map .bool)] (.bool (bs.all id)) := fun L vs H Q lv dv k => by
  cases dv with
  | cons h t =>
    cases t
    obtain ⟨p, xs, rfl, h1, h2⟩ := h.lst_of
    obtain rfl := dt_bls h2
    exact ⟨p, bs, rfl, .of (hide_some h1).2, k _ H (Same.refl H) (.bl _)⟩
theorem cg_any {bs : List Bool} : CallG (rAny K) [.list (bs.map .bool)] (.bool (bs.any id)) := fun L vs H Q lv dv k => by
  cases dv with
  | cons h t =>
    cases t
    obtain ⟨p, xs, rfl, h1, h2⟩ := h.lst_of
    obtain rfl := dt_bls h2
    exact ⟨p, bs, rfl, .of (hide_some h1).2, k _ H (Same.refl H) (.bl _)⟩
theorem cg_max {i j : Int} : CallG (fun xs H Q => ∃ i j, xs = [.int i, .int j] ∧ Q (.int (if j > i then j else i)) H) [.int i, .int j] (.int (if j > i then j else i)) := fun L vs H Q lv dv k => by
  cases dv with
  | cons h t =>
    cases t with
    | cons h2 t2 =>
      cases t2
      exact ⟨i, j, by rw [h.int_of, h2.int_of], k _ H (Same.refl H) (.int _)⟩
theorem cg_min {i j : Int} : CallG (fun xs H Q => ∃ i j, xs = [.int i, .int j] ∧ Q (.int (if j < i then j else i)) H) [.int i, .int j] (.int (if j < i then j else i)) := fun L vs H Q lv dv k => by
  cases dv with
  | cons h t =>
    cases t with
    | cons h2 t2 =>
      cases t2
      exact ⟨i, j, by rw [h.int_of, h2.int_of], k _ H (Same.refl H) (.int _)⟩
theorem cg_abs {i : Int} : CallG (fun xs H Q => ∃ i, xs = [.int i] ∧ Q (.int (if i < 0 then -i else i)) H) [.int i] (.int (if i < 0 then -i else i)) := fun L vs H Q lv dv k => by
  cases dv with
  | cons h t =>
    cases t
    exact ⟨i, by rw [h.int_of], k _ H (Same.refl H) (.int _)⟩
theorem cg_intI {i : Int} : CallG (fun xs H Q => (∃ i, xs = [.int i] ∧ Q (.int i) H) ∨ ∃ k, xs = [.bl k] ∧ Q (.int (if k then 1 else 0)) H) [.int i] (.int i) := fun L vs H Q lv dv k => by
  cases dv with
  | cons h t =>
    cases t
    exact .inl ⟨i, by rw [h.int_of], k _ H (Same.refl H) (.int _)⟩
theorem cg_intB {b : Bool} : CallG (fun xs H Q => (∃ i, xs = [.int i] ∧ Q (.int i) H) ∨ ∃ k, xs = [.bl k] ∧ Q (.int (if k then 1 else 0)) H) [.bool b] (.int (if b then 1 else 0)) := fun L vs H Q lv dv k => by
  cases dv with
  | cons h t =>
    cases t
    exact .inr ⟨b, by rw [h.bl_of], k _ H (Same.refl H) (.int _)⟩

/-! isinstance -/
def tyD : Dat → String
  | .none => "NoneType"
  | .bool _ => "bool"
  | .int _ => "int"
  | .str _ => "str"
  | .list _ => "list"
  | .tuple _ _ => "tuple"
theorem dt_ty {H : Hp} {v : V} {d : Dat} (h : Dt H v d) : TyX K H v (.type (tyD d)) := by
  cases h with
  | non => exact .base .non
  | bl b => exact .base (.bl b)
  | int i => exact .base (.int i)
  | str x => exact .base (.str x)
  | lst h _ => exact .base (.lst h)
  | tup h _ =>
    rcases h.1 with q | ⟨o, q⟩
    · exact .base (.tup q)
    · exact .fTuple q
/-- a built-in class as an argument's value -/
theorem ev_isi {Γ : Gam} {te : TE} {T : String} {r : Bool} (h : EvG te Γ d) (hk : kitB (tyD d) T = some r) : EvG (tCB (rIsi K) (tCons te (tCons (tC (.ty T)) tNil))) Γ (.bool r) := fun L σ H Q lv he k =>
  h L σ H _ lv he fun v H1 e1 d1 => ⟨v, .ty T, _, _, r, rfl, .ty T, dt_ty d1.up, kit_ty hk, k _ H1 e1 (.bl r)⟩

/-! slices -/
def EvO (to : TO) (Γ : Gam) (o : Option Int) : Prop := ∀ (L : List Addr) (σ : L2.St) (H : Hp) (Q : Option Int → Hp → Prop), Live L H → Env (hide H L) σ Γ → (∀ H', Same H H' → Q o H') → to σ H Q
theorem eo_none {Γ : Gam} : EvO tNoPart Γ none := fun L σ H Q lv he k => k H (Same.refl H)
theorem eo_some {Γ : Gam} {te : TE} {i : Int} (h : EvG te Γ (.int i)) : EvO (tPart te) Γ (some i) := fun L σ H Q lv he k => h L σ H _ lv he fun v H1 e1 d1 => ⟨i, d1.int_of, k H1 e1⟩
def cutD (xs : List Dat) (lo hi : Option Int) : List Dat := (xs.drop (HT.sIx xs.length 0 lo)).take (HT.sIx xs.length xs.length hi - HT.sIx xs.length 0 lo)
theorem cut_dt {H : Hp} {vs : List V} {ds : List Dat} (h : DtAll H vs ds) (lo hi : Option Int) : DtAll H (cutV vs lo hi) (cutD ds lo hi) := by
  unfold cutV cutD
  rw [h.len]
  exact (h.drop _).take _
theorem ev_slT {Γ : Gam} {te : TE} {tl th : TO} {lo hi : Option Int} {f : Bool} {ds : List Dat} (h : EvG te Γ (.tuple f ds)) (hl : EvO tl Γ lo) (hh : EvO th Γ hi) : EvG (tSl (rSlA K) te tl th) Γ (.tuple false (cutD ds lo hi)) := fun L σ H Q lv he k =>
  h L σ H _ lv he fun x H1 e1 d1 => hl L σ H1 _ (live_mono lv e1) (he.mono (hide_same e1)) fun H2 e2 => hh L σ H2 _ (live_mono lv (e1.trans e2)) (he.mono (hide_same (e1.trans e2))) fun H3 e3 => by
    have e23 := e2.trans e3
    have d3 := d1.mono (hide_same e23)
    obtain ⟨a, xs, rfl, h1, h2⟩ := id d3.tup_of
    refine ⟨a, xs, rfl, h1.sq, fun hw => ?_, fun _ p hp => ?_⟩
    · have : cutD ds lo hi = ds := by
        unfold cutD
        rw [h2.len] at hw
        rw [hw.1, hw.2]
        simp
      rw [this] at k
      exact k _ H3 (e1.trans e23) d3.weak
    · have e4 := same_new hp (.tup (cutV xs lo hi))
      exact k _ _ ((e1.trans e23).trans e4) (.tup (rdt_new (live_new (live_mono lv (e1.trans e23)) hp)) ((cut_dt h2 lo hi).mono (hide_same e4)))
theorem ev_slL {Γ : Gam} {te : TE} {tl th : TO} {lo hi : Option Int} {ds : List Dat} (h : EvG te Γ (.list ds)) (hl : EvO tl Γ lo) (hh : EvO th Γ hi) : EvG (tSl (rSlL K) te tl th) Γ (.list (cutD ds lo hi)) := fun L σ H Q lv he k =>
  h L σ H _ lv he fun x H1 e1 d1 => hl L σ H1 _ (live_mono lv e1) (he.mono (hide_same e1)) fun H2 e2 => hh L σ H2 _ (live_mono lv (e1.trans e2)) (he.mono (hide_same (e1.trans e2))) fun H3 e3 => by
    have e23 := e2.trans e3
    have d3 := d1.mono (hide_same e23)
    obtain ⟨a, xs, rfl, h1, h2⟩ := id d3.lst_of
    refine ⟨a, xs, rfl, .of (hide_some h1).2, fun p hp => ?_⟩
    have e4 := same_new hp (.lst (cutV xs lo hi))
    exact k _ _ ((e1.trans e23).trans e4) (.lst (by rw [hide_out (live_new (live_mono lv (e1.trans e23)) hp), upd_same]) ((cut_dt h2 lo hi).mono (hide_same e4)))
theorem cut_lo (ds : List Dat) (j : Nat) (h : j ≤ ds.length) : cutD ds (some (j : Int)) none = ds.drop j := by
  unfold cutD
  rw [HT.sIx_nat, HT.sIx_none, Nat.min_eq_left h]
  rw [List.take_of_length_le (by rw [List.length_drop]; exact Nat.le_refl _)]
theorem cut_hi (ds : List Dat) (j : Nat) (h : j ≤ ds.length) : cutD ds none (some (j : Int)) = ds.take j := by
  unfold cutD
  rw [HT.sIx_nat, HT.sIx_none, Nat.min_eq_left h, Nat.sub_zero, List.drop_zero]

/-! list(range), tuple(range) -/
theorem ints_rg (n : Nat) : rgV 0 (n : Int) = ((List.range n).map fun i : Nat => (i : Int)).map V.int := by
  unfold rgV
  rw [List.map_map, Int.sub_zero, Int.toNat_natCast]
  refine List.map_congr_left fun i _ => ?_
  show V.int (0 + (i : Int)) = V.int (i : Int)
  rw [Int.zero_add]
theorem ev_lstRg {Γ : Gam} {te : TE} {n : Nat} (h : EvG te Γ (.int (n : Int))) (hn : n ≤ 100000) : EvG (tLstRg (tRg1 te)) Γ (.list (((List.range n).map fun i : Nat => (i : Int)).map .int)) := fun L σ H Q lv he k =>
  h L σ H _ lv he fun v H1 e1 d1 => ⟨(n : Int), d1.int_of, RgOk.of_le (by omega) (by omega) (by omega) (by omega), fun q hq => by
    have e := same_new hq (.lst (rgV 0 (n : Int)))
    refine k _ _ (e1.trans e) (.lst (by rw [hide_out (live_new (live_mono lv e1) hq), upd_same]) ?_)
    rw [ints_rg]
    exact ints_dt _⟩
theorem ev_tupRg {Γ : Gam} {te : TE} {n : Nat} (h : EvG te Γ (.int (n : Int))) (hn : n ≤ 100000) : EvG (tTupRg (tRg1 te)) Γ (.tuple false (((List.range n).map fun i : Nat => (i : Int)).map .int)) := fun L σ H Q lv he k =>
  h L σ H _ lv he fun v H1 e1 d1 => ⟨(n : Int), d1.int_of, RgOk.of_le (by omega) (by omega) (by omega) (by omega), fun q hq => by
    have e := same_new hq (.tup (rgV 0 (n : Int)))
    refine k _ _ (e1.trans e) (.tup (rdt_new (live_new (live_mono lv e1) hq)) ?_)
    rw [ints_rg]
    exact ints_dt _⟩
end

/-! ### what is walked -/
/-- all but what is hidden stands -/
def SameX (L : List Addr) (H H' : Hp) : Prop := Same (hide H L) (hide H' L)

/-- J gives the items from H1 on, whatever is laid meanwhile, whatever becomes of what is hidden -/
structure ItG (J : It) (L : List Addr) (H1 : Hp) (items : List Dat) : Prop where
  goes : ∀ i H, i < items.length → SameX L H1 H → J.go i H
  stops : ∀ H, SameX L H1 H → J.stop items.length H
  yields : ∀ i H x H' (L2 : List Addr) d, items[i]? = some d → SameX L H1 H → J.yld i H x H' → (∀ l ∈ L2, l ∈ L ∨ H1 l = none) → Live L2 H → Same H H' ∧ Dt (hide H' L2) x d
def WalkG (wi : TI) (Γ : Gam) (items : List Dat) : Prop := ∀ (L : List Addr) (σ : L2.St) (H : Hp) (R : It → Hp → Prop), Live L H → Env (hide H L) σ Γ → (∀ J H1, Same H H1 → ItG J L H1 items → R J H1) → wi σ H R
theorem hide_ext {H1 H : Hp} {L L2 : List Addr} (e : SameX L H1 H) (h : ∀ l ∈ L2, l ∈ L ∨ H1 l = none) : Same (hide H1 L) (hide H L2) := fun a o q => by
  obtain ⟨h1, h2⟩ := hide_some q
  rw [hide_out (fun z => (h a z).elim h1 fun n => by rw [n] at h2; cases h2)]
  exact (hide_some (e a o q)).2
section
variable {K : PySem.W.Frag} {Γ : Gam}
theorem wg_list {tl : TE} {ds : List Dat} (h : EvG tl Γ (.list ds)) : WalkG (iList K tl) Γ ds := fun L σ H R lv he k =>
  h L σ H _ lv he fun v H1 e1 d1 => by
    obtain ⟨a, xs, rfl, h1, h2⟩ := d1.lst_of
    have hs : ∀ H, SameX L H1 H → SqL K H a xs := fun H e => .of (hide_some (e _ _ h1)).2
    refine ⟨a, rfl, ⟨xs, .of (hide_some h1).2⟩, k _ H1 e1 ⟨fun i H hi e => ?_, fun H e => ?_, fun i H x H' L2 d hd e y hL lv2 => ?_⟩⟩
    · exact (walk_list (K := K) (a := a) (xs := xs)).goes i H (by rw [h2.len]; exact hi) (hs H e)
    · have := (walk_list (K := K) (a := a) (xs := xs)).stops H (hs H e)
      rw [h2.len] at this
      exact this
    · have hi : i < xs.length := by rw [h2.len]; exact (List.getElem?_eq_some_iff.mp hd).1
      obtain ⟨rfl, hx⟩ := (walk_list (K := K) (a := a) (xs := xs)).yields i H x H' hi (hs H e) y
      obtain ⟨w, h3, h4⟩ := h2.get hd
      rw [hx] at h3; cases h3
      exact ⟨Same.refl _, h4.mono (hide_ext e hL)⟩
theorem wg_tup {tl : TE} {f : Bool} {ds : List Dat} (h : EvG tl Γ (.tuple f ds)) : WalkG (iTup K tl) Γ ds := fun L σ H R lv he k =>
  h L σ H _ lv he fun v H1 e1 d1 => by
    obtain ⟨a, xs, rfl, h1, h2⟩ := d1.tup_of
    have hs : ∀ H, SameX L H1 H → SqT K H a xs := fun H e => (h1.mono e).sq
    refine ⟨a, rfl, ⟨xs, h1.sq⟩, k _ H1 e1 ⟨fun i H hi e => ?_, fun H e => ?_, fun i H x H' L2 d hd e y hL lv2 => ?_⟩⟩
    · exact (walk_tup (K := K) (a := a) (xs := xs)).goes i H (by rw [h2.len]; exact hi) (hs H e)
    · have := (walk_tup (K := K) (a := a) (xs := xs)).stops H (hs H e)
      rw [h2.len] at this
      exact this
    · have hi : i < xs.length := by rw [h2.len]; exact (List.getElem?_eq_some_iff.mp hd).1
      obtain ⟨rfl, hx⟩ := (walk_tup (K := K) (a := a) (xs := xs)).yields i H x H' hi (hs H e) y
      obtain ⟨w, h3, h4⟩ := h2.get hd
      rw [hx] at h3; cases h3
      exact ⟨Same.refl _, h4.mono (hide_ext e hL)⟩
theorem itg_rng {L : List Addr} {H1 : Hp} {n : Nat} : ItG (Itr 0 n) L H1 (((List.range n).map fun i : Nat => (i : Int)).map .int) := by
  refine ⟨fun i H hi _ => ?_, fun H _ => ?_, fun i H x H' L2 d hd e y hL lv2 => ?_⟩
  · show i < n
    simpa using hi
  · show n ≤ _
    simp
  · have y' : H' = H ∧ x = .int (0 + (i : Int)) := y
    obtain ⟨rfl, rfl⟩ := y'
    have hi : i < n := by
      have := (List.getElem?_eq_some_iff.mp hd).1
      simpa using this
    rw [List.map_map, List.getElem?_map, List.getElem?_range hi] at hd
    cases hd
    rw [Int.zero_add]
    exact ⟨Same.refl _, .int _⟩
theorem wg_rng {te : TE} {n : Nat} (h : EvG te Γ (.int (n : Int))) (hn : n ≤ 100000) : WalkG (iRng1 (tCons te tNil)) Γ (((List.range n).map fun i : Nat => (i : Int)).map .int) := fun L σ H R lv he k =>
  h L σ H _ lv he fun v H1 e1 d1 => ⟨(n : Int), by rw [d1.int_of], by omega, by omega, by rw [Int.toNat_natCast]; exact k _ H1 e1 itg_rng⟩

/-! ### targets -/
/-- data stored into a target: nothing but the slots vs is touched -/
def TgG (g : TG) (vs : List Nat) (Γ : Gam) (d : Dat) (Γ' : Gam) : Prop := ∀ (L : List Addr) (σ : L2.St) (H : Hp) (x : V) (Q : L2.St → Hp → Prop), Env (hide H L) σ Γ → Dt (hide H L) x d → (∀ σ', Env (hide H L) σ' Γ' → wipe σ' vs = wipe σ vs → Q σ' H) → g x σ H Q
theorem tg_name {i : Nat} {vs : List Nat} (hi : i ∈ vs) {d : Dat} : TgG (gName i) vs Γ d (Γ.set i (.dat d)) := fun L σ H x Q he hd k => k _ (he.setD hd) (wipe_set hi)
def TgsG (g : TGs) (vs : List Nat) (Γ : Gam) (ds : List Dat) (Γ' : Gam) : Prop := ∀ (L : List Addr) (σ : L2.St) (H : Hp) (xs : List V) (Q : L2.St → Hp → Prop), Env (hide H L) σ Γ → DtAll (hide H L) xs ds → (∀ σ', Env (hide H L) σ' Γ' → wipe σ' vs = wipe σ vs → Q σ' H) → g xs σ H Q
theorem tgs_nil {vs : List Nat} : TgsG gNil vs Γ [] Γ := fun L σ H xs Q he hd k => by cases hd; exact ⟨rfl, k σ he rfl⟩
theorem tgs_cons {g : TG} {gs : TGs} {vs : List Nat} {d : Dat} {ds : List Dat} {Γ1 Γ2 : Gam} (h1 : TgG g vs Γ d Γ1) (h2 : TgsG gs vs Γ1 ds Γ2) : TgsG (gCons g gs) vs Γ (d :: ds) Γ2 := fun L σ H xs Q he hd k => by
  cases hd with
  | cons a t => exact ⟨_, _, rfl, h1 L σ H _ _ he a fun σ1 he1 w1 => h2 L σ1 H _ Q he1 t fun σ2 he2 w2 => k σ2 he2 (w2.trans w1)⟩
theorem tg_tup {gs : TGs} {vs : List Nat} {n : Nat} {f : Bool} {ds : List Dat} {Γ' : Gam} (h : TgsG gs vs Γ ds Γ') (hn : ds.length = n) : TgG (gTup K n gs) vs Γ (.tuple f ds) Γ' := fun L σ H x Q he hd k => by
  obtain ⟨a, xs, rfl, h1, h2⟩ := hd.tup_of
  exact ⟨a, xs, rfl, h1.sq, by rw [h2.len, hn], h L σ H xs Q he h2 k⟩

/-! ### comprehensions -/
theorem ev_lc {α : Type} {wi : TI} {g : TG} {tt : TT} {te : TE} {vs : List Nat} {items : List α} {enc : α → Dat} {Γ1 : α → Gam} {p : α → Bool} {f : α → Dat}
    (hw : WalkG wi Γ (items.map enc)) (hg : ∀ x ∈ items, TgG g vs (blank Γ vs) (enc x) (Γ1 x)) (ht : ∀ x ∈ items, EvT tt (Γ1 x) (p x)) (he : ∀ x ∈ items, p x = true → EvG te (Γ1 x) (f x)) (hn : items.length < 100000) :
    EvG (tLc wi g tt te vs) Γ (.list ((items.filter p).map f)) := fun L σ H0 Q lv env k => hw L σ H0 _ lv env fun J H1 e1 G D hD => by
  have lv1 := live_mono lv e1
  have hDL := live_new lv1 hD
  have envW : ∀ H, Same H1 H → Env (hide H (D :: L)) (wipe σ vs) (blank Γ vs) := fun H e => ((env.mono (hide_same e1)).mono (hide_more e hD)).wipe vs
  have dom : ∀ l ∈ D :: L, l ∈ L ∨ H1 l = none := fun l hl => (List.mem_cons.mp hl).elim (fun z => .inr (z ▸ hD)) .inl
  have hz : (items.length : Nat) < sizeLine := Nat.lt_of_lt_of_le hn (by decide)
  refine ⟨fun i m H => m = items.length - i ∧ i ≤ items.length ∧ Same H1 H ∧ ∃ acc, H D = some (.lst acc) ∧ DtAll (hide H (D :: L)) acc (((items.take i).filter p).map f), ⟨_, rfl, Nat.zero_le _, same_new hD _, [], upd_same, .nil⟩, ?_⟩
  rintro i m H ⟨rfl, hi, e, acc, hA, dA⟩
  by_cases hlt : i < items.length
  · have hx : items[i]? = some items[i] := List.getElem?_eq_getElem hlt
    have hm : items[i] ∈ items := List.getElem_mem hlt
    have hd : (items.map enc)[i]? = some (enc items[i]) := by rw [List.getElem?_map, hx]; rfl
    have htk : items.take (i + 1) = items.take i ++ [items[i]] := by rw [List.take_add_one, hx]; rfl
    refine .inr ⟨G.goes i H (by rw [List.length_map]; exact hlt) (hide_same e), fun H' => Same H1 H' ∧ ∃ acc, H' D = some (.lst acc) ∧ DtAll (hide H' (D :: L)) acc (((items.take (i + 1)).filter p).map f), fun H' h => ⟨_, by omega, rfl, hlt, h⟩, fun x H' y => ?_⟩
    have lvD : Live (D :: L) H := live_cons (live_mono lv1 e) hA
    obtain ⟨e2, dx⟩ := G.yields i H x H' (D :: L) _ hd (hide_same e) y dom lvD
    have e12 := e.trans e2
    refine hg _ hm (D :: L) _ H' x _ (envW H' e12) dx fun σ2 env2 w2 => ⟨by rw [w2, wipe_wipe vs vs fun _ h => h], ?_⟩
    refine ht _ hm (D :: L) σ2 H' _ (live_mono lvD e2) env2 fun H3 e3 => ?_
    have e23 := e2.trans e3
    cases hp : p items[i] with
    | true =>
      rw [if_pos rfl]
      refine he _ hm hp (D :: L) σ2 H3 _ (live_mono lvD e23) (env2.mono (hide_same e3)) fun v H4 e4 d4 => ?_
      have e24 := e23.trans e4
      have hl : acc.length = (((items.take i).filter p).map f).length := dA.len
      refine ⟨acc, e24 _ _ hA, ?_, fun a o q => ?_, acc ++ [v], upd_same, ?_⟩
      · have h1 := List.length_filter_le p (items.take i)
        rw [List.length_take] at h1
        rw [List.length_map] at hl
        omega
      · rw [upd_ne (show a ≠ D from fun z => by rw [z, hD] at q; cases q)]
        exact (e.trans e24) a o q
      · rw [hide_upd List.mem_cons_self, htk, List.filter_append, List.map_append, List.filter_cons, if_pos hp]
        exact (dA.mono (hide_same e24)).append (.one d4)
    | false =>
      rw [if_neg (by decide)]
      refine ⟨e.trans e23, acc, e23 _ _ hA, ?_⟩
      rw [htk, List.filter_append, List.map_append, List.filter_cons, if_neg (by rw [hp]; decide), List.filter_nil, List.map_nil, List.append_nil]
      exact dA.mono (hide_same e23)
  · have ei : i = items.length := by omega
    refine .inl ⟨?_, k _ H (e1.trans e) (.lst (xs := acc) (by rw [hide_out hDL]; exact hA) ?_)⟩
    · have := G.stops H (hide_same e)
      rw [List.length_map] at this
      rw [ei]; exact this
    · rw [ei, List.take_length] at dA
      exact dA.mono hide_less
/-- no tests -/
theorem ev_lc0 {α : Type} {wi : TI} {g : TG} {te : TE} {vs : List Nat} {items : List α} {enc : α → Dat} {Γ1 : α → Gam} {f : α → Dat}
    (hw : WalkG wi Γ (items.map enc)) (hg : ∀ x ∈ items, TgG g vs (blank Γ vs) (enc x) (Γ1 x)) (he : ∀ x ∈ items, EvG te (Γ1 x) (f x)) (hn : items.length < 100000) :
    EvG (tLc wi g tYes te vs) Γ (.list (items.map f)) := by
  have := ev_lc (p := fun _ => true) hw hg (fun _ _ => et_yes) (fun x hx _ => he x hx) hn
  rwa [List.filter_eq_self.mpr (fun _ _ => rfl)] at this

/-! ### statements -/
/-- it hands back o, or goes on to Γ' -/
def Stm (ts : TS) (Γ : Gam) (o : Option Dat) (Γ' : Gam) : Prop := ∀ (L : List Addr) (σ : L2.St) (H : Hp) (D : Ends), Live L H → Env (hide H L) σ Γ → (∀ d, o = some d → ∀ v H', Same H H' → Dt (hide H' L) v d → D.rt v H') → (o = none → ∀ σ' H', Same H H' → Env (hide H' L) σ' Γ' → D.nx σ' H') → ts D σ H
variable {ts tu : TS} {Γ' Γ1 : Gam} {o : Option Dat}
theorem st_next : Stm tNext Γ none Γ := fun L σ H D lv he _ k => k rfl σ H (Same.refl H) he
theorem st_ret {te : TE} {d : Dat} (h : EvG te Γ d) : Stm (tRet te) Γ (some d) Γ' := fun L σ H D lv he k _ => h L σ H _ lv he fun v H1 e1 d1 => k d rfl v H1 e1 d1
theorem st_asg {te : TE} {d : Dat} {i : Nat} (h : EvG te Γ d) : Stm (tAsg te (gName i)) Γ none (Γ.set i (.dat d)) := fun L σ H D lv he _ k => h L σ H _ lv he fun v H1 e1 d1 => k rfl _ H1 e1 ((he.mono (hide_same e1)).setD d1)
theorem st_drop {te : TE} {d : Dat} (h : EvG te Γ d) : Stm (tDrop te) Γ none Γ := fun L σ H D lv he _ k => h L σ H _ lv he fun v H1 e1 d1 => k rfl σ H1 e1 (he.mono (hide_same e1))
theorem st_seq (h1 : Stm ts Γ none Γ1) (h2 : Stm tu Γ1 o Γ') : Stm (tSeq ts tu) Γ o Γ' := fun L σ H D lv he k1 k2 =>
  h1 L σ H _ lv he (fun _ q => nomatch q) fun _ σ1 H1 e1 he1 => h2 L σ1 H1 D (live_mono lv e1) he1 (fun d q v H2 e2 d2 => k1 d q v H2 (e1.trans e2) d2) fun q σ2 H2 e2 he2 => k2 q σ2 H2 (e1.trans e2) he2
theorem st_seqo {o1 o2 : Option Dat} (h1 : Stm ts Γ o1 Γ1) (h2 : o1 = none → Stm tu Γ1 o2 Γ') : Stm (tSeq ts tu) Γ (o1.or o2) Γ' := by
  cases o1 with
  | none => exact st_seq h1 (h2 rfl)
  | some d => exact fun L σ H D lv he k1 k2 => h1 L σ H _ lv he (fun d q v H' e dv => k1 d q v H' e dv) fun q => nomatch q
theorem st_if {c : TT} {b : Bool} (hc : EvT c Γ b) (h1 : b = true → Stm ts Γ o Γ') (h2 : b = false → Stm tu Γ o Γ') : Stm (tIfS c ts tu) Γ o Γ' := fun L σ H D lv he k1 k2 =>
  hc L σ H _ lv he fun H1 e1 => by
    cases b with
    | true =>
      rw [if_pos rfl]
      exact h1 rfl L σ H1 D (live_mono lv e1) (he.mono (hide_same e1)) (fun d q v H2 e2 d2 => k1 d q v H2 (e1.trans e2) d2) fun q σ2 H2 e2 he2 => k2 q σ2 H2 (e1.trans e2) he2
    | false =>
      rw [if_neg (by decide)]
      exact h2 rfl L σ H1 D (live_mono lv e1) (he.mono (hide_same e1)) (fun d q v H2 e2 d2 => k1 d q v H2 (e1.trans e2) d2) fun q σ2 H2 e2 he2 => k2 q σ2 H2 (e1.trans e2) he2
/-- an if that hands back or goes on -/
theorem st_ifR {c : TT} {b : Bool} {d : Dat} (hc : EvT c Γ b) (h1 : b = true → Stm ts Γ (some d) Γ) : Stm (tIfS c ts tNext) Γ (if b = true then some d else none) Γ := by
  cases b with
  | true => exact st_if hc h1 fun q => nomatch q
  | false => exact st_if hc (fun q => nomatch q) fun _ => st_next
theorem st_never (h : False) : Stm ts Γ o Γ' := h.elim
/-- slots forgotten behind -/
theorem st_weak {vs : List Nat} (h : Stm ts Γ o Γ1) : Stm ts Γ o (blank Γ1 vs) := fun L σ H D lv he k1 k2 => h L σ H D lv he k1 fun q σ' H' e he' => k2 q σ' H' e (he'.blank vs)
theorem st_pre {vs : List Nat} (h : Stm ts (blank Γ vs) o Γ1) : Stm ts Γ o Γ1 := fun L σ H D lv he k1 k2 => h L σ H D lv (he.blank vs) k1 k2
theorem Stm.is {o' : Option Dat} (h : Stm ts Γ o Γ') (e : o = o') : Stm ts Γ o' Γ' := e ▸ h
/-- a for whose turns change nothing but the slots vs, and may hand back -/
theorem st_for {α : Type} {wi : TI} {g : TG} {tb : TS} {vs : List Nat} {items : List α} {enc : α → Dat} {Γ1 : α → Gam} {q : α → Option Dat} (hw : WalkG wi Γ (items.map enc)) (hg : ∀ x ∈ items, TgG g vs (blank Γ vs) (enc x) (Γ1 x))
    (hb : ∀ x ∈ items, Stm tb (Γ1 x) (q x) (blank Γ vs)) : Stm (tFor wi g tb) Γ (items.findSome? q) (blank Γ vs) := fun L σ H0 D lv env k1 k2 => hw L σ H0 _ lv env fun J H1 e1 G => by
  have lv1 := live_mono lv e1
  refine ⟨fun i m σ H => m = items.length - i ∧ i ≤ items.length ∧ Same H1 H ∧ Env (hide H L) σ (blank Γ vs) ∧ (items.take i).findSome? q = none, ⟨_, rfl, Nat.zero_le _, Same.refl _, (env.mono (hide_same e1)).blank vs, rfl⟩, ?_⟩
  rintro i m σ' H ⟨rfl, hi, e, env', hno⟩
  by_cases hlt : i < items.length
  · have hx : items[i]? = some items[i] := List.getElem?_eq_getElem hlt
    have hm : items[i] ∈ items := List.getElem_mem hlt
    have hd : (items.map enc)[i]? = some (enc items[i]) := by rw [List.getElem?_map, hx]; rfl
    have htk : items.take (i + 1) = items.take i ++ [items[i]] := by rw [List.take_add_one, hx]; rfl
    refine .inr ⟨G.goes i H (by rw [List.length_map]; exact hlt) (hide_same e), fun σ2 H' => Same H1 H' ∧ Env (hide H' L) σ2 (blank Γ vs) ∧ (items.take (i + 1)).findSome? q = none, fun σ2 H' h => ⟨_, by omega, rfl, hlt, h⟩, fun x H' y => ?_⟩
    obtain ⟨e2, dx⟩ := G.yields i H x H' L _ hd (hide_same e) y (fun l hl => .inl hl) (live_mono lv1 e)
    have e12 := e.trans e2
    refine hg _ hm L σ' H' x _ (env'.mono (hide_same e2)) dx fun σ2 env2 w2 => ?_
    refine hb _ hm L σ2 H' _ (live_mono lv1 e12) env2 (fun d hq v H3 e3 d3 => ?_) fun hq σ3 H3 e3 env3 => ?_
    · refine k1 d ?_ v H3 ((e1.trans e12).trans e3) d3
      have : items = items.take i ++ items[i] :: items.drop (i + 1) := by rw [List.getElem_cons_drop, List.take_append_drop]
      rw [this, List.findSome?_append, hno, Option.none_or, List.findSome?_cons, hq]
    · refine ⟨e12.trans e3, env3, ?_⟩
      rw [htk, List.findSome?_append, hno, Option.none_or, List.findSome?_cons, hq]
      rfl
  · have ei : i = items.length := by omega
    refine .inl ⟨?_, ?_⟩
    · have := G.stops H (hide_same e)
      rw [List.length_map] at this
      rw [ei]; exact this
    · rw [ei, List.take_length] at hno
      exact k2 hno σ' H (e1.trans e) env'
/-- a def's end: what it hands back, or None -/
def Fin (ts : TS) (Γ : Gam) (d : Dat) : Prop := ∃ o Γ', Stm ts Γ o Γ' ∧ o.getD .none = d
theorem Fin.mk {d : Dat} (h : Stm ts Γ o Γ') (e : o.getD .none = d) : Fin ts Γ d := ⟨o, Γ', h, e⟩
theorem Fin.ret {d : Dat} (h : Stm ts Γ (some d) Γ') : Fin ts Γ d := ⟨_, _, h, rfl⟩
def gam (N : List Str) (ds : List Dat) : Gam := ds.map Slot.dat ++ List.replicate (N.length - ds.length) .no
theorem env_start {H : Hp} {N : List Str} : ∀ {vs : List V} {ds : List Dat}, DtAll H vs ds → Env H (L2.start N vs) (gam N ds) := by
  intro vs ds h
  have hl := h.len
  refine ⟨by simp [L2.start, gam, hl], fun i s e => ?_⟩
  unfold gam at e
  unfold L2.start
  by_cases hi : i < ds.length
  · rw [List.getElem?_append_left (by simpa using hi), List.getElem?_map] at e
    obtain ⟨d, hd, rfl⟩ := Option.map_eq_some_iff.mp e
    obtain ⟨v, h1, h2⟩ := h.get hd
    exact ⟨some v, by rw [List.getElem?_append_left (by simp; omega), List.getElem?_map, h1]; rfl, h2⟩
  · rw [List.getElem?_append_right (by simp; omega), List.length_map] at e
    have hb := List.getElem?_eq_some_iff.mp e
    obtain ⟨hb1, hb2⟩ := hb
    rw [List.getElem_replicate] at hb2
    rw [List.length_replicate] at hb1
    subst hb2
    exact ⟨none, by rw [List.getElem?_append_right (by simp; omega), List.length_map, hl, List.getElem?_replicate, if_pos (by omega)], True.intro⟩
end
section
open PyProof.Rows
variable {P : Program} {w : World} {K : PySem.W.Frag} {mg : Str → Option Value} {base : Heap}
/-- a def over data, by its body -/
theorem okD {x qual : Str} {params : Arguments} {body : List Stmt} {scope : Scope} {f : Addr} {fd : FuncData} {N ps : List Str} {k n : Nat} {R : List Dat → Dat → Prop} (F : FunD K x qual params body scope [] [] f fd) (S : FnScope N ps scope) (hn : ps.length = n)
    (hbody : ∀ (cdv : Value) (A : Around) (outer : List PySem.Env) (s : Shared) (H : Hp) (E : XK), Room k (A.deeper (envOfC qual scope s.heap.objs.size f cdv)) →
      ∃ t, PSs (cxOf CX0 P w K mg base N qual scope f cdv A outer s H E).nox body t ∧ ∀ ds d, R ds d → Fin t (gam N ds) d) : FnOk P w K mg base CX0 (k + 1) f fd ps (spD n R) := by
  refine F.ok S (fun vs H Q E h => by rw [hn]; exact spD_len vs H Q E h) (fun cdv A outer s H vs Q E hr h => ?_)
  obtain ⟨t, ht, hf⟩ := hbody cdv A outer s H E hr
  obtain ⟨L, ds, d, hl, lv, hd, hR, q⟩ := h
  obtain ⟨o, Γ', hs, e⟩ := hf ds d hR
  refine ⟨t, ht.nox, hs L (L2.start N vs) H _ lv (env_start hd) (fun d' ho v H' e1 d1 => ?_) fun ho σ' H' e1 he => ?_⟩
  · subst ho
    exact q v H' e1 (by rw [← e]; exact d1)
  · subst ho
    exact q .non H' e1 (by rw [← e]; exact .non)
end
end Nr
set_option Elab.async false
set_option linter.all false
set_option maxRecDepth 100000
set_option maxHeartbeats 2000000
/-! Rules of our own over the layer: the fragment as a letter; enumerate of a tuple; index, sorted of tuples; order of data. -/
namespace Nr
open PySem PySem.Spec PyProof.Rows L2

/-! ### the layer's rules, the fragment a letter -/
section
variable {X : Cx} {K : PySem.W.Frag}
theorem kx_ixT (h : X.K = K := by rfl) : IxR X (rIxT K) := h ▸ ix_tup
theorem kx_ixL (h : X.K = K := by rfl) : IxR X (rIxL K) := h ▸ ix_list
theorem kx_catA (h : X.K = K := by rfl) : OpR X (binaryOp .Add) (rCatA K) := h ▸ op_catA
theorem kx_eqD (hu : X.A.units + 64 < cLine) (h : X.K = K := by rfl) : OpR X (compareOp .Eq) (rEqD K) := h ▸ op_eqD hu
theorem kx_neD (hu : X.A.units + 64 < cLine) (h : X.K = K := by rfl) : OpR X (compareOp .NotEq) (rNeD K) := h ▸ op_neD hu
theorem kx_in (h : X.K = K := by rfl) : OpR X (compareOp .In) (rIn K false) := h ▸ op_in_seq
theorem kx_notIn (h : X.K = K := by rfl) : OpR X (compareOp .NotIn) (rIn K true) := h ▸ op_notIn_seq
theorem kx_notInD (hu : X.A.units + 65 < cLine) (h : X.K = K := by rfl) : OpR X (compareOp .NotIn) (rNotInD K) := h ▸ op_notInD hu
def rLenK (K : PySem.W.Frag) : List V → Hp → VK → Prop := fun xs H Q => ∃ p ys, xs = [.ref p] ∧ (SqL K H p ys ∨ SqT K H p ys) ∧ Q (.int ys.length) H
theorem kx_len (h : X.K = K := by rfl) : CallR X (.builtin "len") (rLenK K) := h ▸ call_len_seq
def rTupK (K : PySem.W.Frag) : List V → Hp → VK → Prop := fun xs H Q => ∃ p ys, xs = [.ref p] ∧ ((SqL K H p ys ∧ ∀ l, H l = none → Q (.ref l) (upd H l (.tup ys))) ∨ (SqT K H p ys ∧ Q (.ref p) H))
theorem kx_tuple (h : X.K = K := by rfl) : CallR X (.type "tuple") (rTupK K) := h ▸ call_tuple_of
def rLstK (K : PySem.W.Frag) : List V → Hp → VK → Prop := fun xs H Q => ∃ p ys, xs = [.ref p] ∧ (SqL K H p ys ∨ SqT K H p ys) ∧ ∀ l, H l = none → Q (.ref l) (upd H l (.lst ys))
theorem kx_list (h : X.K = K := by rfl) : CallR X (.type "list") (rLstK K) := h ▸ call_list_of
theorem kx_all (hc : X.calm = true) (h : X.K = K := by rfl) : CallR X (.builtin "all") (rAll K) := h ▸ cr_all hc
theorem kx_any (hc : X.calm = true) (h : X.K = K := by rfl) : CallR X (.builtin "any") (rAny K) := h ▸ cr_any hc
theorem kx_isi (h : X.K = K := by rfl) : CallR X (.builtin "isinstance") (rIsi K) := h ▸ call_isi
theorem kx_slT (h : X.K = K := by rfl) : SlR X (rSlA K) := h ▸ sl_tupA
theorem kx_slL (h : X.K = K := by rfl) : SlR X (rSlL K) := h ▸ sl_list
theorem kx_piL {tg l : Expr} {tl : TE} (hl : PE X l tl) (h : X.K = K := by rfl) : PI X tg l (iList K tl) := h ▸ pi_list hl
theorem kx_piT {tg l : Expr} {tl : TE} (hl : PE X l tl) (h : X.K = K := by rfl) : PI X tg l (iTup K tl) := h ▸ pi_tup hl
theorem kx_pgT {pos : Pos} {es : List Expr} {k : Nat} {t : TGs} {n : Nat} (hc : X.calm = true) (hp : PGs X es t) (hn : (assignEach es X.env).length = n := by rfl) (hst : (assignEach es X.env).findIdx? (·.1) = none := by rfl) (h : X.K = K := by rfl) : PG X (.Tuple es k pos) (gTup K n t) := by
  subst h
  exact pg_tup hc hp hn hst
def tTruth (K : PySem.W.Frag) (ta : TE) : TT := fun σ H Q => ta σ H fun x H' => ∃ k, TruV K x H' k ∧ Q k H'
theorem kx_truth {a : Expr} {ta : TE} (ha : PE X a ta) (he : ∀ whole, isTrue a X.env whole = (do let v ← whole; standAt a.pos; holding [v] (truthy v)) := by intro _; rfl) (h : X.K = K := by rfl) : PT X a (tTruth K ta) := by
  subst h
  exact pt_truth ha he
end

/-! ### defs of the text, calls of them -/
abbrev Own (K : PySem.W.Frag) (mg : Str → Option Value) (g x : Str) (st : Stmt) : Prop := ∃ f fd, FunD K x x (defArgs st) (defBody st) (defScope st) [] [] f fd ∧ mg g = some (.ref f)
structure Cal (P : Program) (w : World) (K : PySem.W.Frag) (mg : Str → Option Value) (base : Heap) (x : Str) (k : Nat) (ps : List Str) (sp : Sp) : Prop where
  ex : ∃ f fd, mg x = some (.ref f) ∧ PySem.W.keepIn K (.ref f) = true ∧ Binds K fd ps [] ∧ FnOk P w K mg base CX0 k f fd ps sp
theorem pe_cal {X : Cx} {x : Str} {p pos : Pos} {e : Expr} {es : List Expr} {ps : List Str} {sp : Sp} {t : TA} {k j : Nat} (C : Cal X.prog X.w X.K X.mg X.base x k ps sp) (hr : Room j X.A) (hk : k ≤ j) (hg : Gl X x) (ha : PA X (e :: es) t) (hdb : (x == ("__debug__" : Str)) = false := by decide)
    (he : starEach (e :: es) X.env = (false, eval e X.env) :: starEach es X.env := by rfl) (hpl : (backTo pos (starEach es X.env)).any (·.1) = false := by rfl) : PE X (.Call (.Name x p) (e :: es) [] pos) (tCall sp [] E0 t) := by
  obtain ⟨f, fd, m, kp, b, F⟩ := C.ex
  exact pe_call F (hr.mono hk) hg m kp b .nil pass0 ha hdb he hpl
theorem pe_gl {X : Cx} {x : Str} {v : V} {pos : Pos} (hg : Gl X x) (hm : ∃ u, X.mg x = some u ∧ RelV v u) (hd : (x == ("__debug__" : Str)) = false := by decide) : PE X (.Name x pos) (tC v) := by
  obtain ⟨u, h1, h2⟩ := hm
  exact pe_glob hg h1 h2 hd
/-- the module's names that the defs use: built-ins, constants -/
structure Zs (mg : Str → Option Value) : Prop where
  z_len : mg "len" = none
  z_tuple : mg "tuple" = none
  z_list : mg "list" = none
  z_range : mg "range" = none
  z_all : mg "all" = none
  z_any : mg "any" = none
  z_isinstance : mg "isinstance" = none
  z_abs : mg "abs" = none
  z_min : mg "min" = none
  z_max : mg "max" = none
  z_int : mg "int" = none
  z_bool : mg "bool" = none
  z_str : mg "str" = none
  z_sorted : mg "sorted" = none
  z_enumerate : mg "enumerate" = none
  c_MOST_FIELDS : ∃ u, mg "MOST_FIELDS" = some u ∧ RelV (.int 3) u
  c_MOST_WIDTH : ∃ u, mg "MOST_WIDTH" = some u ∧ RelV (.int 8) u
  c_MOST_RULES : ∃ u, mg "MOST_RULES" = some u ∧ RelV (.int 7) u
  c_LAST_ACTION : ∃ u, mg "LAST_ACTION" = some u ∧ RelV (.int 5) u
  c_MOST_PAIRS : ∃ u, mg "MOST_PAIRS" = some u ∧ RelV (.int 12) u
  c_MOST_ACTION : ∃ u, mg "MOST_ACTION" = some u ∧ RelV (.int 5) u
section
variable {P : Program} {w : World} {K : PySem.W.Frag} {mg : Str → Option Value} {base : Heap}
theorem calD {g x : Str} {st : Stmt} {N ps : List Str} {k n : Nat} {R : List Dat → Dat → Prop} (D : Own K mg g x st) (S : FnScope N ps (defScope st)) (hn : ps.length = n)
    (hb : ∀ (kV doc pm : Value) (an : Option Addr) (cdv ct : Value) (us : List Value), us.length = ps.length → bindArgs (PySem.W.fnOf x x (defArgs st) (defBody st) (defScope st) .none kV doc pm an cdv ct) ⟨us, []⟩ = pure (ps.zip us))
    (hbody : ∀ (f : Addr) (cdv : Value) (A : Around) (outer : List PySem.Env) (s : Shared) (H : Hp) (E : XK), Room k (A.deeper (envOfC x (defScope st) s.heap.objs.size f cdv)) →
      ∃ t, PSs (cxOf CX0 P w K mg base N x (defScope st) f cdv A outer s H E).nox (defBody st) t ∧ ∀ ds d, R ds d → Fin t (gam N ds) d) : Cal P w K mg base g (k + 1) ps (spD n R) := by
  obtain ⟨f, fd, F, mF⟩ := D
  exact ⟨f, fd, mF, F.kp, F.bindsN hb, okD F S hn (hbody f)⟩
/-- the same with a promise of one's own -/
theorem calS {g x : Str} {st : Stmt} {N ps : List Str} {k : Nat} {sp : Sp} (D : Own K mg g x st) (S : FnScope N ps (defScope st)) (hl : ∀ vs H Q E, sp vs H Q E → vs.length = ps.length)
    (hb : ∀ (kV doc pm : Value) (an : Option Addr) (cdv ct : Value) (us : List Value), us.length = ps.length → bindArgs (PySem.W.fnOf x x (defArgs st) (defBody st) (defScope st) .none kV doc pm an cdv ct) ⟨us, []⟩ = pure (ps.zip us))
    (hbody : ∀ (f : Addr) (cdv : Value) (A : Around) (outer : List PySem.Env) (s : Shared) (H : Hp) (vs : List V) (Q : VK) (E : XK), Room k (A.deeper (envOfC x (defScope st) s.heap.objs.size f cdv)) → sp vs H Q E →
      ∃ t, PSs (cxOf CX0 P w K mg base N x (defScope st) f cdv A outer s H E).nox (defBody st) t ∧ t { nx := fun _ H' => Q .non H', rt := Q } (L2.start N vs) H) : Cal P w K mg base g (k + 1) ps sp := by
  obtain ⟨f, fd, F, mF⟩ := D
  exact ⟨f, fd, mF, F.kp, F.bindsN hb, F.ok S hl fun cdv A outer s H vs Q E hr h => let ⟨t, h1, h2⟩ := hbody f cdv A outer s H vs Q E hr h; ⟨t, h1.nox, h2⟩⟩
end
end Nr
set_option Elab.async false
set_option linter.all false
set_option maxRecDepth 100000
set_option maxHeartbeats 4000000
/-! enumerate of a tuple; the index in a tuple of ints; sorted; the order of data. -/
namespace Nr
open PySem PySem.Spec PyProof.Rows L2
open AutoSeq1 (wpAny_loadPart')

/-! ### enumerate(tuple) -/
theorem meets_enumerate_newT (l : Addr) (items : Array Value) (n : Nat) (dct : Option Addr) (sl : Array (Option Value)) :
    Meets (Builtin.«enumerate.__new__» ⟨[.type "enumerate", .ref l], []⟩) (fun _ R s => s.heap.get? l = some { cls := .type "tuple", dict := dct, data := .seq items n, slots := sl } ∧
      R (.ok (.ret (.ref (s.heap.push { cls := .type "tuple_iterator", data := .fields #[.ref l, .int 0 0] }).objs.size)))
        { s with heap := (s.heap.push { cls := .type "tuple_iterator", data := .fields #[.ref l, .int 0 0] }).push { cls := .type "enumerate", data := .fields #[.none, .bool false, .ref s.heap.objs.size, rawInt 0, .none, .none] } }) :=
  .of_wp fun prog w A R s h => by
    obtain ⟨hp, g, d, tk, os⟩ := s; obtain ⟨hl, h⟩ := h
    have hsub := sub_enumerate
    have hL : Heap.IsTuple (Shared.heap ⟨hp, g, d, tk, os⟩) l items := ⟨_, hl, rfl, n, rfl⟩
    wp_walk using wpAny_loadPart' hl
    refine wpAny_stack_any fun st => wpAny_pure ?_
    split
    · rename_i c _ _ _ _ _
      cases (c == Value.type "enumerate")
      · wp_walk using wpAny_loadPart' hl, wpAny_pyIter_tuple hL
        exact ⟨_, rfl, h⟩
      · wp_walk using wpAny_loadPart' hl, wpAny_pyIter_tuple hL
        exact ⟨_, rfl, h⟩
    · wp_walk using wpAny_loadPart' hl, wpAny_pyIter_tuple hL
      exact ⟨_, rfl, h⟩
section
variable {prog : Program} {w : World} {A : Around} {E : Value → Shared → Prop} {s : Shared}
theorem call_enumerate_tuple {l : Addr} {items : Array Value} {Q : Value → Shared → Prop} (hL : s.heap.IsTuple l items)
    (h : ∀ h', IsEnum h' (s.heap.objs.size + 1) s.heap.objs.size 0 .none → h'.IsTupleIter s.heap.objs.size l 0 → h'.objs.size = s.heap.objs.size + 2 →
      (∀ b o, s.heap.get? b = some o → h'.get? b = some o) → Q (.ref (s.heap.objs.size + 1)) { s with heap := h' }) :
    wpAny (model prog w) A (call (.type "enumerate") [.ref l]) Q E s := by
  obtain ⟨⟨c, dct, dt, sl⟩, hl, hc, n, hd⟩ := hL
  replace hc : c = .type "tuple" := hc
  replace hd : dt = .seq items n := hd
  subst hc hd
  refine callType_new F.called_enumerate (by decide) (F.typeCall_enumerate_1 _) (F.newCall_enumerate_1 _) (fun obj => F.args_object_init_2 obj _) F.entry_enumerate_new
    (meets_enumerate_newT l items n dct sl) ⟨hl, ?_⟩
  have hz : (s.heap.push { cls := .type "tuple_iterator", data := .fields #[.ref l, .int 0 0] }).objs.size = s.heap.objs.size + 1 := Heap.size_push ..
  show _ ∧ _
  rw [hz]
  have he : IsEnum ((s.heap.push { cls := .type "tuple_iterator", data := .fields #[.ref l, .int 0 0] }).push
      { cls := .type "enumerate", data := .fields #[.none, .bool false, .ref s.heap.objs.size, rawInt 0, .none, .none] }) (s.heap.objs.size + 1) s.heap.objs.size 0 .none := by
    have := Heap.get?_push_size (s.heap.push { cls := .type "tuple_iterator", data := .fields #[.ref l, .int 0 0] })
      (o := { cls := .type "enumerate", data := .fields #[.none, .bool false, .ref s.heap.objs.size, rawInt 0, .none, .none] }) rfl
    rw [hz] at this; exact this
  refine ⟨⟨_, he, rfl⟩, h _ he ⟨_, Heap.get?_push_of_some _ (Heap.get?_push_size _ rfl), rfl, rfl⟩ (by rw [Heap.size_push, hz]) fun b o x => Heap.get?_push_of_some _ (Heap.get?_push_of_some _ x)⟩
end
/-- the tuple at a, each item in a new pair -/
def Itet (K : PySem.W.Frag) (a : Addr) : It :=
  ⟨fun i H => ∃ (xs : List V) (x : V), SqT K H a xs ∧ xs[i]? = some x, fun i H v H' => ∃ T x, v = .ref T ∧ H T = none ∧ H' = upd H T (.tup [.int (i : Nat), x]) ∧ ∀ xs, SqT K H a xs → xs[i]? = some x, fun i H => ∃ xs : List V, SqT K H a xs ∧ xs.length = i⟩
theorem turn_enumT {P : Program} {w : World} {K : PySem.W.Frag} {elts : List Expr} {kk : Nat} {tpos : Pos} (a e it : Addr) :
    Turn P w K (.Tuple elts kk tpos) (Itet K a) [e, it] e (fun i h => (∃ old, IsEnum h e it ((i : Nat) : Int) old) ∧ h.IsTupleIter it a i ∧ e ≠ it ∧ e ≠ a) where
  mem := by simp
  obj := fun i h st b hb => by
    obtain ⟨⟨old, he⟩, ⟨o, ho, hc, hd⟩, _⟩ := st
    have e' : b = e ∨ b = it := by simpa using hb
    rcases e' with z | z
    · rw [z]; exact ⟨_, he, fun v q => nomatch q⟩
    · rw [z]; exact ⟨o, ho, fun v q => by rw [hd] at q; cases q⟩
  keep := fun i h h' st k => let ⟨⟨old, he⟩, hi, hne⟩ := st; ⟨⟨old, k e (by simp) _ he⟩, hi.at fun o q => k it (by simp) o q, hne⟩
  item := by
    intro X hP hw hK hc i pins s σ H E I hf st hg
    subst hP hw hK
    obtain ⟨⟨old, he⟩, hit, hne, hna⟩ := st
    obtain ⟨xs, x, hq, hx⟩ := hg
    obtain ⟨its, rv, p, hz⟩ := I.tuple hq
    obtain ⟨u, hu, ru⟩ := rv.get hx
    have hel : e < s.heap.objs.size := Heap.lt_size he
    have hil : it < s.heap.objs.size := by obtain ⟨_, q, _⟩ := hit; exact Heap.lt_size q
    have hai : a ≠ it := fun z => by
      obtain ⟨o1, q1, c1, _⟩ := hit
      obtain ⟨o2, q2, c2, _⟩ := p
      rw [z, q1] at q2
      cases q2
      rw [c1] at c2
      exact absurd c2 (by decide)
    have hh : X.A.in1.handled = none := I.ok.hd hc
    have D := Draws.tuple (prog := X.prog) (w := X.w) (A := X.A.in1) hh it a hai its.toArray
    have hlt : i < its.toArray.size := by
      rw [List.size_toArray]
      exact (List.getElem?_eq_some_iff.mp hu).1
    refine wpAny_pyNext_enum_itemD D he ⟨hit, p⟩ hlt hne (by simp [hne, hna]) fun x' h' tk hPx ho hst' hT hsz hk => ?_
    have hxu : x' = u := by
      have h1 : its.toArray[i]? = some x' := hPx
      rw [List.getElem?_toArray, hu] at h1
      exact (Option.some.inj h1).symm
    subst hxu
    have hit' := hst'.1
    refine ⟨_, rfl, wpAny_letOwnedTupleGo_enum (s := { s with heap := h', toks := tk + 1 }) ho fun h'' he' sb => ?_⟩
    have hT2 : h''.get? s.heap.objs.size = some { cls := .type "tuple", data := .seq #[.int i tk, x'] } := (sb.2 _ (Nat.ne_of_gt hel)).trans hT
    have new : ObjOk X.prog X.w (upd H s.heap.objs.size (.tup [.int (i : Nat), x])) h'' s.heap.objs.size (.tup [.int (i : Nat), x]) :=
      ⟨by show 2 ≤ sizeLine; decide, [.int i tk, x'], .cons ⟨_, rfl⟩ (.cons ru .nil), ⟨_, hT2, rfl, _, rfl⟩⟩
    have I1 : Inv X pins σ (upd H s.heap.objs.size (.tup [.int (i : Nat), x])) { s with heap := h'', toks := tk + 1 } :=
      I.turnedNew (ch := [e, it]) (fun b ob hb q => (sb.2 b (fun z => hb (by simp [z]))).trans (hk b ob (fun z => hb (by simp [z])) (fun z => hb (by simp [z])) q)) hf (Nat.le_refl _) new
    refine ⟨.ref s.heap.objs.size, _, I1, rfl, ⟨_, x, rfl, I.hok.fresh (Nat.le_refl _), rfl, fun ys hy => by rw [I.tuple_inj hy hq]; exact hx⟩, ⟨⟨x', ?_⟩, hit'.at fun o q => (sb.2 it (Ne.symm hne)).trans q, hne, hna⟩, fun b hb => ?_⟩
    · have e1 : ((i + 1 : Nat) : Int) = (i : Int) + 1 := by omega
      rw [e1]; exact he'
    · have hb' : b < s.heap.objs.size := by
        have e' : b = e ∨ b = it := by simpa using hb
        rcases e' with z | z
        · rw [z]; exact hel
        · rw [z]; exact hil
      rw [upd_ne (Nat.ne_of_lt hb')]
      exact (hf b hb).1
  done := by
    intro X hP hw hK hc i pins s σ H E I hf st hg
    subst hP hw hK
    obtain ⟨⟨old, he⟩, hit, hne, hna⟩ := st
    obtain ⟨xs, hq, hx⟩ := hg
    obtain ⟨its, rv, p, hz⟩ := I.tuple hq
    obtain ⟨f0, f1, f2, f3, f4, f5⟩ := hf it (by simp)
    have hl := rv.length
    have hai : a ≠ it := fun z => by
      obtain ⟨o1, q1, c1, _⟩ := hit
      obtain ⟨o2, q2, c2, _⟩ := p
      rw [z, q1] at q2
      cases q2
      rw [c1] at c2
      exact absurd c2 (by decide)
    have hh : X.A.in1.handled = none := I.ok.hd hc
    have D := Draws.tuple (prog := X.prog) (w := X.w) (A := X.A.in1) hh it a hai its.toArray
    have hn : i = its.toArray.size := by rw [List.size_toArray, ← hl, hx]
    refine wpAny_pyNext_enum_endD D he (by rw [← hn]; exact ⟨hit, p⟩) fun h' eb => ⟨rfl, I.turned (t' := s.toks) (fun b o hb q => eb b o hb q) f0 f1 f3 f4 f5⟩
  self := fun A i s Q E st h => let ⟨⟨_, he⟩, _⟩ := st; wpAny_pyIter_enum he h
def iEnumT (K : PySem.W.Frag) (te : TE) : TI := fun σ H R => te σ H fun x H1 => ∃ a xs, x = .ref a ∧ SqT K H1 a xs ∧ R (Itet K a) H1
theorem kx_enum {X : Cx} {K : PySem.W.Frag} {e : Expr} {te : TE} {p pos tpos : Pos} {elts : List Expr} {kk : Nat} (hg : Gl X "enumerate") (hm : X.mg "enumerate" = none) (he : PE X e te) (na : starEach [e] X.env = (false, eval e X.env) :: starEach [] X.env := by rfl) (hK : X.K = K := by rfl) :
    PI X (.Tuple elts kk tpos) (.Call (.Name "enumerate" p) [e] [] pos) (iEnumT K te) := by
  subst hK
  refine ⟨fun pins s σ H R I h => ?_⟩
  refine Call_ (ld_blt I hg hm boot_enumerate (PyProof.Rows.callWith_type1 (one_arg he I h (fun v s1 x H1 I1 r q1 => ?_) na) na rfl))
  obtain ⟨a, xs, rfl, hq, q⟩ := q1
  cases r
  obtain ⟨its, rv, p', hz⟩ := I1.tuple hq
  have hal : a < s1.heap.objs.size := by obtain ⟨_, q, _⟩ := p'; exact Heap.lt_size q
  refine call_enumerate_tuple p' fun h' he hit hsz hk => wpAny_pyIter_enum he ?_
  have I2 : Inv X pins σ H1 { s1 with heap := h' } := I1.kept (t' := s1.toks) hk
  refine ⟨s1.heap.objs.size + 1, [s1.heap.objs.size + 1, s1.heap.objs.size], _, _, H1, rfl, I2, turn_enumT a (s1.heap.objs.size + 1) s1.heap.objs.size, ⟨⟨.none, he⟩, hit, Nat.succ_ne_self _, Nat.ne_of_gt (Nat.lt_succ_of_lt hal)⟩, fun b hb => ?_, q⟩
  have e' : b = s1.heap.objs.size + 1 ∨ b = s1.heap.objs.size := by simpa using hb
  have hle : s1.heap.objs.size ≤ b := by
    rcases e' with z | z
    · rw [z]; exact Nat.le_add_right _ _
    · rw [z]; exact Nat.le_refl _
  exact I1.fpOk hle (I1.hok.fresh hle)
/-- its items: the pairs -/
theorem wg_enum {K : PySem.W.Frag} {Γ : Gam} {te : TE} {f : Bool} {ds : List Dat} (h : EvG te Γ (.tuple f ds)) : WalkG (iEnumT K te) Γ (ds.mapIdx fun i d => .tuple false [.int (i : Int), d]) := fun L σ H R lv he k =>
  h L σ H _ lv he fun v H1 e1 d1 => by
    obtain ⟨a, xs, rfl, h1, h2⟩ := d1.tup_of
    have hs : ∀ H, SameX L H1 H → SqT K H a xs := fun H e => (h1.mono e).sq
    refine ⟨a, xs, rfl, h1.sq, k _ H1 e1 ⟨fun i H hi e => ?_, fun H e => ?_, fun i H x H' L2 d hd e y hL lv2 => ?_⟩⟩
    · rw [List.length_mapIdx, ← h2.len] at hi
      exact ⟨xs, xs[i], hs H e, List.getElem?_eq_getElem hi⟩
    · rw [List.length_mapIdx, ← h2.len]
      exact ⟨xs, hs H e, rfl⟩
    · obtain ⟨T, w, rfl, hT, rfl, hw⟩ := y
      have hx := hw xs (hs H e)
      obtain ⟨d', hd', dd⟩ := h2.get' hx
      rw [List.getElem?_mapIdx, hd'] at hd
      cases hd
      have eT := same_new hT (.tup [.int (i : Int), w])
      exact ⟨eT, .tup (xs := [.int (i : Int), w]) (rdt_new (live_new lv2 hT)) (.cons (.int _) (.cons ((dd.mono (hide_ext e hL)).mono (hide_same eT)) .nil))⟩

/-! ### t.index(n) in a tuple of ints -/
theorem eqV_int {i j : Int} : eqV (.int i) (.int j) = (i == j) := rfl
def rTIndex (K : PySem.W.Frag) : V → List V → Hp → VK → Prop := fun x xs H Q => ∃ (p : Addr) (ys : List Int) (z : Int), x = .ref p ∧ xs = [.int z] ∧ SqT K H p (ys.map V.int) ∧ z ∈ ys ∧ Q (.int (ys.idxOf z : Nat)) H
theorem kx_tindex {X : Cx} {K : PySem.W.Frag} (hK : X.K = K := by rfl) : MtR X "tuple.index" (rTIndex K) := by
  subst hK
  intro pins s σ H x xs v us Q I rx rs h
  obtain ⟨p, ys, z, rfl, rfl, hq, hy, q⟩ := h
  cases rx
  obtain ⟨u, rfl, t, rfl⟩ := vals1 rs
  obtain ⟨its, r, pl, hz⟩ := I.tuple hq
  obtain ⟨⟨cls, dd, dt, sl⟩, ho, hc, n, hd⟩ := pl
  simp only at hc hd
  subst hc
  subst hd
  have hl : its.toArray.size = ys.length := by rw [List.size_toArray, ← r.length, List.length_map]
  have hix : ys.idxOf z < ys.length := List.idxOf_lt_length_of_mem hy
  have hj : ys.idxOf z < its.toArray.size := by rw [hl]; exact hix
  have at' : ∀ (m : Nat) (hm : m < its.toArray.size), ∃ t', its.toArray[m] = Value.int (ys[m]'(by rw [← hl]; exact hm)) t' := fun m hm => by
    have hm' : m < ys.length := by rw [← hl]; exact hm
    obtain ⟨w, hw, t', hw'⟩ := r.get (i := m) (x := .int ys[m]) (by simp [hm'])
    refine ⟨t', ?_⟩
    have e := (List.getElem?_eq_some_iff.mp hw).2
    rw [← hw', ← e]
    simp
  refine call_meets PySem.F.slot_tuple_index ⟨_, ho, rfl⟩ PySem.F.entry_tuple_index (PySem.F.args_tuple_index_2 _ _) (TI.tuple_indexAt p its.toArray n dd sl (.int z t) (eqU (.int z)) (ys.idxOf z) hj ?_ ?_)
    ⟨ho, fun w hw => mem_eqAt (x := .int z) ⟨t, rfl⟩ rfl r (flat_ints ys) w (by simpa using hw), ⟨.int (ys.idxOf z : Nat), H, I.tok _, ⟨_, rfl⟩, q⟩⟩
  · obtain ⟨t', h2⟩ := at' _ hj
    rw [h2, List.getElem_idxOf hix]
    show (z == z) = true
    exact beq_self_eq_true z
  · intro m hm hmj
    obtain ⟨t', h2⟩ := at' m hm
    rw [h2]
    show (ys[m] == z) = false
    exact List.not_of_lt_findIdx hmj
/-- a method of a tuple that is known to have no dict of its own -/
def tBMT (r : V → List V → Hp → VK → Prop) (to : TE) (t : TA) : TE := fun σ H Q => to σ H fun x H1 => (∃ (p : Addr) (o : Obj) (xs : List V), x = .ref p ∧ H1 p = some (.frz o (.tup xs)) ∧ o.dict = none) ∧ t σ H1 fun xs H2 => r x xs H2 Q
theorem pe_bmT {X : Cx} {o e : Expr} {es : List Expr} {to : TE} {t : TA} {name : Str} {apos cpos : Pos} {id : String} {r : V → List V → Hp → VK → Prop} (slot : PySem.Slot "tuple" name id) (hty : typeOf (.builtin id) = pure (.type "method_descriptor")) (hm : MtR X id r) (ho : PE X o to) (ha : PA X (e :: es) t)
    (hbase : attributeBase o name X.env (eval o X.env) = eval o X.env := by rfl)
    (hfew : ((backTo cpos (starEach (e :: es) X.env)).all (fun x => !x.1) && (backToKw cpos (keywordEach [] X.env)).all (fun x => x.1.isSome)
      && decide ((e :: es).length + ([] : List Keyword).length + (if ([] : List Keyword).isEmpty then 0 else 1) < 30)) = true := by rfl)
    (hline : (apos.endLine == cpos.line) = true := by rfl) (hs : starEach (e :: es) X.env = (false, eval e X.env) :: starEach es X.env := by rfl) (hplain : (backTo cpos (starEach es X.env)).any (·.1) = false := by rfl) :
    PE X (.Call (.Attribute o name apos) (e :: es) [] cpos) (tBMT r to t) := by
  refine ⟨fun pins s σ H Q I h => ?_⟩
  refine wpAny_Call_method_late hbase hfew hline rfl (thn (ho.run pins s σ H _ I h) fun v s1 ⟨x, H1, I1, r1, ty, q1⟩ => ?_)
  obtain ⟨p, ob, xs, ex, hp, hdn⟩ := ty
  subst ex
  cases r1
  obtain ⟨g1, g2⟩ := (show ObjOk X.prog X.w H1 s1.heap p (.frz ob (.tup xs)) from I1.hok p _ hp)
  obtain ⟨_, its, rv, ob', g3, g4, _⟩ := g2
  refine ⟨"tuple", id, PySem.F.plainAttrs_tuple, slot, hty, ⟨ob', g3, g4⟩, fun a e => ?_, ?_⟩
  · cases e
    exact ⟨ob, g1, hdn⟩
  have hA := ha.run cpos pins s1 σ H1 _ I1 q1
  rw [hs] at hA ⊢
  refine Calls.callWith_builtin (by show (false || (backTo cpos (starEach es X.env)).any (·.1)) = false; rw [hplain] <;> rfl) (Calls.evalArgs_plain ?_)
  exact thn hA fun us s2 ⟨vs, H2, I2, r2, q2⟩ => hm pins s2 σ H2 (.ref p) vs (.ref p) us Q I2 rfl r2 q2
theorem ev_tindex {K : PySem.W.Frag} {Γ : Gam} {ta tb : TE} {ys : List Int} {z : Int} (ha : EvG ta Γ (.tuple true (ys.map .int))) (hb : EvG tb Γ (.int z)) (hz : z ∈ ys) : EvG (tBMT (rTIndex K) ta (tCons tb tNil)) Γ (.int (ys.idxOf z : Nat)) := fun L σ H Q lv he k =>
  ha L σ H _ lv he fun v H1 e1 d1 => by
    obtain ⟨a, xs, rfl, h1, h2⟩ := d1.tup_of
    obtain rfl := dt_ints h2
    obtain ⟨o, ho, hd⟩ := h1.2 rfl
    exact ⟨⟨a, o, _, rfl, (hide_some ho).2, hd⟩, hb L σ H1 _ (live_mono lv e1) (he.mono (hide_same e1)) fun x H2 e2 d2 => ⟨a, ys, z, rfl, by rw [d2.int_of], (h1.mono (hide_same e2)).sq, hz, k _ H2 (e1.trans e2) (.int _)⟩⟩

/-! ### tuples that are known to have no dict of their own -/
def tTupZ (t : TA) : TE := fun σ H Q => t σ H fun xs H1 => xs.length ≤ sizeLine ∧ ∀ p o, H1 p = none → o.dict = none → Q (.ref p) (upd H1 p (.frz o (.tup xs)))
theorem pe_tupZ {X : Cx} {es : List Expr} {t : TA} {pos : Pos} {x1} (h : PA X es t) : PE X (.Tuple es x1 pos) (tTupZ t) := by
  refine ⟨fun pins s σ H Q I hq => ?_⟩
  refine wpAny_Tuple_spliced (thn (h.run pos pins s σ H _ I hq) fun us s1 ⟨xs, H1, I1, r, z, q⟩ => ⟨by rw [← r.length]; exact z, ?_⟩)
  have hf : H1 s1.heap.objs.size = none := I1.hok.fresh (Nat.le_refl _)
  have g := Heap.get?_push_size (h := s1.heap) (o := { cls := .type "tuple", data := .seq us.toArray }) rfl
  refine ⟨.ref s1.heap.objs.size, upd H1 s1.heap.objs.size (.frz { cls := .type "tuple", data := .seq us.toArray } (.tup xs)), I1.laid (t' := s1.toks) (fun b u e => Heap.get?_push_of_some _ e) (Nat.le_refl _) ?_, rfl, q _ _ hf rfl⟩
  exact ⟨g, z, us, r, ⟨_, g, rfl, _, rfl⟩⟩
def rCatZ (K : PySem.W.Frag) : R2 := fun x y H Q => ∃ a b xs ys, x = .ref a ∧ y = .ref b ∧ SqT K H a xs ∧ SqT K H b ys ∧ xs.length + ys.length ≤ sizeLine ∧
  (xs = [] → Q (.ref b) H) ∧ (xs ≠ [] → ys = [] → Q (.ref a) H) ∧ (xs ≠ [] → ys ≠ [] → ∀ p o, H p = none → o.dict = none → Q (.ref p) (upd H p (.frz o (.tup (xs ++ ys)))))
theorem kx_catZ {X : Cx} {K : PySem.W.Frag} (hK : X.K = K := by rfl) : OpR X (binaryOp .Add) (rCatZ K) := by
  subst hK
  intro pins s σ H x y v u Q I rx ry h
  obtain ⟨a, b, xs, ys, rfl, rfl, ha, hb, hz, q0, q1, q2⟩ := h
  cases rx
  cases ry
  obtain ⟨its, r1, p1, _⟩ := I.tuple ha
  obtain ⟨its2, r2, p2, _⟩ := I.tuple hb
  by_cases hx : xs = []
  · subst hx
    cases r1
    exact cat_tup0 p1 p2 ⟨.ref b, H, I, rfl, q0 rfl⟩
  · refine HT.cat_tup p1 p2 (fun z => hx (r1.nil_iff.mp z)) (fun z => ⟨.ref a, H, I, rfl, q1 hx (r2.nil_iff.mp z)⟩) (fun z => ?_) (by rw [← r1.length, ← r2.length]; exact hz)
    have g := Heap.get?_push_size (h := s.heap) (o := { cls := .type "tuple", data := .seq (its ++ its2).toArray }) rfl
    refine ⟨.ref s.heap.objs.size, upd H s.heap.objs.size (.frz { cls := .type "tuple", data := .seq (its ++ its2).toArray } (.tup (xs ++ ys))), I.laid (t' := s.toks) (fun b ob q => Heap.get?_push_of_some _ q) (Nat.le_refl _) ?_, rfl, q2 hx (fun w => z (r2.nil_iff.mpr w)) _ _ (I.hok.fresh (Nat.le_refl _)) rfl⟩
    exact ⟨g, by rw [List.length_append]; exact hz, _, r1.append r2, ⟨_, g, rfl, _, rfl⟩⟩
theorem ev_tupZ {Γ : Gam} {t : TA} {ds : List Dat} (h : EvA t Γ ds) (hl : ds.length ≤ 100000) : EvG (tTupZ t) Γ (.tuple true ds) := fun L σ H Q lv he k =>
  h L σ H _ lv he fun vs H1 e1 d1 => ⟨by rw [d1.len]; exact Nat.le_trans hl (by decide), fun p o hp ho => k _ _ (e1.trans (same_new hp _))
    (.tup (xs := vs) (rdt_newZ (live_new (live_mono lv e1) hp) ho) (d1.mono (hide_same (same_new hp _))))⟩
theorem og_catZ {K : PySem.W.Frag} {as bs : List Dat} (hz : as.length + bs.length ≤ 100000) : OpG (rCatZ K) (.tuple true as) (.tuple true bs) (.tuple true (as ++ bs)) := fun L x y H Q lv d1 d2 k => by
  obtain ⟨p, xs, rfl, h1, h2⟩ := id d1.tup_of
  obtain ⟨q, ys, rfl, h3, h4⟩ := id d2.tup_of
  refine ⟨p, q, xs, ys, rfl, rfl, h1.sq, h3.sq, by rw [h2.len, h4.len]; exact Nat.le_trans hz (by decide), fun e => ?_, fun _ e => ?_, fun _ _ r o hr ho => ?_⟩
  · have : as = [] := List.length_eq_zero_iff.mp (by rw [← h2.len, e]; rfl)
    subst this
    exact k _ H (Same.refl H) d2
  · have : bs = [] := List.length_eq_zero_iff.mp (by rw [← h4.len, e]; rfl)
    subst this
    rw [List.append_nil] at k
    exact k _ H (Same.refl H) d1
  · have e := same_new hr (.frz o (.tup (xs ++ ys)))
    exact k _ _ e (.tup (rdt_newZ (live_new lv hr) ho) ((h2.append h4).mono (hide_same e)))
end Nr
set_option Elab.async false
set_option linter.all false
set_option maxRecDepth 100000
set_option maxHeartbeats 4000000
/-! sorted of a tuple of ints, of a list of told pairs; t < u of told pairs. -/
namespace Nr
open PySem PySem.Spec PySem.W PyProof.Rows L2

/-! ### sorted(tuple) -/
section
variable {prog : Program} {w : World} {A : Around} {E : Value → Shared → Prop} {s : Shared} {κ : PyProof.Rows.KeyKind}
theorem collect_tuple {l : Addr} {vs : List Value} {Q : List Value → Shared → Prop} (hl : s.heap.IsTuple l vs.toArray)
    (h : Q vs { s with heap := (s.heap.push (seqObj "list" #[] 0)).update s.heap.objs.size (Obj.mapSeq (· ++ vs.toArray)) }) (hsz : vs.length ≤ sizeLine := by size_fits) :
    wpAny (model prog w) A (collect (.ref l)) Q E s := by
  obtain ⟨o, ho, hc, n, hd⟩ := id hl
  unfold collect
  refine wpAny_bind (wpAny_runValue (codeAny_builtin entry_proto_collect' ?_))
  show wpAny _ _ (do again (.builtin "list.__iadd__" ⟨[← newList [], .ref l], []⟩)) _ _ s
  refine wpAny_bind (wpAny_newList (wpAny_pure ⟨Code.quiet_builtin _ (by decide +kernel), codeAny_builtin entry_list_iadd' ?_⟩))
  show wpAny _ _ (Builtin.List.listExtendWith (.ref s.heap.objs.size) (.ref l) (.ref s.heap.objs.size)) _ _ { s with heap := s.heap.push (seqObj "list" #[] 0) }
  unfold Builtin.List.listExtendWith
  have ho' : (s.heap.push (seqObj "list" #[] 0)).get? l = some o := Heap.get?_push_of_some _ ho
  refine wpAny_bind (wpAny_typeOf (T := "tuple") ⟨o, ho', hc⟩ ?_)
  have ht : (Value.type "tuple" == Value.type "tuple") = true := by rfl
  rw [if_pos (by rw [ht]; simp)]
  refine wpAny_bind (listItems_at ho' hd ?_)
  refine wpAny_bind (listItems_at (xs := #[]) (n := 0) (Heap.get?_push_size _ rfl) rfl ?_)
  rw [if_neg (by simp)]
  refine wpAny_bind (listUpdate_at (xs := #[]) (n := 0) (Heap.get?_push_size _ rfl) rfl ?_ (Nat.zero_le _) (by show (#[] ++ vs.toArray).size ≤ sizeLine + 1; simp only [Array.size_append, List.size_toArray, List.length_nil]; omega))
  refine wpAny_pure ?_
  show wpAny (model prog w) A (do
      let o ← load s.heap.objs.size
      match o.data with
      | .seq xs _ => pure xs.toList
      | _ => unsupported "internal:collect") Q E { s with heap := (s.heap.push (seqObj "list" #[] 0)).update s.heap.objs.size (Obj.mapSeq (· ++ vs.toArray)) }
  refine wpAny_bind (wpAny_load (get?_update_seq (Heap.get?_push_size _ rfl) _) ?_)
  show wpAny _ _ (pure ((#[] : Array Value) ++ vs.toArray).toList) Q E _
  rw [show ((#[] : Array Value) ++ vs.toArray).toList = vs by simp]
  exact wpAny_pure h
theorem sortedT_of_sort {l : Addr} {vs : List Value} {kw : List (Str × Value)} {Q : Value → Shared → Prop} (hl : s.heap.IsTuple l vs.toArray) (hL : vs.length ≤ sizeLine) (ha1 : argsOk "sorted" ⟨[.ref l], kw⟩) (ha2 : ∀ x, argsOk "list.sort" ⟨[.ref x], kw⟩)
    (body : ∀ E' : Value → Shared → Prop, wpAny (model prog w) A.in1.in1 (Builtin.«list.sort» ⟨[.ref (s.heap.objs.size + 1)], kw⟩) (fun f s' => f = .done (.ret .none) ∧ Q (.ref (s.heap.objs.size + 1)) s') E' { s with heap := copyHeap s.heap vs }) :
    wpAny (model prog w) A (call (.builtin "sorted") [.ref l] kw) Q E s := by
  refine call_function_entry_kw kind_sorted plain_sorted entry_sorted ha1 ?_
  unfold Builtin.«sorted»
  refine wpAny_bind (m := checkCount "sorted" 1 1 _) (wpAny_pure ?_)
  refine wpAny_bind (collect_tuple hl ?_ hL)
  refine wpAny_bind (wpAny_newList ?_ hL)
  have hsz : ((s.heap.push (seqObj "list" #[] 0)).update s.heap.objs.size (Obj.mapSeq (· ++ vs.toArray))).objs.size = s.heap.objs.size + 1 := by
    rw [Heap.size_update, size_push']
  show wpAny _ _ _ _ _ { s with heap := copyHeap s.heap vs }
  rw [hsz]
  refine wpAny_bind (wpAny_holding (wpAny_call_entry_kw slot_list_sort ⟨_, copyHeap_at s.heap vs, rfl⟩ entry_list_sort ?body (ha2 _)))
  case body =>
    show wpAny (model prog w) A.in1.in1 (Builtin.«list.sort» ⟨[.ref (s.heap.objs.size + 1)], kw⟩) _ _ _
    refine wpAny_mono (body _) (fun f s' hf => ?_) fun _ _ e => e
    obtain ⟨rfl, hq⟩ := hf
    exact ⟨_, rfl, wpAny_pure ⟨_, rfl, hq⟩⟩
theorem sortedT_data {β : Type} {vs : List Value} {bs : List β} {enc : β → PyData} {R : Value → β → Prop} {l : Addr} {Q : Value → Shared → Prop} (hl : s.heap.IsTuple l vs.toArray) (e : EachIs R vs bs) (er : EachIs (fun v b => ∃ as, Reads s.heap v (enc b) as) vs bs) (hal : AllAlike (bs.map enc)) (hk : Sortable (bs.map enc)) (hL : bs.length ≤ sizeLine)
    (hu : ∀ b, b ∈ bs → A.units + 2 + (enc b).depth < cLine) (h : ∀ out, out.length = bs.length → EachIs R out (bs.mergeSort (dataLe false enc)) → Q (.ref (s.heap.objs.size + 1)) { s with heap := sortedAll s.heap vs (List.toArray out) }) :
    wpAny (model prog w) A (call (.builtin "sorted") [.ref l]) Q E s := by
  have er' : EachIs (fun v b => ∃ as, Reads (sortingHeap (copyHeap s.heap vs) (s.heap.objs.size + 1) vs) v (enc b) as) vs bs := er.mono fun _ _ ⟨as, r⟩ => ⟨as, PyProof.Rows.Reads.keeps (fun _ _ => sorting_copy_old) r⟩
  have hL' : vs.length ≤ sizeLine := by rw [e.length]; exact hL
  refine sortedT_of_sort hl hL' (args_sorted1 _) (fun _ => args_list_sort _) fun _ => list_sort_vals (κ := dataKind (sortingHeap (copyHeap s.heap vs) (s.heap.objs.size + 1) vs) (bs.map enc)) (s := { s with heap := copyHeap s.heap vs }) (copyHeap_at s.heap vs)
    (SortsAt.data (s := { s with heap := sortingHeap (copyHeap s.heap vs) (s.heap.objs.size + 1) vs }) (each_map (R := fun v d => ∃ as, Reads (sortingHeap (copyHeap s.heap vs) (s.heap.objs.size + 1) vs) v d as) enc er') hal hk (bound_map hu)) hL' ⟨rfl, ?_⟩
  exact h _ (by rw [sortVals_length false rfl]; exact e.length) (sortVals_data false e er' hal)
end
/-! ### the order of ints, of told pairs -/
theorem eqv_ints : ∀ as bs : List Int, PyData.eqvAll (as.map .int) (bs.map .int) = decide (as = bs)
  | [], [] => by simp [PyData.eqvAll]
  | [], _ :: _ => by simp [PyData.eqvAll]
  | _ :: _, [] => by simp [PyData.eqvAll]
  | a :: as, b :: bs => by
    rw [List.map_cons, List.map_cons, eqv_all_cons, eqv_ints as bs]
    have : PyData.eqv (.int a) (.int b) = (a == b) := by simp [PyData.eqv]
    rw [this, Bool.eq_iff_iff]
    simp
theorem eqv_tuple (xs ys : List PyData) : PyData.eqv (.tuple xs) (.tuple ys) = PyData.eqvAll xs ys := by rw [PyData.eqv]
theorem alike_tuple (xs ys : List PyData) : alike (.tuple xs) (.tuple ys) = alikeAll xs ys := by rw [alike]
theorem lt_ints : ∀ as bs : List Int, PyProof.Rows.lexLt itemOrd (keyToksAll (as.map .int)) (keyToksAll (bs.map .int)) = lexI as bs
  | [], [] => by simp [keyToksAll, lexI, lex_irrefl]
  | [], b :: bs => by
    rw [List.map_nil, List.map_cons, toks_all_cons]
    rfl
  | a :: as, [] => by
    rw [List.map_nil, List.map_cons, toks_all_cons]
    rfl
  | a :: as, b :: bs => by
    rw [List.map_cons, List.map_cons]
    have ha : alike (.int a) (.int b) = true := by simp [alike]
    by_cases e : a = b
    · subst e
      rw [dataLt_all_yes ha (by simp [PyData.eqv]), lt_ints as bs]
      unfold lexI
      rw [if_pos rfl]
      cases as <;> cases bs <;> rfl
    · rw [dataLt_all_no ha (by simp [PyData.eqv, e]), dataLt_int]
      show _ = (if a = b then lexI as bs else decide (a < b))
      rw [if_neg e]
def pyT (t : Told) : PyData := .tuple [.int t.1, .tuple (t.2.map .int)]
theorem lt_told (x y : Told) : dataLt (pyT x) (pyT y) = ltP x y := by
  obtain ⟨s, a⟩ := x
  obtain ⟨t, b⟩ := y
  show dataLt (.tuple [.int s, .tuple (a.map .int)]) (.tuple [.int t, .tuple (b.map .int)]) = _
  rw [dataLt_tuple]
  have ha : alike (.int s) (.int t) = true := by simp [alike]
  have hb : alike (.tuple (a.map .int)) (.tuple (b.map .int)) = true := by rw [alike_tuple]; exact alike_ints a b
  unfold ltP
  by_cases e : s = t
  · subst e
    rw [dataLt_all_yes ha (by simp [PyData.eqv]), if_pos rfl]
    by_cases q : a = b
    · subst q
      rw [dataLt_all_yes hb (by rw [eqv_tuple, eqv_ints]; simp), lexI_irrefl]
      simp [keyToksAll, lex_irrefl]
    · rw [dataLt_all_no hb (by rw [eqv_tuple, eqv_ints]; simp [q]), dataLt_tuple, lt_ints]
  · rw [dataLt_all_no ha (by simp [PyData.eqv, e]), dataLt_int, if_neg e]
theorem le_told : dataLe false pyT = leP := by
  rw [dataLe_eq]
  funext a b
  show (!dataLt (pyT b) (pyT a)) = _
  rw [lt_told]
  rfl
theorem alike_told (x y : Told) : alike (pyT x) (pyT y) = true := by
  show alike (.tuple [.int x.1, .tuple (x.2.map .int)]) (.tuple [.int y.1, .tuple (y.2.map .int)]) = true
  rw [alike_tuple]
  simp only [alikeAll, alike_tuple, alike_ints]
  simp [alike]
theorem depth_told (x : Told) : (pyT x).depth = 2 := by
  show PyData.depth (.tuple [.int x.1, .tuple (x.2.map .int)]) = 2
  simp only [PyData.depth, PyData.depthAll, depth_ints]
  omega
theorem pys_map (ns : List Int) : Dat.pys (ns.map .int) = ns.map PyData.int := by
  induction ns with
  | nil => rfl
  | cons n ns ih => show PyData.int n :: Dat.pys (ns.map .int) = _; rw [ih]; rfl
def datT (f g : Bool) (t : Told) : Dat := .tuple f [.int t.1, .tuple g (t.2.map .int)]
theorem datT_py (f g : Bool) (t : Told) : (datT f g t).py = pyT t := by
  show PyData.tuple [PyData.int t.1, PyData.tuple (Dat.pys (t.2.map .int))] = _
  rw [pys_map]
  rfl

/-! ### the rules -/
theorem each_of {α : Type} {R : Value → α → Prop} : ∀ {vs : List Value} {bs : List α}, vs.length = bs.length → (∀ (i : Nat) (v : Value) (b : α), vs[i]? = some v → bs[i]? = some b → R v b) → EachIs R vs bs
  | [], [], _, _ => .nil
  | [], _ :: _, h, _ => by simp at h
  | _ :: _, [], h, _ => by simp at h
  | v :: vs, b :: bs, h, f => .cons (f 0 v b rfl rfl) (each_of (by simpa using h) fun i v b h1 h2 => f (i + 1) v b (by simpa using h1) (by simpa using h2))
theorem each_vals {α : Type} {H : Hp} {enc : α → Dat} : ∀ {vs : List Value} {bs : List α}, EachIs (fun v b => ∃ x, RelV x v ∧ Dt H x (enc b)) vs bs → ∃ xs, Vals xs vs ∧ DtAll H xs (bs.map enc)
  | _, _, .nil => ⟨[], .nil, .nil⟩
  | _, _, .cons ⟨x, r, d⟩ t => let ⟨xs, h1, h2⟩ := each_vals t; ⟨x :: xs, .cons r h1, .cons d h2⟩
def rSortedI' (K : PySem.W.Frag) : List V → Hp → VK → Prop := fun vs H Q => ∃ (a : Addr) (ns : List Int), vs = [V.ref a] ∧ SqT K H a (ns.map V.int) ∧ ns.length ≤ 100000 ∧ ∀ p : Addr, H p = none → Q (.ref p) (upd H p (.lst ((sortI ns).map V.int)))
theorem kx_sortedT {X : Cx} {K : PySem.W.Frag} (hu : X.A.units + 64 < cLine) (hK : X.K = K := by rfl) : CallR X (.builtin "sorted") (rSortedI' K) := by
  subst hK
  intro pins s σ H vs us Q I r h
  obtain ⟨a, ns, rfl, hs, hn, q⟩ := h
  obtain ⟨its, rv, hl, hz⟩ := I.tuple hs
  rw [Vals.ref1 r]
  have hi := rv.ints
  have e : EachIs (fun v (n : Int) => ∃ t, v = .int n t) its ns := each_of (by rw [← rv.length, List.length_map]) fun i v b h1 h2 => by
    obtain ⟨u, hu, t, ht⟩ := rv.get (i := i) (x := .int b) (by rw [List.getElem?_map, h2]; rfl)
    rw [h1] at hu; cases hu
    exact ⟨t, ht⟩
  refine sortedT_data (enc := fun n : Int => PyData.int n) hl e (e.mono fun v n ⟨t, ht⟩ => by subst ht; exact ⟨_, Reads.int n t⟩) (AllAlike.of fun _ _ => by simp [alike]) (Sortable.others fun n => ⟨(fun z => nomatch z), fun xs z => nomatch z⟩) (Nat.le_trans hn (by decide)) (fun b _ => by simp only [PyData.depth]; omega) fun out hlen eo => ?_
  rw [dataLe_int (fun n : Int => n)] at eo
  obtain ⟨ep, he'⟩ := PyProof.Rows.sortedAll_at s.heap its out.toArray
  have hl2 : (sortI ns).length = ns.length := (sortI_perm ns).length_eq
  have eo' : EachIs (fun v (n : Int) => ∃ t, v = .int n t) out (sortI ns) := eo
  obtain ⟨xs, hv, hd⟩ := each_vals (H := H) (enc := Dat.int) (eo'.mono fun v n ⟨t, ht⟩ => ⟨.int n, ⟨t, ht⟩, .int n⟩)
  rw [dt_ints hd] at hv
  exact ⟨.ref _, upd H (s.heap.objs.size + 1) (.lst ((sortI ns).map V.int)), I.laid (t' := s.toks) (fun _ _ => PyProof.Rows.sortedAll_old) (Nat.le_succ _) ⟨by rw [List.length_map, hl2]; exact Nat.le_trans hn (by decide), out, ep, hv, he'⟩, rfl, q _ (I.hok.fresh (Nat.le_succ _))⟩
theorem cg_sortedT {K : PySem.W.Frag} {f : Bool} {ns : List Int} (hn : ns.length ≤ 100000) : CallG (rSortedI' K) [.tuple f (ns.map .int)] (.list ((sortI ns).map .int)) := fun L vs H Q lv dv k => by
  cases dv with
  | cons h t =>
    cases t
    obtain ⟨p, xs, rfl, h1, h2⟩ := h.tup_of
    obtain rfl := dt_ints h2
    refine ⟨p, ns, rfl, h1.sq, hn, fun q hq => ?_⟩
    have e := same_new hq (.lst ((sortI ns).map V.int))
    exact k _ _ e (.lst (by rw [hide_out (live_new lv hq), upd_same]) (ints_dt _))
/-- sorted of a list of told pairs -/
def rSortedP' (K : PySem.W.Frag) : List V → Hp → VK → Prop := fun vs H Q => ∃ (a : Addr) (xs : List V) (bs : List Told) (G : Hp) (f g : Bool), vs = [V.ref a] ∧ SqL K H a xs ∧ Same G H ∧ DtAll G xs (bs.map (datT f g)) ∧ bs.length ≤ 100000 ∧ ∀ (p : Addr) (ys : List V), H p = none → DtAll G ys ((sortP bs).map (datT f g)) → Q (.ref p) (upd H p (.lst ys))
theorem kx_sortedP {X : Cx} {K : PySem.W.Frag} (hu : X.A.units + 64 < cLine) (hK : X.K = K := by rfl) : CallR X (.builtin "sorted") (rSortedP' K) := by
  subst hK
  intro pins s σ H vs us Q I r h
  obtain ⟨a, xs, bs, G, f, g, rfl, hs, hG, hd, hn, q⟩ := h
  obtain ⟨its, rv, hl, hz⟩ := I.list hs
  rw [Vals.ref1 r]
  have hlen0 : xs.length = bs.length := by rw [hd.len, List.length_map]
  have e : EachIs (fun v (b : Told) => ∃ x, RelV x v ∧ Dt G x (datT f g b)) its bs := each_of (by rw [← rv.length, hlen0]) fun i v b h1 h2 => by
    obtain ⟨x, h3, h4⟩ := hd.get (i := i) (d := datT f g b) (by rw [List.getElem?_map, h2]; rfl)
    obtain ⟨u, h5, h6⟩ := rv.get h3
    rw [h1] at h5; cases h5
    exact ⟨x, h6, h4⟩
  have er : EachIs (fun v (b : Told) => ∃ as, Reads s.heap v (pyT b) as) its bs := e.mono fun v b hx => by
    obtain ⟨x, r1, d1⟩ := hx
    have := Dp.reads I _ x v ((d1.mono hG).dp (K := X.K)) r1
    rw [datT_py] at this
    exact this
  refine sorted_data (enc := pyT) hl.isList e er (AllAlike.of alike_told) (Sortable.tuples fun b => ⟨_, _, rfl⟩) (Nat.le_trans hn (by decide)) (fun b _ => by rw [depth_told]; omega) fun out hlen eo => ?_
  · rw [le_told] at eo
    obtain ⟨ep, he'⟩ := PyProof.Rows.sortedAll_at s.heap its out.toArray
    have eo' : EachIs (fun v (b : Told) => ∃ x, RelV x v ∧ Dt G x (datT f g b)) out (sortP bs) := eo
    obtain ⟨ys, hv, hdy⟩ := each_vals eo'
    have hl2 : (sortP bs).length = bs.length := (List.mergeSort_perm bs leP).length_eq
    exact ⟨.ref _, upd H (s.heap.objs.size + 1) (.lst ys), I.laid (t' := s.toks) (fun _ _ => PyProof.Rows.sortedAll_old) (Nat.le_succ _) ⟨by rw [hdy.len, List.length_map, hl2]; exact Nat.le_trans hn (by decide), out, ep, hv, he'⟩, rfl, q _ ys (I.hok.fresh (Nat.le_succ _)) hdy⟩
theorem cg_sortedP {K : PySem.W.Frag} {f g : Bool} {bs : List Told} (hn : bs.length ≤ 100000) : CallG (rSortedP' K) [.list (bs.map (datT f g))] (.list ((sortP bs).map (datT f g))) := fun L vs H Q lv dv k => by
  cases dv with
  | cons h t =>
    cases t
    obtain ⟨p, xs, rfl, h1, h2⟩ := h.lst_of
    refine ⟨p, xs, bs, hide H L, f, g, rfl, .of (hide_some h1).2, hide_sub, h2, hn, fun q ys hq hy => ?_⟩
    have e := same_new hq (.lst ys)
    exact k _ _ e (.lst (by rw [hide_out (live_new lv hq), upd_same]) (hy.mono (hide_same e)))
/-- t < u of told pairs -/
def rLtP (K : PySem.W.Frag) : R2 := fun x y H Q => ∃ (t u : Told) (f g f' g' : Bool), Dt H x (datT f g t) ∧ Dt H y (datT f' g' u) ∧ Q (.bl (ltP t u)) H
theorem kx_ltP {X : Cx} {K : PySem.W.Frag} (hu : X.A.units + 64 < cLine) (hK : X.K = K := by rfl) : OpR X (compareOp .Lt) (rLtP K) := by
  subst hK
  intro pins s σ H x y v u Q I rx ry h
  obtain ⟨t, t', f, g, f', g', d1, d2, q⟩ := h
  obtain ⟨as, r1⟩ := Dp.reads I _ x v (d1.dp (K := X.K)) rx
  obtain ⟨bs, r2⟩ := Dp.reads I _ y u (d2.dp (K := X.K)) ry
  rw [datT_py] at r1 r2
  refine lt_data r1 r2 (alike_told t t') (fun z => nomatch z) (by rw [depth_told, depth_told]; omega) ?_
  rw [lt_told]
  exact ⟨.bl _, H, I, rfl, q⟩
theorem og_ltP {K : PySem.W.Frag} {t u : Told} {f g f' g' : Bool} : OpG (rLtP K) (datT f g t) (datT f' g' u) (.bool (ltP t u)) := fun L x y H Q lv d1 d2 k => ⟨t, u, f, g, f', g', d1.up, d2.up, k _ H (Same.refl H) (.bl _)⟩
/-- tuples of ints compared: < -/
theorem og_ltI {K : PySem.W.Frag} {f g : Bool} {ns ms : List Int} : OpG (rLtT K) (.tuple f (ns.map .int)) (.tuple g (ms.map .int)) (.bool (HT.lexLt ns ms)) := fun L x y H Q lv d1 d2 k => by
  obtain ⟨p, xs, rfl, h1, h2⟩ := d1.tup_of
  obtain ⟨q, ys, rfl, h3, h4⟩ := d2.tup_of
  obtain rfl := dt_ints h2
  obtain rfl := dt_ints h4
  exact ⟨p, q, ns, ms, rfl, rfl, h1.sq, h3.sq, k _ H (Same.refl H) (.bl _)⟩
theorem kx_ltT {X : Cx} {K : PySem.W.Frag} (hu : X.A.units < cLine) (hK : X.K = K := by rfl) : OpR X (compareOp .Lt) (rLtT K) := hK ▸ op_ltT hu
theorem lexLt_eq : ∀ a b : List Int, HT.lexLt a b = lexI a b
  | [], [] => rfl
  | [], _ :: _ => rfl
  | _ :: _, [] => rfl
  | x :: xs, y :: ys => by rw [HT.lexLt_cons, lexI, lexLt_eq xs ys]
end Nr
set_option Elab.async false
set_option linter.all false
set_option maxRecDepth 100000
set_option maxHeartbeats 2000000
/-! The text by places. -/
namespace Nr
open PySem PySem.Spec PyProof.Rows L2
def top (i : Nat) : Stmt := PySem.Challenge.pw_rulerows_k36_whole_nearest_rows.main.body.getD i (.Pass ⟨0, 0, 0, 0⟩)
abbrev s_is_between : Stmt := top 9
abbrev nm_is_between : List Str := ["value", "low", "high"]
abbrev pp_is_between : List Str := ["value", "low", "high"]
theorem sc_is_between : FnScope nm_is_between pp_is_between (defScope s_is_between) := ⟨rfl, rfl, rfl, by decide +kernel, rfl, by decide +kernel, by decide +kernel⟩
abbrev s_is_widths : Stmt := top 10
abbrev nm_is_widths : List Str := ["value", "width"]
abbrev pp_is_widths : List Str := ["value"]
theorem sc_is_widths : FnScope nm_is_widths pp_is_widths (defScope s_is_widths) := ⟨rfl, rfl, rfl, by decide +kernel, rfl, by decide +kernel, by decide +kernel⟩
abbrev s_is_range : Stmt := top 11
abbrev nm_is_range : List Str := ["value", "width"]
abbrev pp_is_range : List Str := ["value", "width"]
theorem sc_is_range : FnScope nm_is_range pp_is_range (defScope s_is_range) := ⟨rfl, rfl, rfl, by decide +kernel, rfl, by decide +kernel, by decide +kernel⟩
abbrev s_is_rule : Stmt := top 12
abbrev nm_is_rule : List Str := ["value", "widths", "at", "width"]
abbrev pp_is_rule : List Str := ["value", "widths"]
theorem sc_is_rule : FnScope nm_is_rule pp_is_rule (defScope s_is_rule) := ⟨rfl, rfl, rfl, by decide +kernel, rfl, by decide +kernel, by decide +kernel⟩
abbrev s_is_list : Stmt := top 13
abbrev nm_is_list : List Str := ["value", "rule"]
abbrev pp_is_list : List Str := ["value"]
theorem sc_is_list : FnScope nm_is_list pp_is_list (defScope s_is_list) := ⟨rfl, rfl, rfl, by decide +kernel, rfl, by decide +kernel, by decide +kernel⟩
abbrev s_is_case : Stmt := top 14
abbrev nm_is_case : List Str := ["listed", "value", "at", "width"]
abbrev pp_is_case : List Str := ["listed", "value"]
theorem sc_is_case : FnScope nm_is_case pp_is_case (defScope s_is_case) := ⟨rfl, rfl, rfl, by decide +kernel, rfl, by decide +kernel, by decide +kernel⟩
abbrev s_is_number : Stmt := top 15
abbrev nm_is_number : List Str := ["listed", "value"]
abbrev pp_is_number : List Str := ["listed", "value"]
theorem sc_is_number : FnScope nm_is_number pp_is_number (defScope s_is_number) := ⟨rfl, rfl, rfl, by decide +kernel, rfl, by decide +kernel, by decide +kernel⟩
abbrev s_is_row : Stmt := top 16
abbrev nm_is_row : List Str := ["listed", "value", "number"]
abbrev pp_is_row : List Str := ["listed", "value"]
theorem sc_is_row : FnScope nm_is_row pp_is_row (defScope s_is_row) := ⟨rfl, rfl, rfl, by decide +kernel, rfl, by decide +kernel, by decide +kernel⟩
abbrev s_check_list_lists : Stmt := top 17
abbrev nm_check_list_lists : List Str := ["listed", "name"]
abbrev pp_check_list_lists : List Str := ["listed", "name"]
theorem sc_check_list_lists : FnScope nm_check_list_lists pp_check_list_lists (defScope s_check_list_lists) := ⟨rfl, rfl, rfl, by decide +kernel, rfl, by decide +kernel, by decide +kernel⟩
abbrev s_cases_of : Stmt := top 19
abbrev nm_cases_of : List Str := ["widths", "found", "width", "case", "value"]
abbrev pp_cases_of : List Str := ["widths"]
theorem sc_cases_of : FnScope nm_cases_of pp_cases_of (defScope s_cases_of) := ⟨rfl, rfl, rfl, by decide +kernel, rfl, by decide +kernel, by decide +kernel⟩
abbrev s_matches_in : Stmt := top 20
abbrev nm_matches_in : List Str := ["listed", "number", "case", "ranges", "at", "value"]
abbrev pp_matches_in : List Str := ["listed", "number", "case"]
theorem sc_matches_in : FnScope nm_matches_in pp_matches_in (defScope s_matches_in) := ⟨rfl, rfl, rfl, by decide +kernel, rfl, by decide +kernel, by decide +kernel⟩
abbrev s_decided : Stmt := top 21
abbrev nm_decided : List Str := ["listed", "row", "case", "number"]
abbrev pp_decided : List Str := ["listed", "row", "case"]
theorem sc_decided : FnScope nm_decided pp_decided (defScope s_decided) := ⟨rfl, rfl, rfl, by decide +kernel, rfl, by decide +kernel, by decide +kernel⟩
abbrev s_is_action : Stmt := top 25
abbrev nm_is_action : List Str := ["value"]
abbrev pp_is_action : List Str := ["value"]
theorem sc_is_action : FnScope nm_is_action pp_is_action (defScope s_is_action) := ⟨rfl, rfl, rfl, by decide +kernel, rfl, by decide +kernel, by decide +kernel⟩
abbrev s_are_pairs : Stmt := top 26
abbrev nm_are_pairs : List Str := ["listed", "value", "pair", "at"]
abbrev pp_are_pairs : List Str := ["listed", "value"]
theorem sc_are_pairs : FnScope nm_are_pairs pp_are_pairs (defScope s_are_pairs) := ⟨rfl, rfl, rfl, by decide +kernel, rfl, by decide +kernel, by decide +kernel⟩
abbrev s_is_wanted : Stmt := top 27
abbrev nm_is_wanted : List Str := ["listed", "value"]
abbrev pp_is_wanted : List Str := ["listed", "value"]
theorem sc_is_wanted : FnScope nm_is_wanted pp_is_wanted (defScope s_is_wanted) := ⟨rfl, rfl, rfl, by decide +kernel, rfl, by decide +kernel, by decide +kernel⟩
abbrev s_check_list_wanted : Stmt := top 28
abbrev nm_check_list_wanted : List Str := ["listed"]
abbrev pp_check_list_wanted : List Str := ["listed"]
theorem sc_check_list_wanted : FnScope nm_check_list_wanted pp_check_list_wanted (defScope s_check_list_wanted) := ⟨rfl, rfl, rfl, by decide +kernel, rfl, by decide +kernel, by decide +kernel⟩
abbrev s_ascending : Stmt := top 30
abbrev nm_ascending : List Str := ["listed"]
abbrev pp_ascending : List Str := ["listed"]
theorem sc_ascending : FnScope nm_ascending pp_ascending (defScope s_ascending) := ⟨rfl, rfl, rfl, by decide +kernel, rfl, by decide +kernel, by decide +kernel⟩
abbrev s_wants : Stmt := top 31
abbrev nm_wants : List Str := ["listed", "wanted", "model", "case"]
abbrev pp_wants : List Str := ["listed", "wanted"]
theorem sc_wants : FnScope nm_wants pp_wants (defScope s_wants) := ⟨rfl, rfl, rfl, by decide +kernel, rfl, by decide +kernel, by decide +kernel⟩
abbrev s_check_both : Stmt := top 33
abbrev nm_check_both : List Str := ["listed", "wanted"]
abbrev pp_check_both : List Str := ["listed", "wanted"]
theorem sc_check_both : FnScope nm_check_both pp_check_both (defScope s_check_both) := ⟨rfl, rfl, rfl, by decide +kernel, rfl, by decide +kernel, by decide +kernel⟩
abbrev s_kinds_of : Stmt := top 34
abbrev nm_kinds_of : List Str := ["listed", "wanted", "found", "case", "action", "matching", "number"]
abbrev pp_kinds_of : List Str := ["listed", "wanted"]
theorem sc_kinds_of : FnScope nm_kinds_of pp_kinds_of (defScope s_kinds_of) := ⟨rfl, rfl, rfl, by decide +kernel, rfl, by decide +kernel, by decide +kernel⟩
abbrev s_action_by : Stmt := top 35
abbrev nm_action_by : List Str := ["listed", "row", "matching", "number"]
abbrev pp_action_by : List Str := ["listed", "row", "matching"]
theorem sc_action_by : FnScope nm_action_by pp_action_by (defScope s_action_by) := ⟨rfl, rfl, rfl, by decide +kernel, rfl, by decide +kernel, by decide +kernel⟩
abbrev s_wrong_kind : Stmt := top 36
abbrev nm_wrong_kind : List Str := ["listed", "kinds", "row", "matching", "action", "case"]
abbrev pp_wrong_kind : List Str := ["listed", "kinds", "row"]
theorem sc_wrong_kind : FnScope nm_wrong_kind pp_wrong_kind (defScope s_wrong_kind) := ⟨rfl, rfl, rfl, by decide +kernel, rfl, by decide +kernel, by decide +kernel⟩
abbrev s_barred : Stmt := top 37
abbrev nm_barred : List Str := ["listed", "kinds", "placed", "number", "matching", "action", "case", "other"]
abbrev pp_barred : List Str := ["listed", "kinds", "placed", "number"]
theorem sc_barred : FnScope nm_barred pp_barred (defScope s_barred) := ⟨rfl, rfl, rfl, by decide +kernel, rfl, by decide +kernel, by decide +kernel⟩
abbrev s_check_row_of : Stmt := top 38
abbrev nm_check_row_of : List Str := ["listed", "value", "name"]
abbrev pp_check_row_of : List Str := ["listed", "value", "name"]
theorem sc_check_row_of : FnScope nm_check_row_of pp_check_row_of (defScope s_check_row_of) := ⟨rfl, rfl, rfl, by decide +kernel, rfl, by decide +kernel, by decide +kernel⟩
abbrev s_is_whole : Stmt := top 39
abbrev nm_is_whole : List Str := ["value", "least", "most"]
abbrev pp_is_whole : List Str := ["value", "least", "most"]
theorem sc_is_whole : FnScope nm_is_whole pp_is_whole (defScope s_is_whole) := ⟨rfl, rfl, rfl, by decide +kernel, rfl, by decide +kernel, by decide +kernel⟩
abbrev s_need_right : Stmt := top 40
abbrev nm_need_right : List Str := ["listed", "kinds", "row"]
abbrev pp_need_right : List Str := ["listed", "kinds", "row"]
theorem sc_need_right : FnScope nm_need_right pp_need_right (defScope s_need_right) := ⟨rfl, rfl, rfl, by decide +kernel, rfl, by decide +kernel, by decide +kernel⟩
abbrev s_checked : Stmt := top 41
abbrev nm_checked : List Str := ["listed", "wanted", "row"]
abbrev pp_checked : List Str := ["listed", "wanted", "row"]
theorem sc_checked : FnScope nm_checked pp_checked (defScope s_checked) := ⟨rfl, rfl, rfl, by decide +kernel, rfl, by decide +kernel, by decide +kernel⟩
abbrev s_nearest : Stmt := top 42
abbrev nm_nearest : List Str := ["listed", "wanted", "row", "number", "place", "kinds", "layer", "at", "fresh", "placed", "steps", "ahead", "one", "passed", "told", "key", "other"]
abbrev pp_nearest : List Str := ["listed", "wanted", "row", "number", "place"]
theorem sc_nearest : FnScope nm_nearest pp_nearest (defScope s_nearest) := ⟨rfl, rfl, rfl, by decide +kernel, rfl, by decide +kernel, by decide +kernel⟩
abbrev s_l_stream : Stmt := top 44
abbrev nm_l_stream : List Str := ["_law_script"]
abbrev pp_l_stream : List Str := ["_law_script"]
theorem sc_l_stream : FnScope nm_l_stream pp_l_stream (defScope s_l_stream) := ⟨rfl, rfl, rfl, by decide +kernel, rfl, by decide +kernel, by decide +kernel⟩
abbrev s_l_next : Stmt := top 45
abbrev nm_l_next : List Str := ["_law_stream_here", "_law_many", "_law_k", "_law_cell", "_law_digit"]
abbrev pp_l_next : List Str := ["_law_stream_here", "_law_many"]
theorem sc_l_next : FnScope nm_l_next pp_l_next (defScope s_l_next) := ⟨rfl, rfl, rfl, by decide +kernel, rfl, by decide +kernel, by decide +kernel⟩
abbrev s_l_is_integer : Stmt := top 46
abbrev nm_l_is_integer : List Str := ["_law_actual"]
abbrev pp_l_is_integer : List Str := ["_law_actual"]
theorem sc_l_is_integer : FnScope nm_l_is_integer pp_l_is_integer (defScope s_l_is_integer) := ⟨rfl, rfl, rfl, by decide +kernel, rfl, by decide +kernel, by decide +kernel⟩
abbrev s_l_equal : Stmt := top 47
abbrev nm_l_equal : List Str := ["_law_actual", "_law_due", "_law_at"]
abbrev pp_l_equal : List Str := ["_law_actual", "_law_due"]
theorem sc_l_equal : FnScope nm_l_equal pp_l_equal (defScope s_l_equal) := ⟨rfl, rfl, rfl, by decide +kernel, rfl, by decide +kernel, by decide +kernel⟩
abbrev s_l_list : Stmt := top 48
abbrev nm_l_list : List Str := ["_law_stream_here", "_law_widths_here", "_law_least", "_law_most", "_law_rules", "_law_k", "_law_ranges", "_law_width", "_law_low", "_law_high"]
abbrev pp_l_list : List Str := ["_law_stream_here", "_law_widths_here", "_law_least", "_law_most"]
theorem sc_l_list : FnScope nm_l_list pp_l_list (defScope s_l_list) := ⟨rfl, rfl, rfl, by decide +kernel, rfl, by decide +kernel, by decide +kernel⟩
abbrev s_l_widths : Stmt := top 49
abbrev nm_l_widths : List Str := ["_law_stream_here"]
abbrev pp_l_widths : List Str := ["_law_stream_here"]
theorem sc_l_widths : FnScope nm_l_widths pp_l_widths (defScope s_l_widths) := ⟨rfl, rfl, rfl, by decide +kernel, rfl, by decide +kernel, by decide +kernel⟩
abbrev s_l_cases : Stmt := top 50
abbrev nm_l_cases : List Str := ["_law_widths_here", "_law_found", "_law_width", "_law_longer", "_law_case", "_law_value"]
abbrev pp_l_cases : List Str := ["_law_widths_here"]
theorem sc_l_cases : FnScope nm_l_cases pp_l_cases (defScope s_l_cases) := ⟨rfl, rfl, rfl, by decide +kernel, rfl, by decide +kernel, by decide +kernel⟩
abbrev s_l_matches : Stmt := top 51
abbrev nm_l_matches : List Str := ["_law_listed", "_law_number", "_law_case", "_law_ranges", "_law_k"]
abbrev pp_l_matches : List Str := ["_law_listed", "_law_number", "_law_case"]
theorem sc_l_matches : FnScope nm_l_matches pp_l_matches (defScope s_l_matches) := ⟨rfl, rfl, rfl, by decide +kernel, rfl, by decide +kernel, by decide +kernel⟩
abbrev s_l_decides : Stmt := top 52
abbrev nm_l_decides : List Str := ["_law_listed", "_law_row", "_law_case", "_law_number"]
abbrev pp_l_decides : List Str := ["_law_listed", "_law_row", "_law_case"]
theorem sc_l_decides : FnScope nm_l_decides pp_l_decides (defScope s_l_decides) := ⟨rfl, rfl, rfl, by decide +kernel, rfl, by decide +kernel, by decide +kernel⟩
abbrev s_l_shuffled : Stmt := top 53
abbrev nm_l_shuffled : List Str := ["_law_stream_here", "_law_many", "_law_left", "_law_found", "_law_k"]
abbrev pp_l_shuffled : List Str := ["_law_stream_here", "_law_many"]
theorem sc_l_shuffled : FnScope nm_l_shuffled pp_l_shuffled (defScope s_l_shuffled) := ⟨rfl, rfl, rfl, by decide +kernel, rfl, by decide +kernel, by decide +kernel⟩
abbrev s_l_wanted : Stmt := top 54
abbrev nm_l_wanted : List Str := ["_law_stream_here", "_law_listed", "_law_pick", "_law_many", "_law_order", "_law_rules", "_law_k", "_law_row", "_law_other", "_law_found", "_law_case", "_law_action", "_law_number"]
abbrev pp_l_wanted : List Str := ["_law_stream_here", "_law_listed"]
theorem sc_l_wanted : FnScope nm_l_wanted pp_l_wanted (defScope s_l_wanted) := ⟨rfl, rfl, rfl, by decide +kernel, rfl, by decide +kernel, by decide +kernel⟩
abbrev s_l_wants : Stmt := top 55
abbrev nm_l_wants : List Str := ["_law_listed", "_law_wanted_here", "_law_model", "_law_row", "_law_case"]
abbrev pp_l_wants : List Str := ["_law_listed", "_law_wanted_here"]
theorem sc_l_wants : FnScope nm_l_wants pp_l_wants (defScope s_l_wants) := ⟨rfl, rfl, rfl, by decide +kernel, rfl, by decide +kernel, by decide +kernel⟩
abbrev s_l_kinds : Stmt := top 56
abbrev nm_l_kinds : List Str := ["_law_listed", "_law_pairs", "_law_found", "_law_case", "_law_action", "_law_matching", "_law_number", "_law_one", "_law_told", "_law_first"]
abbrev pp_l_kinds : List Str := ["_law_listed", "_law_pairs"]
theorem sc_l_kinds : FnScope nm_l_kinds pp_l_kinds (defScope s_l_kinds) := ⟨rfl, rfl, rfl, by decide +kernel, rfl, by decide +kernel, by decide +kernel⟩
abbrev s_l_wrong : Stmt := top 57
abbrev nm_l_wrong : List Str := ["_law_listed", "_law_kinds_here", "_law_row", "_law_matching", "_law_action", "_law_case", "_law_deciding", "_law_told", "_law_number"]
abbrev pp_l_wrong : List Str := ["_law_listed", "_law_kinds_here", "_law_row"]
theorem sc_l_wrong : FnScope nm_l_wrong pp_l_wrong (defScope s_l_wrong) := ⟨rfl, rfl, rfl, by decide +kernel, rfl, by decide +kernel, by decide +kernel⟩
abbrev s_l_rows : Stmt := top 58
abbrev nm_l_rows : List Str := ["_law_many", "_law_rows_here", "_law_k", "_law_longer", "_law_row", "_law_one"]
abbrev pp_l_rows : List Str := ["_law_many"]
theorem sc_l_rows : FnScope nm_l_rows pp_l_rows (defScope s_l_rows) := ⟨rfl, rfl, rfl, by decide +kernel, rfl, by decide +kernel, by decide +kernel⟩
abbrev s_l_right_rows : Stmt := top 59
abbrev nm_l_right_rows : List Str := ["_law_listed", "_law_kinds_here", "_law_row"]
abbrev pp_l_right_rows : List Str := ["_law_listed", "_law_kinds_here"]
theorem sc_l_right_rows : FnScope nm_l_right_rows pp_l_right_rows (defScope s_l_right_rows) := ⟨rfl, rfl, rfl, by decide +kernel, rfl, by decide +kernel, by decide +kernel⟩
abbrev s_l_distance : Stmt := top 60
abbrev nm_l_distance : List Str := ["_law_row", "_law_other", "_law_found", "_law_k", "_law_one"]
abbrev pp_l_distance : List Str := ["_law_row", "_law_other"]
theorem sc_l_distance : FnScope nm_l_distance pp_l_distance (defScope s_l_distance) := ⟨rfl, rfl, rfl, by decide +kernel, rfl, by decide +kernel, by decide +kernel⟩
abbrev s_l_is_told : Stmt := top 61
abbrev nm_l_is_told : List Str := ["_law_stream_here", "_law_listed", "_law_wanted_here", "_law_kinds_here", "_law_rights", "_law_row", "_law_number", "_law_place", "_law_found", "_law_due", "_law_one"]
abbrev pp_l_is_told : List Str := ["_law_stream_here", "_law_listed"]
theorem sc_l_is_told : FnScope nm_l_is_told pp_l_is_told (defScope s_l_is_told) := ⟨rfl, rfl, rfl, by decide +kernel, rfl, by decide +kernel, by decide +kernel⟩
abbrev s_law : Stmt := top 62
abbrev nm_law : List Str := ["_law_script", "_law_stream_here"]
abbrev pp_law : List Str := ["_law_script"]
theorem sc_law : FnScope nm_law pp_law (defScope s_law) := ⟨rfl, rfl, rfl, by decide +kernel, rfl, by decide +kernel, by decide +kernel⟩
end Nr
set_option Elab.async false
set_option linter.all false
set_option maxRecDepth 100000
set_option maxHeartbeats 2000000
/-! More of the data layer: two clauses, loops that change slots, ranges of any end. -/
namespace Nr
open PySem PySem.Spec L2
section
variable {K : PySem.W.Frag} {Γ Γ' : Gam}
theorem wg_rngI {te : TE} {n : Int} (h : EvG te Γ (.int n)) (h1 : -100000 ≤ n) (h2 : n ≤ 100000) : WalkG (iRng1 (tCons te tNil)) Γ (((List.range n.toNat).map fun i : Nat => (i : Int)).map .int) := fun L σ H R lv he k =>
  h L σ H _ lv he fun v H1 e1 d1 => ⟨n, by rw [d1.int_of], by omega, by omega, k _ H1 e1 itg_rng⟩
/-- [e for x in .. for y in ..] -/
theorem ev_lc2 {α β : Type} {wi wi1 : TI} {g g1 : TG} {te : TE} {vs vs1 : List Nat} {items : List α} {enc : α → Dat} {Γ1 : α → Gam} {ys : α → List β} {enc1 : β → Dat} {Γ2 : α → β → Gam} {f : α → β → Dat}
    (hv : ∀ v ∈ vs1, v ∈ vs) (hw : WalkG wi Γ (items.map enc)) (hg : ∀ x ∈ items, TgG g vs (blank Γ vs) (enc x) (Γ1 x)) (hw1 : ∀ x ∈ items, WalkG wi1 (Γ1 x) ((ys x).map enc1))
    (hg1 : ∀ x ∈ items, ∀ y ∈ ys x, TgG g1 vs1 (blank (Γ1 x) vs1) (enc1 y) (Γ2 x y)) (he : ∀ x ∈ items, ∀ y ∈ ys x, EvG te (Γ2 x y) (f x y)) (hn : ∀ i, (((items.take i).flatMap fun x => (ys x).map (f x)).length + ((items[i]?).map fun x => (ys x).length).getD 0 < 100000)) :
    EvG (tLc2 wi g tYes wi1 g1 tYes te vs vs1) Γ (.list (items.flatMap fun x => (ys x).map (f x))) := fun L σ H0 Q lv env k => hw L σ H0 _ lv env fun J H1 e1 G D hD => by
  have lv1 := live_mono lv e1
  have hDL := live_new lv1 hD
  have envW : ∀ H, Same H1 H → Env (hide H (D :: L)) (wipe σ vs) (blank Γ vs) := fun H e => ((env.mono (hide_same e1)).mono (hide_more e hD)).wipe vs
  have dom : ∀ l ∈ D :: L, l ∈ L ∨ H1 l = none := fun l hl => (List.mem_cons.mp hl).elim (fun z => .inr (z ▸ hD)) .inl
  refine ⟨fun i m H => m = items.length - i ∧ i ≤ items.length ∧ Same H1 H ∧ ∃ acc, H D = some (.lst acc) ∧ DtAll (hide H (D :: L)) acc ((items.take i).flatMap fun x => (ys x).map (f x)), ⟨_, rfl, Nat.zero_le _, same_new hD _, [], upd_same, .nil⟩, ?_⟩
  rintro i m H ⟨rfl, hi, e, acc, hA, dA⟩
  by_cases hlt : i < items.length
  · have hx : items[i]? = some items[i] := List.getElem?_eq_getElem hlt
    have hm : items[i] ∈ items := List.getElem_mem hlt
    have hd : (items.map enc)[i]? = some (enc items[i]) := by rw [List.getElem?_map, hx]; rfl
    have htk : items.take (i + 1) = items.take i ++ [items[i]] := by rw [List.take_add_one, hx]; rfl
    refine .inr ⟨G.goes i H (by rw [List.length_map]; exact hlt) (hide_same e), fun H' => Same H1 H' ∧ ∃ acc, H' D = some (.lst acc) ∧ DtAll (hide H' (D :: L)) acc ((items.take (i + 1)).flatMap fun x => (ys x).map (f x)), fun H' h => ⟨_, by omega, rfl, hlt, h⟩, fun x H' y => ?_⟩
    have lvD : Live (D :: L) H := live_cons (live_mono lv1 e) hA
    obtain ⟨e2, dx⟩ := G.yields i H x H' (D :: L) _ hd (hide_same e) y dom lvD
    have e12 := e.trans e2
    refine hg _ hm (D :: L) _ H' x _ (envW H' e12) dx fun σ2 env2 w2 => ⟨by rw [w2, wipe_wipe vs vs fun _ h => h], ?_⟩
    dsimp only [tYes]
    rw [if_pos rfl]
    refine hw1 _ hm (D :: L) σ2 H' _ (live_mono lvD e2) env2 fun J1 H3 e3 G1 => ?_
    have e23 := e2.trans e3
    have hA3 := e23 _ _ hA
    have lv3 : Live (D :: L) H3 := live_mono lvD e23
    have H3n : ∀ a o, H1 a = some o → a ≠ D := fun a o q z => by rw [z, hD] at q; cases q
    refine ⟨fun j m H4 => m = (ys items[i]).length - j ∧ j ≤ (ys items[i]).length ∧ Same H1 H4 ∧ SameX (D :: L) H3 H4 ∧ ∃ acc, H4 D = some (.lst acc) ∧ DtAll (hide H4 (D :: L)) acc (((items.take i).flatMap fun x => (ys x).map (f x)) ++ ((ys items[i]).take j).map (f items[i])),
      ⟨(ys items[i]).length, rfl, Nat.zero_le _, e.trans e23, Same.refl _, acc, hA3, by rw [List.take_zero, List.map_nil, List.append_nil]; exact dA.mono (hide_same e23)⟩, ?_⟩
    rintro j m4 H4 ⟨rfl, hj, s14, s34, acc4, hA4, dA4⟩
    have lv4 : Live (D :: L) H4 := fun l hl => by
      rcases List.mem_cons.mp hl with rfl | hl
      · rw [hA4]; exact fun z => nomatch z
      · exact live_mono lv1 s14 l hl
    by_cases hjl : j < (ys items[i]).length
    · have hy : (ys items[i])[j]? = some (ys items[i])[j] := List.getElem?_eq_getElem hjl
      have hmy : (ys items[i])[j] ∈ ys items[i] := List.getElem_mem hjl
      have hdy : ((ys items[i]).map enc1)[j]? = some (enc1 (ys items[i])[j]) := by rw [List.getElem?_map, hy]; rfl
      have htk1 : (ys items[i]).take (j + 1) = (ys items[i]).take j ++ [(ys items[i])[j]] := by rw [List.take_add_one, hy]; rfl
      refine .inr ⟨G1.goes j H4 (by rw [List.length_map]; exact hjl) s34, fun H' => Same H1 H' ∧ SameX (D :: L) H3 H' ∧ ∃ acc, H' D = some (.lst acc) ∧ DtAll (hide H' (D :: L)) acc (((items.take i).flatMap fun x => (ys x).map (f x)) ++ ((ys items[i]).take (j + 1)).map (f items[i])), fun H' h => ⟨_, by omega, rfl, hjl, h⟩, fun x2 H5 y2 => ?_⟩
      obtain ⟨e5, dx2⟩ := G1.yields j H4 x2 H5 (D :: L) _ hdy s34 y2 (fun l hl => .inl hl) lv4
      have s35 : SameX (D :: L) H3 H5 := fun a o q => hide_same e5 a o (s34 a o q)
      refine hg1 _ hm _ hmy (D :: L) _ H5 x2 _ ((env2.mono (fun a o q => s35 a o (hide_same e3 a o q))).wipe vs1) dx2 fun σ3 env3 w3 => ⟨by rw [w3, wipe_wipe vs1 vs1 fun _ h => h], ?_⟩
      dsimp only [tYes]
      rw [if_pos rfl]
      refine he _ hm _ hmy (D :: L) σ3 H5 _ (live_mono lv4 e5) env3 fun v H7 e7 d7 => ?_
      have e57 := e5.trans e7
      have hl : acc4.length = _ := dA4.len
      refine ⟨acc4, e57 _ _ hA4, ?_, fun a o q => ?_, fun a o q => ?_, acc4 ++ [v], upd_same, ?_⟩
      · have h1 := hn i
        rw [hx] at h1
        rw [List.length_append, List.length_map, List.length_take] at hl
        have h2 : ((some items[i]).map fun x => (ys x).length).getD 0 = (ys items[i]).length := rfl
        rw [h2] at h1
        refine Nat.lt_of_lt_of_le ?_ (by decide : 100000 ≤ sizeLine)
        omega
      · rw [upd_ne (H3n a o q)]
        exact e57 a o (s14 a o q)
      · rw [hide_upd List.mem_cons_self]
        exact hide_same e7 a o (s35 a o q)
      · rw [hide_upd List.mem_cons_self, htk1, List.map_append, ← List.append_assoc]
        exact (dA4.mono (hide_same e57)).append (.one d7)
    · have ej : j = (ys items[i]).length := by omega
      refine .inl ⟨?_, s14, acc4, hA4, ?_⟩
      · have := G1.stops H4 s34
        rw [List.length_map] at this
        rw [ej]; exact this
      · rw [ej, List.take_length] at dA4
        rw [htk, List.flatMap_append, List.flatMap_cons, List.flatMap_nil, List.append_nil]
        exact dA4
  · have ei : i = items.length := by omega
    refine .inl ⟨?_, k _ H (e1.trans e) (.lst (xs := acc) (by rw [hide_out hDL]; exact hA) ?_)⟩
    · have := G.stops H (hide_same e)
      rw [List.length_map] at this
      rw [ei]; exact this
    · rw [ei, List.take_length] at dA
      exact dA.mono hide_less
/-- a for whose turns carry the slots on: S by the turn -/
theorem st_forF {α : Type} {wi : TI} {g : TG} {tb : TS} {vs : List Nat} {items : List α} {enc : α → Dat} {S : Nat → Gam} {Γ1 : Nat → α → Gam} (hw : WalkG wi Γ (items.map enc)) (h0 : ∀ H σ, Env H σ Γ → Env H σ (S 0))
    (hg : ∀ i x, items[i]? = some x → TgG g vs (S i) (enc x) (Γ1 i x)) (hb : ∀ i x, items[i]? = some x → Stm tb (Γ1 i x) none (S (i + 1))) : Stm (tFor wi g tb) Γ none (S items.length) := fun L σ H0 D lv env _ k2 => hw L σ H0 _ lv env fun J H1 e1 G => by
  have lv1 := live_mono lv e1
  refine ⟨fun i m σ H => m = items.length - i ∧ i ≤ items.length ∧ Same H1 H ∧ Env (hide H L) σ (S i), ⟨_, rfl, Nat.zero_le _, Same.refl _, h0 _ _ (env.mono (hide_same e1))⟩, ?_⟩
  rintro i m σ' H ⟨rfl, hi, e, env'⟩
  by_cases hlt : i < items.length
  · have hx : items[i]? = some items[i] := List.getElem?_eq_getElem hlt
    have hd : (items.map enc)[i]? = some (enc items[i]) := by rw [List.getElem?_map, hx]; rfl
    refine .inr ⟨G.goes i H (by rw [List.length_map]; exact hlt) (hide_same e), fun σ2 H' => Same H1 H' ∧ Env (hide H' L) σ2 (S (i + 1)), fun σ2 H' h => ⟨_, by omega, rfl, hlt, h⟩, fun x H' y => ?_⟩
    obtain ⟨e2, dx⟩ := G.yields i H x H' L _ hd (hide_same e) y (fun l hl => .inl hl) (live_mono lv1 e)
    have e12 := e.trans e2
    refine hg i _ hx L σ' H' x _ (env'.mono (hide_same e2)) dx fun σ2 env2 w2 => ?_
    exact hb i _ hx L σ2 H' _ (live_mono lv1 e12) env2 (fun d hq => nomatch hq) fun hq σ3 H3 e3 env3 => ⟨e12.trans e3, env3⟩
  · have ei : i = items.length := by omega
    refine .inl ⟨?_, ?_⟩
    · have := G.stops H (hide_same e)
      rw [List.length_map] at this
      rw [ei]; exact this
    · rw [ei] at env'
      exact k2 rfl σ' H (e1.trans e) env'
/-- for x in ..: if test: return e -/
theorem st_search {α : Type} {wi : TI} {g : TG} {c : TT} {te : TE} {vs : List Nat} {items : List α} {enc : α → Dat} {Γ1 : α → Gam} {p : α → Bool} {f : α → Dat} (hw : WalkG wi Γ (items.map enc)) (hg : ∀ x ∈ items, TgG g vs (blank Γ vs) (enc x) (Γ1 x))
    (ht : ∀ x ∈ items, EvT c (Γ1 x) (p x)) (he : ∀ x ∈ items, p x = true → EvG te (Γ1 x) (f x)) (hΓ : ∀ x, blank (Γ1 x) vs = blank Γ vs := by intro _; rfl) : Stm (tFor wi g (tIfS c (tRet te) tNext)) Γ ((items.find? p).map f) (blank Γ vs) := by
  have e : (items.find? p).map f = items.findSome? fun x => if p x = true then some (f x) else none := by
    clear hw hg ht he
    induction items with
    | nil => rfl
    | cons x l ih =>
      rw [List.findSome?_cons, List.find?_cons]
      cases p x with
      | true => rfl
      | false => exact ih
  rw [e]
  refine st_for hw hg fun x hx => ?_
  rw [← hΓ x]
  refine st_weak (st_if (ht x hx) (fun h => ?_) fun h => ?_)
  · rw [if_pos h]
    exact st_ret (he x hx h)
  · rw [if_neg (by rw [h]; decide)]
    exact st_next
/-! a list or a tuple, walked -/
def iSeq (K : PySem.W.Frag) (tl : TE) : TI := fun σ H R => tl σ H fun x H1 => ∃ a, x = .ref a ∧ (((∃ xs, SqL K H1 a xs) ∧ R (Itl K a) H1) ∨ ((∃ xs, SqT K H1 a xs) ∧ R (Itt K a) H1))
theorem kx_piS {X : Cx} {K : PySem.W.Frag} {tg l : Expr} {tl : TE} (hl : PE X l tl) (hK : X.K = K := by rfl) : PI X tg l (iSeq K tl) := by
  subst hK
  refine ⟨fun pins s σ H R I h => ?_⟩
  refine thn (hl.run pins s σ H _ I h) fun v s1 ⟨x, H1, I1, r1, q1⟩ => ?_
  obtain ⟨a, e, q1⟩ := q1
  subst e
  cases r1
  rcases q1 with ⟨⟨xs, hq⟩, q⟩ | ⟨⟨xs, hq⟩, q⟩
  · obtain ⟨its, rv, p, hz⟩ := I1.list hq
    refine wpAny_pyIter_list p.isList ?_
    refine ⟨s1.heap.objs.size, [s1.heap.objs.size], _, _, H1, rfl, I1.kept (t' := s1.toks) fun b o e => Heap.get?_push_of_some _ e, turn_list a _, ⟨_, Heap.get?_push_size _ rfl, rfl, rfl⟩, fun b hb => ?_, q⟩
    have e : b = s1.heap.objs.size := by simpa using hb
    subst e
    exact I1.fpOk (Nat.le_refl _) (I1.hok.fresh (Nat.le_refl _))
  · obtain ⟨its, rv, p, hz⟩ := I1.tuple hq
    refine wpAny_pyIter_tuple (show s1.heap.IsTuple a its.toArray from p) ?_
    refine ⟨s1.heap.objs.size, [s1.heap.objs.size], _, _, H1, rfl, I1.kept (t' := s1.toks) fun b o e => Heap.get?_push_of_some _ e, turn_tuple a _, ⟨_, Heap.get?_push_size _ rfl, rfl, rfl⟩, fun b hb => ?_, q⟩
    have e : b = s1.heap.objs.size := by simpa using hb
    subst e
    exact I1.fpOk (Nat.le_refl _) (I1.hok.fresh (Nat.le_refl _))
theorem wg_seqL {tl : TE} {ds : List Dat} (h : EvG tl Γ (.list ds)) : WalkG (iSeq K tl) Γ ds := fun L σ H R lv he k =>
  h L σ H _ lv he fun v H1 e1 d1 => by
    obtain ⟨a, xs, rfl, h1, h2⟩ := id d1.lst_of
    refine ⟨a, rfl, .inl ⟨⟨xs, .of (hide_some h1).2⟩, ?_⟩⟩
    have hs : ∀ H, SameX L H1 H → SqL K H a xs := fun H e => .of (hide_some (e _ _ h1)).2
    refine k _ H1 e1 ⟨fun i H hi e => ?_, fun H e => ?_, fun i H x H' L2 d hd e y hL lv2 => ?_⟩
    · exact (walk_list (K := K) (a := a) (xs := xs)).goes i H (by rw [h2.len]; exact hi) (hs H e)
    · have := (walk_list (K := K) (a := a) (xs := xs)).stops H (hs H e)
      rw [h2.len] at this
      exact this
    · have hi : i < xs.length := by rw [h2.len]; exact (List.getElem?_eq_some_iff.mp hd).1
      obtain ⟨rfl, hx⟩ := (walk_list (K := K) (a := a) (xs := xs)).yields i H x H' hi (hs H e) y
      obtain ⟨w, h3, h4⟩ := h2.get hd
      rw [hx] at h3; cases h3
      exact ⟨Same.refl _, h4.mono (hide_ext e hL)⟩
theorem wg_seqT {tl : TE} {f : Bool} {ds : List Dat} (h : EvG tl Γ (.tuple f ds)) : WalkG (iSeq K tl) Γ ds := fun L σ H R lv he k =>
  h L σ H _ lv he fun v H1 e1 d1 => by
    obtain ⟨a, xs, rfl, h1, h2⟩ := id d1.tup_of
    refine ⟨a, rfl, .inr ⟨⟨xs, h1.sq⟩, ?_⟩⟩
    have hs : ∀ H, SameX L H1 H → SqT K H a xs := fun H e => (h1.mono e).sq
    refine k _ H1 e1 ⟨fun i H hi e => ?_, fun H e => ?_, fun i H x H' L2 d hd e y hL lv2 => ?_⟩
    · exact (walk_tup (K := K) (a := a) (xs := xs)).goes i H (by rw [h2.len]; exact hi) (hs H e)
    · have := (walk_tup (K := K) (a := a) (xs := xs)).stops H (hs H e)
      rw [h2.len] at this
      exact this
    · have hi : i < xs.length := by rw [h2.len]; exact (List.getElem?_eq_some_iff.mp hd).1
      obtain ⟨rfl, hx⟩ := (walk_tup (K := K) (a := a) (xs := xs)).yields i H x H' hi (hs H e) y
      obtain ⟨w, h3, h4⟩ := h2.get hd
      rw [hx] at h3; cases h3
      exact ⟨Same.refl _, h4.mono (hide_ext e hL)⟩
/-- what follows told as it comes -/
theorem st_asgE {te : TE} {d : Dat} {i : Nat} (h : EvG te Γ d) (hΓ : Γ.set i (.dat d) = Γ' := by rfl) : Stm (tAsg te (gName i)) Γ none Γ' := hΓ ▸ st_asg h
theorem st_weakE {ts : TS} {o : Option Dat} {Γ1 : Gam} (vs : List Nat) (h : Stm ts Γ o Γ1) (hΓ : blank Γ1 vs = Γ' := by rfl) : Stm ts Γ o Γ' := hΓ ▸ st_weak h
end
end Nr
set_option Elab.async false
set_option linter.all false
set_option maxRecDepth 100000
set_option maxHeartbeats 4000000
/-! The checks. -/
namespace Nr
open PySem PySem.Spec PyProof.Rows L2

/-! ### lists of rules as data -/
structure Lst where
  ws : List Int
  rules : List (Int × List (Int × Int))
  rest : Int
abbrev encI (ns : List Int) : Dat := .tuple false (ns.map .int)
abbrev encR (r : Int × Int) : Dat := .tuple false [.int r.1, .int r.2]
abbrev encRule (r : Int × List (Int × Int)) : Dat := .tuple false [.int r.1, .tuple false (r.2.map encR)]
abbrev encL (L : Lst) : Dat := .tuple false [encI L.ws, .tuple false (L.rules.map encRule), .int L.rest]
def WsOk (ws : List Int) : Prop := 1 ≤ ws.length ∧ ws.length ≤ 3 ∧ ∀ w ∈ ws, 1 ≤ w ∧ w ≤ 8
def RuleOk (ws : List Int) (r : Int × List (Int × Int)) : Prop := 0 ≤ r.1 ∧ r.1 ≤ 5 ∧ r.2.length = ws.length ∧ ∀ (i : Nat) (g : Int × Int) (w : Int), r.2[i]? = some g → ws[i]? = some w → 0 ≤ g.1 ∧ g.1 ≤ g.2 ∧ g.2 ≤ w - 1
def LOk (L : Lst) : Prop := WsOk L.ws ∧ L.rules.length ≤ 7 ∧ (0 ≤ L.rest ∧ L.rest ≤ 5) ∧ ∀ r ∈ L.rules, RuleOk L.ws r
def CaseOk (ws : List Int) (c : List Int) : Prop := c.length = ws.length ∧ ∀ (i : Nat) (x w : Int), c[i]? = some x → ws[i]? = some w → 0 ≤ x ∧ x ≤ w - 1

/-! ### short words for readings -/
section
variable {Γ Γ' : Gam} {K : PySem.W.Frag}
theorem ev_ixT {ta tb : TE} {f : Bool} {ds : List Dat} {d : Dat} (j : Nat) (ha : EvG ta Γ (.tuple f ds)) (hb : EvG tb Γ (.int (j : Int))) (h : ds[j]? = some d := by rfl) : EvG (tOp (rIxT K) ta tb) Γ d := ev_op ha hb (og_ixT rfl h)
theorem ev_ixL {ta tb : TE} {ds : List Dat} {d : Dat} (j : Nat) (ha : EvG ta Γ (.list ds)) (hb : EvG tb Γ (.int (j : Int))) (h : ds[j]? = some d := by rfl) : EvG (tOp (rIxL K) ta tb) Γ d := ev_op ha hb (og_ixL rfl h)
theorem ev_lenT {ta : TE} {f : Bool} {ds : List Dat} (h : EvG ta Γ (.tuple f ds)) : EvG (tCB (rLenK K) (tCons ta tNil)) Γ (.int (ds.length : Int)) := ev_cb (ea_cons h ea_nil) cg_lenT
theorem ev_lenL {ta : TE} {ds : List Dat} (h : EvG ta Γ (.list ds)) : EvG (tCB (rLenK K) (tCons ta tNil)) Γ (.int (ds.length : Int)) := ev_cb (ea_cons h ea_nil) cg_lenL
theorem ev_all {te : TE} {bs : List Bool} (h : EvG te Γ (.list (bs.map .bool))) : EvG (tCB (rAll K) (tCons te tNil)) Γ (.bool (bs.all id)) := ev_cb (ea_cons h ea_nil) cg_all
theorem ev_any {te : TE} {bs : List Bool} (h : EvG te Γ (.list (bs.map .bool))) : EvG (tCB (rAny K) (tCons te tNil)) Γ (.bool (bs.any id)) := ev_cb (ea_cons h ea_nil) cg_any
theorem ev_addI {ta tb : TE} {i j : Int} (ha : EvG ta Γ (.int i)) (hb : EvG tb Γ (.int j)) : EvG (tOp (rI0 fun i j => .int (i + j)) ta tb) Γ (.int (i + j)) := ev_op ha hb og_II
theorem ev_subI {ta tb : TE} {i j : Int} (ha : EvG ta Γ (.int i)) (hb : EvG tb Γ (.int j)) : EvG (tOp (rI0 fun i j => .int (i - j)) ta tb) Γ (.int (i - j)) := ev_op ha hb og_II
theorem st_skip {c : TT} {ts : TS} (hc : EvT c Γ false) : Stm (tIfS c ts tNext) Γ none Γ := st_if hc (fun q => nomatch q) fun _ => st_next
/-- tuple of a list -/
theorem ev_tupleL {te : TE} {ds : List Dat} (h : EvG te Γ (.list ds)) : EvG (tCB (rTupK K) (tCons te tNil)) Γ (.tuple false ds) := ev_cb (ea_cons h ea_nil) cg_tuple
theorem ev_listT {te : TE} {f : Bool} {ds : List Dat} (h : EvG te Γ (.tuple f ds)) : EvG (tCB (rLstK K) (tCons te tNil)) Γ (.list ds) := ev_cb (ea_cons h ea_nil) cg_listT
theorem ev_one {a b : TE} {d e : Dat} (h : EvG a Γ d) : EvA (tCons a tNil) Γ [d] := ea_cons h ea_nil
end
theorem kit_ii : kitB "int" "int" = some true := by decide +kernel
theorem kit_ib : kitB "int" "bool" = some false := by decide +kernel
theorem kit_is : kitB "int" "str" = some false := by decide +kernel
theorem kit_tt : kitB "tuple" "tuple" = some true := by decide +kernel
theorem kit_tb : kitB "tuple" "bool" = some false := by decide +kernel
theorem kit_ti : kitB "tuple" "int" = some false := by decide +kernel
theorem kit_ts : kitB "tuple" "str" = some false := by decide +kernel
theorem kit_tl : kitB "tuple" "list" = some false := by decide +kernel
theorem kit_ss : kitB "str" "str" = some true := by decide +kernel
section
variable {Γ : Gam} {K : PySem.W.Frag} {te : TE}
theorem is_tt {f : Bool} {ds : List Dat} (h : EvG te Γ (.tuple f ds)) : EvG (tCB (rIsi K) (tCons te (tCons (tC (.ty "tuple")) tNil))) Γ (.bool true) := ev_isi h kit_tt
theorem is_tb {f : Bool} {ds : List Dat} (h : EvG te Γ (.tuple f ds)) : EvG (tCB (rIsi K) (tCons te (tCons (tC (.ty "bool")) tNil))) Γ (.bool false) := ev_isi h kit_tb
theorem is_ti {f : Bool} {ds : List Dat} (h : EvG te Γ (.tuple f ds)) : EvG (tCB (rIsi K) (tCons te (tCons (tC (.ty "int")) tNil))) Γ (.bool false) := ev_isi h kit_ti
theorem is_ts {f : Bool} {ds : List Dat} (h : EvG te Γ (.tuple f ds)) : EvG (tCB (rIsi K) (tCons te (tCons (tC (.ty "str")) tNil))) Γ (.bool false) := ev_isi h kit_ts
theorem is_tl {f : Bool} {ds : List Dat} (h : EvG te Γ (.tuple f ds)) : EvG (tCB (rIsi K) (tCons te (tCons (tC (.ty "list")) tNil))) Γ (.bool false) := ev_isi h kit_tl
theorem is_ii {i : Int} (h : EvG te Γ (.int i)) : EvG (tCB (rIsi K) (tCons te (tCons (tC (.ty "int")) tNil))) Γ (.bool true) := ev_isi h kit_ii
theorem is_ib {i : Int} (h : EvG te Γ (.int i)) : EvG (tCB (rIsi K) (tCons te (tCons (tC (.ty "bool")) tNil))) Γ (.bool false) := ev_isi h kit_ib
theorem is_ss {x : Str} (h : EvG te Γ (.str x)) : EvG (tCB (rIsi K) (tCons te (tCons (tC (.ty "str")) tNil))) Γ (.bool true) := ev_isi h kit_ss
end
section
variable {Γ : Gam} {K : PySem.W.Frag} {α : Type} {wi : TI} {g : TG} {te : TE} {vs : List Nat} {items : List α} {enc : α → Dat} {Γ1 : α → Gam} {p : α → Bool}
/-- all([.. for ..]) -/
theorem ev_allc (hw : WalkG wi Γ (items.map enc)) (hg : ∀ x ∈ items, TgG g vs (blank Γ vs) (enc x) (Γ1 x)) (he : ∀ x ∈ items, EvG te (Γ1 x) (.bool (p x))) (hn : items.length < 100000) :
    EvG (tCB (rAll K) (tCons (tLc wi g tYes te vs) tNil)) Γ (.bool (items.all p)) :=
  EvG.is (ev_all (bs := items.map p) (EvG.is (ev_lc0 hw hg he hn) (by rw [List.map_map]; rfl))) (by rw [List.all_map]; rfl)
theorem ev_anyc (hw : WalkG wi Γ (items.map enc)) (hg : ∀ x ∈ items, TgG g vs (blank Γ vs) (enc x) (Γ1 x)) (he : ∀ x ∈ items, EvG te (Γ1 x) (.bool (p x))) (hn : items.length < 100000) :
    EvG (tCB (rAny K) (tCons (tLc wi g tYes te vs) tNil)) Γ (.bool (items.any p)) :=
  EvG.is (ev_any (bs := items.map p) (EvG.is (ev_lc0 hw hg he hn) (by rw [List.map_map]; rfl))) (by rw [List.any_map]; rfl)
/-- the items with their places -/
def plc (xs : List α) : List (Nat × α) := xs.mapIdx Prod.mk
theorem plc_len (xs : List α) : (plc xs).length = xs.length := List.length_mapIdx
theorem plc_mem {xs : List α} {q : Nat × α} (h : q ∈ plc xs) : xs[q.1]? = some q.2 := by
  unfold plc at h
  rw [List.mem_mapIdx] at h
  obtain ⟨i, hi, rfl⟩ := h
  exact List.getElem?_eq_getElem hi
theorem wg_enumM {f : Bool} {xs : List α} {ta : TE} (h : EvG ta Γ (.tuple f (xs.map enc))) : WalkG (iEnumT K ta) Γ ((plc xs).map fun q => .tuple false [.int (q.1 : Int), enc q.2]) := by
  have e : ((xs.map enc).mapIdx fun i d => Dat.tuple false [.int (i : Int), d]) = (plc xs).map fun q => .tuple false [.int (q.1 : Int), enc q.2] := by
    refine List.ext_getElem? fun i => ?_
    unfold plc
    rw [List.getElem?_mapIdx, List.getElem?_map, List.getElem?_map, List.getElem?_mapIdx, Option.map_map, Option.map_map]
    rfl
  rw [← e]
  exact wg_enum h
end
section
variable {P : Program} {w : World} {K : PySem.W.Frag} {mg : Str → Option Value} {base : Heap}
abbrev R_between (ds : List Dat) (d : Dat) : Prop := ∃ v lo hi : Int, ds = [.int v, .int lo, .int hi] ∧ d = .bool (decide (lo ≤ v) && decide (v ≤ hi))
abbrev sp_is_between : Sp := spD 3 R_between
theorem ok_is_between (Z : Zs mg) (D : Own K mg "is_between" "is_between" s_is_between) : Cal P w K mg base "is_between" 1 pp_is_between sp_is_between := by
  refine calD D sc_is_between rfl (fun _ _ _ _ _ _ us hl => match us, hl with | [_, _, _], _ => rfl) (fun f cdv A outer s H E hr => ⟨_, (pss_one (ps_ret (pe_and (pe_callB (kx_isi (K := K)) (by rfl) Z.z_isinstance PyProof.Rows.boot_isinstance (pa_cons (pv 0) (pa_cons (pe_bltn (v := .ty "int") (by rfl) Z.z_int PyProof.Rows.boot_int rfl) pa_nil))) (pe_and (pe_not (pe_callB (kx_isi (K := K)) (by rfl) Z.z_isinstance PyProof.Rows.boot_isinstance (pa_cons (pv 0) (pa_cons (pe_bltn (v := .ty "bool") (by rfl) Z.z_bool PyProof.Rows.boot_bool rfl) pa_nil)))) (pe_one (pe_chain op_le op_le (pv 1) (pv 0) (pv 2))))))), fun ds d hR => ?body⟩)
  obtain ⟨v, lo, hi, rfl, rfl⟩ := hR
  exact .ret (Γ' := []) (st_ret (EvG.is (ev_andV (is_ii (ev_var rfl)) fun _ => ev_andV (ev_notV (is_ib (ev_var rfl))) fun _ => ev_chain (ev_var rfl) (ev_var rfl) og_IB (fun _ => ev_var rfl) fun _ => og_IB) rfl))
abbrev sp_is_whole : Sp := spD 3 R_between
theorem ok_is_whole (Z : Zs mg) (D : Own K mg "is_whole" "is_whole" s_is_whole) : Cal P w K mg base "is_whole" 1 pp_is_whole sp_is_whole := by
  refine calD D sc_is_whole rfl (fun _ _ _ _ _ _ us hl => match us, hl with | [_, _, _], _ => rfl) (fun f cdv A outer s H E hr => ⟨_, (pss_one (ps_ret (pe_and (pe_callB (kx_isi (K := K)) (by rfl) Z.z_isinstance PyProof.Rows.boot_isinstance (pa_cons (pv 0) (pa_cons (pe_bltn (v := .ty "int") (by rfl) Z.z_int PyProof.Rows.boot_int rfl) pa_nil))) (pe_and (pe_not (pe_callB (kx_isi (K := K)) (by rfl) Z.z_isinstance PyProof.Rows.boot_isinstance (pa_cons (pv 0) (pa_cons (pe_bltn (v := .ty "bool") (by rfl) Z.z_bool PyProof.Rows.boot_bool rfl) pa_nil)))) (pe_one (pe_chain op_le op_le (pv 1) (pv 0) (pv 2))))))), fun ds d hR => ?body⟩)
  obtain ⟨v, lo, hi, rfl, rfl⟩ := hR
  exact .ret (Γ' := []) (st_ret (EvG.is (ev_andV (is_ii (ev_var rfl)) fun _ => ev_andV (ev_notV (is_ib (ev_var rfl))) fun _ => ev_chain (ev_var rfl) (ev_var rfl) og_IB (fun _ => ev_var rfl) fun _ => og_IB) rfl))
abbrev sp_is_action : Sp := spD 1 fun ds d => ∃ v : Int, ds = [.int v] ∧ d = .bool (decide (0 ≤ v) && decide (v ≤ 5))
theorem ok_is_action (Z : Zs mg) (D : Own K mg "is_action" "is_action" s_is_action) : Cal P w K mg base "is_action" 1 pp_is_action sp_is_action := by
  refine calD D sc_is_action rfl (fun _ _ _ _ _ _ us hl => match us, hl with | [_], _ => rfl) (fun f cdv A outer s H E hr => ⟨_, (pss_one (ps_ret (pe_and (pe_callB (kx_isi (K := K)) (by rfl) Z.z_isinstance PyProof.Rows.boot_isinstance (pa_cons (pv 0) (pa_cons (pe_bltn (v := .ty "int") (by rfl) Z.z_int PyProof.Rows.boot_int rfl) pa_nil))) (pe_and (pe_not (pe_callB (kx_isi (K := K)) (by rfl) Z.z_isinstance PyProof.Rows.boot_isinstance (pa_cons (pv 0) (pa_cons (pe_bltn (v := .ty "bool") (by rfl) Z.z_bool PyProof.Rows.boot_bool rfl) pa_nil)))) (pe_one (pe_chain op_le op_le pe_int (pv 0) (pe_gl (by rfl) Z.c_MOST_ACTION))))))), fun ds d hR => ?body⟩)
  obtain ⟨v, rfl, rfl⟩ := hR
  exact .ret (Γ' := []) (st_ret (EvG.is (ev_andV (is_ii (ev_var rfl)) fun _ => ev_andV (ev_notV (is_ib (ev_var rfl))) fun _ => ev_chain (ev_int 0) (ev_var rfl) og_IB (fun _ => ev_int 5) fun _ => og_IB) rfl))
theorem ev_btw {Γ : Gam} {E : XK} {ta tb tc : TE} {v lo hi : Int} (h1 : EvG ta Γ (.int v)) (h2 : EvG tb Γ (.int lo)) (h3 : EvG tc Γ (.int hi)) : EvG (tCall (spD 3 R_between) [] E (tCons ta (tCons tb (tCons tc tNil)))) Γ (.bool (decide (lo ≤ v) && decide (v ≤ hi))) :=
  ev_call (ea_cons h1 (ea_cons h2 (ea_cons h3 ea_nil))) rfl ⟨v, lo, hi, rfl, rfl⟩

abbrev sp_is_widths : Sp := spD 1 fun ds d => ∃ ws : List Int, ds = [encI ws] ∧ WsOk ws ∧ d = .bool true
theorem ok_is_widths (Z : Zs mg) (D : Own K mg "is_widths" "is_widths" s_is_widths) (C_is_between : Cal P w K mg base "is_between" 1 pp_is_between sp_is_between) : Cal P w K mg base "is_widths" 2 pp_is_widths sp_is_widths := by
  refine calD D sc_is_widths rfl (fun _ _ _ _ _ _ us hl => match us, hl with | [_], _ => rfl) (fun f cdv A outer s H E hr => ⟨_, (pss_cons (ps_if (PW.pt (pw_or (pt_not (pt_val (pe_callB (kx_isi (K := K)) (by rfl) Z.z_isinstance PyProof.Rows.boot_isinstance (pa_cons (pv 0) (pa_cons (pe_bltn (v := .ty "tuple") (by rfl) Z.z_tuple PyProof.Rows.boot_tuple rfl) pa_nil))))) (pw_or1 (pt_not (pt_chain op_le op_le pe_int (pe_callB (kx_len (K := K)) (by rfl) Z.z_len PySem.boot_len (pa_cons (pv 0) pa_nil)) (pe_gl (by rfl) Z.c_MOST_FIELDS)))))) (pss_one (ps_ret pe_bl)) pss_nil) (pss_one (ps_ret (pe_callB (kx_all (K := K) rfl) (by rfl) Z.z_all PyProof.Rows.boot_all (pa_cons (pe_lc (own := [("width", 1)]) rfl sc_is_widths.nd (kx_piT (K := K) (pv 0)) (blkOk_by (own := [("width", 1)]) (N := nm_is_widths) (sc := defScope s_is_widths) (by decide +kernel)) (fun _ _ _ _ _ => (pg_name (i := 1) sc_is_widths.nd rfl (.inl rfl))) (fun _ _ _ _ _ => pts_nil) (fun _ _ _ _ _ => (pe_cal C_is_between hr (by decide) (by rfl) (pa_cons (pv 1) (pa_cons pe_int (pa_cons (pe_gl (by rfl) Z.c_MOST_WIDTH) pa_nil)))))) pa_nil))))), fun ds d hR => ?body⟩)
  obtain ⟨ws, rfl, ⟨h1, h2, h3⟩, rfl⟩ := hR
  refine .ret (Γ' := []) (st_seq (st_skip (EvT.is (et_or (et_not (et_B (is_tt (ev_var rfl)))) fun _ => et_not (et_B (ev_chain (ev_int 1) (ev_lenT (ev_var rfl)) og_IB (fun _ => ev_int 3) fun _ => og_IB))) ?_))
    (st_ret (EvG.is (ev_allc (items := ws) (enc := Dat.int) (wg_tup (ev_var rfl)) (fun _ _ => tg_name (by decide)) (fun x hx => ev_btw (ev_var rfl) (ev_int 1) (ev_int 8)) (by omega)) ?_)))
  · simp
    omega
  · rw [List.all_eq_true.mpr fun x hx => by have := h3 x hx; simp [this]]

abbrev sp_is_range : Sp := spD 2 fun ds d => ∃ (g : Int × Int) (w : Int), ds = [encR g, .int w] ∧ (0 ≤ g.1 ∧ g.1 ≤ g.2 ∧ g.2 ≤ w - 1) ∧ d = .bool true
theorem ok_is_range (Z : Zs mg) (D : Own K mg "is_range" "is_range" s_is_range) (C_is_between : Cal P w K mg base "is_between" 1 pp_is_between sp_is_between) : Cal P w K mg base "is_range" 2 pp_is_range sp_is_range := by
  refine calD D sc_is_range rfl (fun _ _ _ _ _ _ us hl => match us, hl with | [_, _], _ => rfl) (fun f cdv A outer s H E hr => ⟨_, (pss_cons (ps_if (PW.pt (pw_or (pt_not (pt_val (pe_callB (kx_isi (K := K)) (by rfl) Z.z_isinstance PyProof.Rows.boot_isinstance (pa_cons (pv 0) (pa_cons (pe_bltn (v := .ty "tuple") (by rfl) Z.z_tuple PyProof.Rows.boot_tuple rfl) pa_nil))))) (pw_or (pt_cmpR op_ne (pe_callB (kx_len (K := K)) (by rfl) Z.z_len PySem.boot_len (pa_cons (pv 0) pa_nil)) pe_int (nomark _)) (pw_or1 (pt_not (pt_val (pe_cal C_is_between hr (by decide) (by rfl) (pa_cons (pe_ix (kx_ixT (K := K)) (pv 0) pe_int (fun _ _ => rfl)) (pa_cons pe_int (pa_cons (pe_op op_sub (pv 1) pe_int) pa_nil)))))))))) (pss_one (ps_ret pe_bl)) pss_nil) (pss_one (ps_ret (pe_cal C_is_between hr (by decide) (by rfl) (pa_cons (pe_ix (kx_ixT (K := K)) (pv 0) pe_int (fun _ _ => rfl)) (pa_cons (pe_ix (kx_ixT (K := K)) (pv 0) pe_int (fun _ _ => rfl)) (pa_cons (pe_op op_sub (pv 1) pe_int) pa_nil))))))), fun ds d hR => ?body⟩)
  obtain ⟨g, w, rfl, ⟨h1, h2, h3⟩, rfl⟩ := hR
  refine .ret (Γ' := []) (st_seq (st_skip (EvT.is (et_or (et_not (et_B (is_tt (ev_var rfl)))) fun _ => et_or (et_test (ev_op (ev_lenT (ev_var rfl)) (ev_int 2) og_neI)) fun _ => et_not (et_B (ev_btw (ev_ixT 0 (ev_var rfl) (ev_int 0)) (ev_int 0) (ev_subI (ev_var rfl) (ev_int 1))))) ?_))
    (st_ret (EvG.is (ev_btw (ev_ixT 1 (ev_var rfl) (ev_int 1)) (ev_ixT 0 (ev_var rfl) (ev_int 0)) (ev_subI (ev_var rfl) (ev_int 1))) ?_)))
  · simp
    omega
  · simp [h2, h3]

abbrev sp_is_rule : Sp := spD 2 fun ds d => ∃ (r : Int × List (Int × Int)) (ws : List Int), ds = [encRule r, encI ws] ∧ ws.length ≤ 3 ∧ RuleOk ws r ∧ d = .bool true
theorem ok_is_rule (Z : Zs mg) (D : Own K mg "is_rule" "is_rule" s_is_rule) (C_is_between : Cal P w K mg base "is_between" 1 pp_is_between sp_is_between) (C_is_range : Cal P w K mg base "is_range" 2 pp_is_range sp_is_range) : Cal P w K mg base "is_rule" 3 pp_is_rule sp_is_rule := by
  refine calD D sc_is_rule rfl (fun _ _ _ _ _ _ us hl => match us, hl with | [_, _], _ => rfl) (fun f cdv A outer s H E hr => ⟨_, (pss_cons (ps_if (PW.pt (pw_or (pt_not (pt_val (pe_callB (kx_isi (K := K)) (by rfl) Z.z_isinstance PyProof.Rows.boot_isinstance (pa_cons (pv 0) (pa_cons (pe_bltn (v := .ty "tuple") (by rfl) Z.z_tuple PyProof.Rows.boot_tuple rfl) pa_nil))))) (pw_or (pt_cmpR op_ne (pe_callB (kx_len (K := K)) (by rfl) Z.z_len PySem.boot_len (pa_cons (pv 0) pa_nil)) pe_int (nomark _)) (pw_or1 (pt_not (pt_val (pe_cal C_is_between hr (by decide) (by rfl) (pa_cons (pe_ix (kx_ixT (K := K)) (pv 0) pe_int (fun _ _ => rfl)) (pa_cons pe_int (pa_cons (pe_gl (by rfl) Z.c_LAST_ACTION) pa_nil)))))))))) (pss_one (ps_ret pe_bl)) pss_nil) (pss_cons (ps_if (PW.pt (pw_or (pt_not (pt_val (pe_callB (kx_isi (K := K)) (by rfl) Z.z_isinstance PyProof.Rows.boot_isinstance (pa_cons (pe_ix (kx_ixT (K := K)) (pv 0) pe_int (fun _ _ => rfl)) (pa_cons (pe_bltn (v := .ty "tuple") (by rfl) Z.z_tuple PyProof.Rows.boot_tuple rfl) pa_nil))))) (pw_or1 (pt_cmpR op_ne (pe_callB (kx_len (K := K)) (by rfl) Z.z_len PySem.boot_len (pa_cons (pe_ix (kx_ixT (K := K)) (pv 0) pe_int (fun _ _ => rfl)) pa_nil)) (pe_callB (kx_len (K := K)) (by rfl) Z.z_len PySem.boot_len (pa_cons (pv 1) pa_nil)) (nomark _))))) (pss_one (ps_ret pe_bl)) pss_nil) (pss_one (ps_ret (pe_callB (kx_all (K := K) rfl) (by rfl) Z.z_all PyProof.Rows.boot_all (pa_cons (pe_lc (own := [("at", 2), ("width", 3)]) rfl sc_is_rule.nd (kx_enum (K := K) (by rfl) Z.z_enumerate (pv 1)) (blkOk_by (own := [("at", 2), ("width", 3)]) (N := nm_is_rule) (sc := defScope s_is_rule) (by decide +kernel)) (fun _ _ _ _ _ => (kx_pgT (K := K) (n := 2) rfl (pgs_cons (pg_name (i := 2) sc_is_rule.nd rfl (.inl rfl)) (pgs_cons (pg_name (i := 3) sc_is_rule.nd rfl (.inl rfl)) pgs_nil)))) (fun _ _ _ _ _ => pts_nil) (fun _ _ _ _ _ => (pe_cal C_is_range hr (by decide) (by rfl) (pa_cons (pe_ix (kx_ixT (K := K)) (pe_ix (kx_ixT (K := K)) (pv 0) pe_int (fun _ _ => rfl)) (pv 2) (fun _ _ => rfl)) (pa_cons (pv 3) pa_nil))))) pa_nil)))))), fun ds d hR => ?body⟩)
  obtain ⟨r, ws, rfl, hw, ⟨h1, h2, h3, h4⟩, rfl⟩ := hR
  refine .ret (Γ' := []) (st_seq (st_skip (EvT.is (et_or (et_not (et_B (is_tt (ev_var rfl)))) fun _ => et_or (et_test (ev_op (ev_lenT (ev_var rfl)) (ev_int 2) og_neI)) fun _ => et_not (et_B (ev_btw (ev_ixT 0 (ev_var rfl) (ev_int 0)) (ev_int 0) (ev_int 5)))) ?_))
    (st_seq (st_skip (EvT.is (et_or (et_not (et_B (is_tt (ev_ixT 1 (ev_var rfl) (ev_int 1))))) fun _ => et_test (ev_op (ev_lenT (ev_ixT 1 (ev_var rfl) (ev_int 1))) (ev_lenT (ev_var rfl)) og_neI)) ?_))
    (st_ret (EvG.is (ev_allc (items := plc ws) (p := fun _ => true) (Γ1 := fun q => [.dat (encRule r), .dat (encI ws), .dat (.int (q.1 : Int)), .dat (.int q.2)]) (wg_enumM (enc := Dat.int) (ev_var rfl)) (fun q hq => tg_tup (tgs_cons (tg_name (by decide)) (tgs_cons (tg_name (by decide)) tgs_nil)) rfl) (fun q hq => ?e) ?n) ?_))))
  case e =>
    have h5 := plc_mem hq
    have hl : q.1 < r.2.length := by rw [h3]; exact (List.getElem?_eq_some_iff.mp h5).1
    have h6 : r.2[q.1]? = some r.2[q.1] := List.getElem?_eq_getElem hl
    exact ev_call (ea_cons (ev_ixT q.1 (ev_ixT 1 (ev_var rfl) (ev_int 1)) (ev_var rfl) (by rw [List.getElem?_map, h6]; rfl)) (ea_cons (ev_var rfl) ea_nil)) rfl ⟨_, _, rfl, h4 _ _ _ h6 h5, rfl⟩
  case n => rw [plc_len]; omega
  · simp
    omega
  · simp [h3]
  · simp
abbrev sp_is_list : Sp := spD 1 fun ds d => ∃ L : Lst, ds = [encL L] ∧ LOk L ∧ d = .bool true
theorem ok_is_list (Z : Zs mg) (D : Own K mg "is_list" "is_list" s_is_list) (C_is_widths : Cal P w K mg base "is_widths" 2 pp_is_widths sp_is_widths) (C_is_between : Cal P w K mg base "is_between" 1 pp_is_between sp_is_between) (C_is_rule : Cal P w K mg base "is_rule" 3 pp_is_rule sp_is_rule) : Cal P w K mg base "is_list" 4 pp_is_list sp_is_list := by
  refine calD D sc_is_list rfl (fun _ _ _ _ _ _ us hl => match us, hl with | [_], _ => rfl) (fun f cdv A outer s H E hr => ⟨_, (pss_cons (ps_if (PW.pt (pw_or (pt_not (pt_val (pe_callB (kx_isi (K := K)) (by rfl) Z.z_isinstance PyProof.Rows.boot_isinstance (pa_cons (pv 0) (pa_cons (pe_bltn (v := .ty "tuple") (by rfl) Z.z_tuple PyProof.Rows.boot_tuple rfl) pa_nil))))) (pw_or (pt_cmpR op_ne (pe_callB (kx_len (K := K)) (by rfl) Z.z_len PySem.boot_len (pa_cons (pv 0) pa_nil)) pe_int (nomark _)) (pw_or1 (pt_not (pt_val (pe_cal C_is_widths hr (by decide) (by rfl) (pa_cons (pe_ix (kx_ixT (K := K)) (pv 0) pe_int (fun _ _ => rfl)) pa_nil)))))))) (pss_one (ps_ret pe_bl)) pss_nil) (pss_cons (ps_if (PW.pt (pw_or (pt_not (pt_val (pe_callB (kx_isi (K := K)) (by rfl) Z.z_isinstance PyProof.Rows.boot_isinstance (pa_cons (pe_ix (kx_ixT (K := K)) (pv 0) pe_int (fun _ _ => rfl)) (pa_cons (pe_bltn (v := .ty "tuple") (by rfl) Z.z_tuple PyProof.Rows.boot_tuple rfl) pa_nil))))) (pw_or (pt_cmpR op_gt (pe_callB (kx_len (K := K)) (by rfl) Z.z_len PySem.boot_len (pa_cons (pe_ix (kx_ixT (K := K)) (pv 0) pe_int (fun _ _ => rfl)) pa_nil)) (pe_gl (by rfl) Z.c_MOST_RULES) (nomark _)) (pw_or1 (pt_not (pt_val (pe_cal C_is_between hr (by decide) (by rfl) (pa_cons (pe_ix (kx_ixT (K := K)) (pv 0) pe_int (fun _ _ => rfl)) (pa_cons pe_int (pa_cons (pe_gl (by rfl) Z.c_LAST_ACTION) pa_nil)))))))))) (pss_one (ps_ret pe_bl)) pss_nil) (pss_one (ps_ret (pe_callB (kx_all (K := K) rfl) (by rfl) Z.z_all PyProof.Rows.boot_all (pa_cons (pe_lc (own := [("rule", 1)]) rfl sc_is_list.nd (kx_piT (K := K) (pe_ix (kx_ixT (K := K)) (pv 0) pe_int (fun _ _ => rfl))) (blkOk_by (own := [("rule", 1)]) (N := nm_is_list) (sc := defScope s_is_list) (by decide +kernel)) (fun _ _ _ _ _ => (pg_name (i := 1) sc_is_list.nd rfl (.inl rfl))) (fun _ _ _ _ _ => pts_nil) (fun _ _ _ _ _ => (pe_cal C_is_rule hr (by decide) (by rfl) (pa_cons (pv 1) (pa_cons (pe_ix (kx_ixT (K := K)) (pv 0) pe_int (fun _ _ => rfl)) pa_nil))))) pa_nil)))))), fun ds d hR => ?body⟩)
  obtain ⟨L, rfl, ⟨h1, h2, h3, h4⟩, rfl⟩ := hR
  refine .ret (Γ' := []) (st_seq (st_skip (EvT.is (et_or (et_not (et_B (is_tt (ev_var rfl)))) fun _ => et_or (et_test (ev_op (ev_lenT (ev_var rfl)) (ev_int 3) og_neI)) fun _ => et_not (et_B (ev_call (ea_cons (ev_ixT 0 (ev_var rfl) (ev_int 0)) ea_nil) rfl ⟨L.ws, rfl, h1, rfl⟩))) ?_))
    (st_seq (st_skip (EvT.is (et_or (et_not (et_B (is_tt (ev_ixT 1 (ev_var rfl) (ev_int 1))))) fun _ => et_or (et_test (ev_op (ev_lenT (ev_ixT 1 (ev_var rfl) (ev_int 1))) (ev_int 7) og_IB)) fun _ => et_not (et_B (ev_btw (ev_ixT 2 (ev_var rfl) (ev_int 2)) (ev_int 0) (ev_int 5)))) ?_))
    (st_ret (EvG.is (ev_allc (items := L.rules) (enc := encRule) (p := fun _ => true) (wg_tup (ev_ixT 1 (ev_var rfl) (ev_int 1))) (fun _ _ => tg_name (by decide)) (fun r hr => ev_call (ea_cons (ev_var rfl) (ea_cons (ev_ixT 0 (ev_var rfl) (ev_int 0)) ea_nil)) rfl ⟨r, L.ws, rfl, h1.2.1, h4 r hr, rfl⟩) (by omega)) ?_))))
  · simp
  · simp [h3]
    omega
  · simp
abbrev sp_check_list_lists : Sp := spD 2 fun ds d => ∃ (L : Lst) (x : Str), ds = [encL L, .str x] ∧ LOk L ∧ d = .none
theorem ok_check_list_lists (Z : Zs mg) (D : Own K mg "check_list_lists" "check_list" s_check_list_lists) (C_is_list : Cal P w K mg base "is_list" 4 pp_is_list sp_is_list) : Cal P w K mg base "check_list_lists" 5 pp_check_list_lists sp_check_list_lists := by
  refine calD D sc_check_list_lists rfl (fun _ _ _ _ _ _ us hl => match us, hl with | [_, _], _ => rfl) (fun f cdv A outer s H E hr => ⟨_, (pss_one (ps_if (pt_not (pt_val (pe_cal C_is_list hr (by decide) (by rfl) (pa_cons (pv 0) pa_nil)))) (pss_one ps_never) pss_nil)), fun ds d hR => ?body⟩)
  obtain ⟨L, x, rfl, h, rfl⟩ := hR
  exact .mk (st_skip (EvT.is (et_not (et_B (c := true) (ev_call (ea_cons (ev_var rfl) ea_nil) rfl ⟨L, rfl, h, rfl⟩))) rfl)) rfl
abbrev sp_check_list_wanted : Sp := spD 1 fun ds d => ∃ (L : Lst), ds = [encL L] ∧ LOk L ∧ d = .none
theorem ok_check_list_wanted (Z : Zs mg) (D : Own K mg "check_list_wanted" "check_list" s_check_list_wanted) (C_is_list : Cal P w K mg base "is_list" 4 pp_is_list sp_is_list) : Cal P w K mg base "check_list_wanted" 5 pp_check_list_wanted sp_check_list_wanted := by
  refine calD D sc_check_list_wanted rfl (fun _ _ _ _ _ _ us hl => match us, hl with | [_], _ => rfl) (fun f cdv A outer s H E hr => ⟨_, (pss_one (ps_if (pt_not (pt_val (pe_cal C_is_list hr (by decide) (by rfl) (pa_cons (pv 0) pa_nil)))) (pss_one ps_never) pss_nil)), fun ds d hR => ?body⟩)
  obtain ⟨L, rfl, h, rfl⟩ := hR
  exact .mk (st_skip (EvT.is (et_not (et_B (c := true) (ev_call (ea_cons (ev_var rfl) ea_nil) rfl ⟨L, rfl, h, rfl⟩))) rfl)) rfl
abbrev sp_is_case : Sp := spD 2 fun ds d => ∃ (L : Lst) (c : List Int), ds = [encL L, encI c] ∧ L.ws.length ≤ 3 ∧ CaseOk L.ws c ∧ d = .bool true
theorem ok_is_case (Z : Zs mg) (D : Own K mg "is_case" "is_case" s_is_case) (C_is_between : Cal P w K mg base "is_between" 1 pp_is_between sp_is_between) : Cal P w K mg base "is_case" 2 pp_is_case sp_is_case := by
  refine calD D sc_is_case rfl (fun _ _ _ _ _ _ us hl => match us, hl with | [_, _], _ => rfl) (fun f cdv A outer s H E hr => ⟨_, (pss_cons (ps_if (PW.pt (pw_or (pt_not (pt_val (pe_callB (kx_isi (K := K)) (by rfl) Z.z_isinstance PyProof.Rows.boot_isinstance (pa_cons (pv 1) (pa_cons (pe_bltn (v := .ty "tuple") (by rfl) Z.z_tuple PyProof.Rows.boot_tuple rfl) pa_nil))))) (pw_or1 (pt_cmpR op_ne (pe_callB (kx_len (K := K)) (by rfl) Z.z_len PySem.boot_len (pa_cons (pv 1) pa_nil)) (pe_callB (kx_len (K := K)) (by rfl) Z.z_len PySem.boot_len (pa_cons (pe_ix (kx_ixT (K := K)) (pv 0) pe_int (fun _ _ => rfl)) pa_nil)) (nomark _))))) (pss_one (ps_ret pe_bl)) pss_nil) (pss_one (ps_ret (pe_callB (kx_all (K := K) rfl) (by rfl) Z.z_all PyProof.Rows.boot_all (pa_cons (pe_lc (own := [("at", 2), ("width", 3)]) rfl sc_is_case.nd (kx_enum (K := K) (by rfl) Z.z_enumerate (pe_ix (kx_ixT (K := K)) (pv 0) pe_int (fun _ _ => rfl))) (blkOk_by (own := [("at", 2), ("width", 3)]) (N := nm_is_case) (sc := defScope s_is_case) (by decide +kernel)) (fun _ _ _ _ _ => (kx_pgT (K := K) (n := 2) rfl (pgs_cons (pg_name (i := 2) sc_is_case.nd rfl (.inl rfl)) (pgs_cons (pg_name (i := 3) sc_is_case.nd rfl (.inl rfl)) pgs_nil)))) (fun _ _ _ _ _ => pts_nil) (fun _ _ _ _ _ => (pe_cal C_is_between hr (by decide) (by rfl) (pa_cons (pe_ix (kx_ixT (K := K)) (pv 1) (pv 2) (fun _ _ => rfl)) (pa_cons pe_int (pa_cons (pe_op op_sub (pv 3) pe_int) pa_nil)))))) pa_nil))))), fun ds d hR => ?body⟩)
  obtain ⟨L, c, rfl, hw, ⟨h1, h2⟩, rfl⟩ := hR
  refine .ret (Γ' := []) (st_seq (st_skip (EvT.is (et_or (et_not (et_B (is_tt (ev_var rfl)))) fun _ => et_test (ev_op (ev_lenT (ev_var rfl)) (ev_lenT (ev_ixT 0 (ev_var rfl) (ev_int 0))) og_neI)) ?_))
    (st_ret (EvG.is (ev_allc (items := plc L.ws) (p := fun q => decide (0 ≤ c.getD q.1 0) && decide (c.getD q.1 0 ≤ q.2 - 1)) (Γ1 := fun q => [.dat (encL L), .dat (encI c), .dat (.int (q.1 : Int)), .dat (.int q.2)]) (wg_enumM (enc := Dat.int) (ev_ixT 0 (ev_var rfl) (ev_int 0))) (fun q hq => tg_tup (tgs_cons (tg_name (by decide)) (tgs_cons (tg_name (by decide)) tgs_nil)) rfl) (fun q hq => ?e) ?n) ?_)))
  case e =>
    have h5 := plc_mem hq
    have hl : q.1 < c.length := by rw [h1]; exact (List.getElem?_eq_some_iff.mp h5).1
    exact ev_btw (ev_ixT q.1 (ev_var rfl) (ev_var rfl) (by rw [List.getElem?_map, List.getD_eq_getElem?_getD, List.getElem?_eq_getElem hl]; rfl)) (ev_int 0) (ev_subI (ev_var rfl) (ev_int 1))
  case n => rw [plc_len]; omega
  · simp [h1]
  · rw [List.all_eq_true.mpr fun q hq => ?_]
    have h5 := plc_mem hq
    have hl : q.1 < c.length := by rw [h1]; exact (List.getElem?_eq_some_iff.mp h5).1
    have h6 : c[q.1]? = some (c.getD q.1 0) := by rw [List.getD_eq_getElem?_getD, List.getElem?_eq_getElem hl]; rfl
    have := h2 _ _ _ h6 h5
    simp only [Bool.and_eq_true, decide_eq_true_eq]
    exact this
abbrev sp_is_number : Sp := spD 2 fun ds d => ∃ (L : Lst) (n : Int), ds = [encL L, .int n] ∧ (0 ≤ n ∧ n < (L.rules.length : Int)) ∧ d = .bool true
theorem ok_is_number (Z : Zs mg) (D : Own K mg "is_number" "is_number" s_is_number) (C_is_between : Cal P w K mg base "is_between" 1 pp_is_between sp_is_between) : Cal P w K mg base "is_number" 2 pp_is_number sp_is_number := by
  refine calD D sc_is_number rfl (fun _ _ _ _ _ _ us hl => match us, hl with | [_, _], _ => rfl) (fun f cdv A outer s H E hr => ⟨_, (pss_one (ps_ret (pe_cal C_is_between hr (by decide) (by rfl) (pa_cons (pv 1) (pa_cons pe_int (pa_cons (pe_op op_sub (pe_callB (kx_len (K := K)) (by rfl) Z.z_len PySem.boot_len (pa_cons (pe_ix (kx_ixT (K := K)) (pv 0) pe_int (fun _ _ => rfl)) pa_nil)) pe_int) pa_nil)))))), fun ds d hR => ?body⟩)
  obtain ⟨L, n, rfl, ⟨h1, h2⟩, rfl⟩ := hR
  refine .ret (Γ' := []) (st_ret (EvG.is (ev_btw (ev_var rfl) (ev_int 0) (ev_subI (ev_lenT (ev_ixT 1 (ev_var rfl) (ev_int 1))) (ev_int 1))) ?_))
  simp [h1]
  omega
theorem lay_ints : ∀ ns : List Int, PyData.canLayAll0 (ns.map .int) = true
  | [] => by simp [PyData.canLayAll0]
  | n :: ns => by simp [PyData.canLayAll0, PyData.canLay0, lay_ints ns]
theorem shaped_tup (f : Bool) (ns : List Int) : SeqAt.shaped (Dat.tuple f (ns.map .int)).py = true := by
  show SeqAt.shaped (.tuple (Dat.pys (ns.map .int))) = true
  rw [pys_map]
  simp [SeqAt.shaped, PyData.canLay0, lay_ints, PyData.depth, PySem.W.depth_ints]
theorem shaped_lst (ns : List Int) : SeqAt.shaped (Dat.list (ns.map .int)).py = true := by
  show SeqAt.shaped (.list (Dat.pys (ns.map .int))) = true
  rw [pys_map]
  simp [SeqAt.shaped, PyData.canLay0, lay_ints, PyData.depth, PySem.W.depth_ints]
theorem eqv_tup (f g : Bool) (as bs : List Int) : PyData.eqv (Dat.tuple f (as.map .int)).py (Dat.tuple g (bs.map .int)).py = decide (as = bs) := by
  show PyData.eqv (.tuple (Dat.pys (as.map .int))) (.tuple (Dat.pys (bs.map .int))) = _
  rw [pys_map, pys_map, eqv_tuple, eqv_ints]
theorem eqv_lst (as bs : List Int) : PyData.eqv (Dat.list (as.map .int)).py (Dat.list (bs.map .int)).py = decide (as = bs) := by
  show PyData.eqv (.list (Dat.pys (as.map .int))) (.list (Dat.pys (bs.map .int))) = _
  rw [pys_map, pys_map, PyData.eqv, eqv_ints]
abbrev RowOk (n : Nat) (row : List Int) : Prop := row ∈ rowsM n n
abbrev sp_is_row : Sp := spD 2 fun ds d => ∃ (L : Lst) (f : Bool) (row : List Int), ds = [encL L, .tuple f (row.map .int)] ∧ L.rules.length ≤ 7 ∧ RowOk L.rules.length row ∧ d = .bool true
theorem ok_is_row (Z : Zs mg) (D : Own K mg "is_row" "is_row" s_is_row) (C_is_number : Cal P w K mg base "is_number" 2 pp_is_number sp_is_number) : Cal P w K mg base "is_row" 3 pp_is_row sp_is_row := by
  refine calD D sc_is_row rfl (fun _ _ _ _ _ _ us hl => match us, hl with | [_, _], _ => rfl) (fun f cdv A outer s H E hr => ⟨_, (pss_cons (ps_if (PW.pt (pw_or (pt_not (pt_val (pe_callB (kx_isi (K := K)) (by rfl) Z.z_isinstance PyProof.Rows.boot_isinstance (pa_cons (pv 1) (pa_cons (pe_bltn (v := .ty "tuple") (by rfl) Z.z_tuple PyProof.Rows.boot_tuple rfl) pa_nil))))) (pw_or1 (pt_not (pt_val (pe_callB (kx_all (K := K) rfl) (by rfl) Z.z_all PyProof.Rows.boot_all (pa_cons (pe_lc (own := [("number", 2)]) rfl sc_is_row.nd (kx_piT (K := K) (pv 1)) (blkOk_by (own := [("number", 2)]) (N := nm_is_row) (sc := defScope s_is_row) (by decide +kernel)) (fun _ _ _ _ _ => (pg_name (i := 2) sc_is_row.nd rfl (.inl rfl))) (fun _ _ _ _ _ => pts_nil) (fun _ _ _ _ _ => (pe_cal C_is_number hr (by decide) (by rfl) (pa_cons (pv 0) (pa_cons (pv 2) pa_nil))))) pa_nil))))))) (pss_one (ps_ret pe_bl)) pss_nil) (pss_one (ps_ret (pe_cmpR (kx_eqD (K := K) hr.units) (pe_callB (kx_sortedT (K := K) hr.units) (by rfl) Z.z_sorted PyProof.Rows.boot_sorted (pa_cons (pv 1) pa_nil)) (pe_listRg rfl (by rfl) Z.z_list (prg_1 (by rfl) Z.z_range (pe_callB (kx_len (K := K)) (by rfl) Z.z_len PySem.boot_len (pa_cons (pe_ix (kx_ixT (K := K)) (pv 0) pe_int (fun _ _ => rfl)) pa_nil)))) (nomark _))))), fun ds d hR => ?body⟩)
  obtain ⟨L, g, row, rfl, hn, hr', rfl⟩ := hR
  have hp := rg_perm hr'
  have hl := (rows_mem.mp hr').1
  refine .ret (Γ' := []) (st_seq (st_skip (EvT.is (et_or (et_not (et_B (is_tt (ev_var rfl)))) fun _ => et_not (et_B (ev_allc (items := row) (enc := Dat.int) (p := fun _ => true) (wg_tup (ev_var rfl)) (fun _ _ => tg_name (by decide)) (fun x hx => ev_call (ea_cons (ev_var rfl) (ea_cons (ev_var rfl) ea_nil)) rfl ⟨L, x, rfl, mem_rg.mp (hp.mem_iff.mp hx), rfl⟩) (by omega)))) ?_))
    (st_ret (EvG.is (ev_op (ev_cb (ea_cons (ev_var rfl) ea_nil) (cg_sortedT (ns := row) (by omega))) (ev_lstRg (n := L.rules.length) (EvG.is (ev_lenT (ev_ixT 1 (ev_var rfl) (ev_int 1))) (by rw [List.length_map])) (by omega)) (og_eq (shaped_lst _) (shaped_lst _))) ?_)))
  · simp
  · rw [eqv_lst, decide_eq_true]
    show sortI row = rg L.rules.length
    refine (sortI_congr hp).trans (sortI_of (List.Perm.refl _) ?_).symm
    unfold rg
    rw [List.pairwise_map]
    exact List.pairwise_lt_range.imp fun h => by omega
abbrev sp_check_row_of : Sp := spD 3 fun ds d => ∃ (L : Lst) (f : Bool) (row : List Int) (x : Str), ds = [encL L, .tuple f (row.map .int), .str x] ∧ L.rules.length ≤ 7 ∧ RowOk L.rules.length row ∧ d = .none
theorem ok_check_row_of (Z : Zs mg) (D : Own K mg "check_row_of" "check_row_of" s_check_row_of) (C_is_row : Cal P w K mg base "is_row" 3 pp_is_row sp_is_row) : Cal P w K mg base "check_row_of" 4 pp_check_row_of sp_check_row_of := by
  refine calD D sc_check_row_of rfl (fun _ _ _ _ _ _ us hl => match us, hl with | [_, _, _], _ => rfl) (fun f cdv A outer s H E hr => ⟨_, (pss_one (ps_if (pt_not (pt_val (pe_cal C_is_row hr (by decide) (by rfl) (pa_cons (pv 0) (pa_cons (pv 1) pa_nil))))) (pss_one ps_never) pss_nil)), fun ds d hR => ?body⟩)
  obtain ⟨L, g, row, x, rfl, hn, h, rfl⟩ := hR
  exact .mk (st_skip (EvT.is (et_not (et_B (c := true) (ev_call (ea_cons (ev_var rfl) (ea_cons (ev_var rfl) ea_nil)) rfl ⟨L, g, row, rfl, hn, h, rfl⟩))) rfl)) rfl
end
end Nr
set_option Elab.async false
set_option linter.all false
set_option maxRecDepth 100000
set_option maxHeartbeats 4000000
/-! Cases, what matches, what is wanted, the kinds. -/
namespace Nr
open PySem PySem.Spec PyProof.Rows L2

/-! ### the mirror -/
def rgs (L : Lst) (n : Int) : List (Int × Int) := (L.rules.getD n.toNat (0, [])).2
def actL (L : Lst) (n : Int) : Int := (L.rules.getD n.toNat (0, [])).1
def mtch (L : Lst) (n : Int) (c : List Int) : Bool := (plc c).all fun q => decide (((rgs L n).getD q.1 (0, 0)).1 ≤ q.2) && decide (q.2 ≤ ((rgs L n).getD q.1 (0, 0)).2)
def decN (L : Lst) (row c : List Int) : Option Int := row.find? fun n => mtch L n c
def decA (L : Lst) (row c : List Int) : Int := match decN L row c with
  | some n => actL L n
  | none => L.rest
def casesOf (ws : List Int) : List (List Int) := ws.foldl (fun found w => found.flatMap fun c => (rg w.toNat).map fun v => c ++ [v]) [[]]
inductive Wnt where
  | self | list (M : Lst) | cases (ps : List (List Int × Int))
def wantsM (L : Lst) : Wnt → List (List Int × Int)
  | .self => (casesOf L.ws).map fun c => (c, decA L (rg L.rules.length) c)
  | .list M => (casesOf L.ws).map fun c => (c, decA M (rg M.rules.length) c)
  | .cases ps => ps
abbrev encP (p : List Int × Int) : Dat := .tuple false [encI p.1, .int p.2]
def encW : Wnt → Dat
  | .self => .tuple false [.str "self"]
  | .list M => .tuple false [.str "list", encL M]
  | .cases ps => .tuple false [.str "cases", .tuple false (ps.map encP)]
def PairsOk (L : Lst) (ps : List (List Int × Int)) : Prop := ps.length ≤ 12 ∧ (∀ p ∈ ps, CaseOk L.ws p.1 ∧ 0 ≤ p.2 ∧ p.2 ≤ 5) ∧ ∀ (i : Nat) (p q : List Int × Int), ps[i]? = some p → ps[i + 1]? = some q → lexI p.1 q.1 = true
def WOk (L : Lst) : Wnt → Prop
  | .self => True
  | .list M => LOk M ∧ M.ws = L.ws
  | .cases ps => PairsOk L ps
def NumOk (L : Lst) (n : Int) : Prop := 0 ≤ n ∧ n < (L.rules.length : Int)
theorem num_at {L : Lst} {n : Int} (h : NumOk L n) : L.rules[n.toNat]? = some (actL L n, rgs L n) ∧ n = ((n.toNat : Nat) : Int) := by
  obtain ⟨h1, h2⟩ := h
  have hl : n.toNat < L.rules.length := by omega
  refine ⟨?_, by omega⟩
  unfold actL rgs
  rw [List.getD_eq_getElem?_getD, List.getElem?_eq_getElem hl]
  rfl
theorem num_len {L : Lst} {n : Int} (hL : LOk L) (h : NumOk L n) : (rgs L n).length = L.ws.length := by
  have h1 := (num_at h).1
  exact (hL.2.2.2 _ (List.mem_of_getElem? h1)).2.2.1
section
variable {Γ : Gam} {K : PySem.W.Frag}
/-- listed[1][n] -/
theorem ev_rule {ta tb : TE} {L : Lst} {n : Int} (h : NumOk L n) (ha : EvG ta Γ (encL L)) (hb : EvG tb Γ (.int n)) : EvG (tOp (rIxT K) (tOp (rIxT K) ta (tC (.int 1))) tb) Γ (encRule (actL L n, rgs L n)) := by
  obtain ⟨h1, h2⟩ := num_at h
  refine ev_ixT n.toNat (ev_ixT 1 ha (ev_int 1)) (by rw [← h2]; exact hb) (by rw [List.getElem?_map, h1]; rfl)
theorem ev_act {ta tb : TE} {L : Lst} {n : Int} (h : NumOk L n) (ha : EvG ta Γ (encL L)) (hb : EvG tb Γ (.int n)) : EvG (tOp (rIxT K) (tOp (rIxT K) (tOp (rIxT K) ta (tC (.int 1))) tb) (tC (.int 0))) Γ (.int (actL L n)) := ev_ixT 0 (ev_rule h ha hb) (ev_int 0)
theorem ev_rgs {ta tb : TE} {L : Lst} {n : Int} (h : NumOk L n) (ha : EvG ta Γ (encL L)) (hb : EvG tb Γ (.int n)) : EvG (tOp (rIxT K) (tOp (rIxT K) (tOp (rIxT K) ta (tC (.int 1))) tb) (tC (.int 1))) Γ (.tuple false ((rgs L n).map encR)) := ev_ixT 1 (ev_rule h ha hb) (ev_int 1)
end
section
variable {P : Program} {w : World} {K : PySem.W.Frag} {mg : Str → Option Value} {base : Heap}
abbrev R_matches (ds : List Dat) (d : Dat) : Prop := ∃ (L : Lst) (n : Int) (c : List Int), ds = [encL L, .int n, encI c] ∧ NumOk L n ∧ c.length ≤ (rgs L n).length ∧ c.length ≤ 1000 ∧ d = .bool (mtch L n c)
abbrev sp_matches_in : Sp := spD 3 R_matches
theorem ev_inr {Γ : Gam} {ta tb tc : TE} {L : Lst} {n : Int} {q : Nat × Int} (hq : q.1 < (rgs L n).length) (h1 : EvG ta Γ (.tuple false ((rgs L n).map encR))) (h2 : EvG tb Γ (.int (q.1 : Int))) (h3 : EvG tc Γ (.int q.2)) :
    EvG (tChain (rI0 fun i j => .bl (decide (i ≤ j))) (rI0 fun i j => .bl (decide (i ≤ j))) (tOp (rIxT K) (tOp (rIxT K) ta tb) (tC (.int 0))) tc (tOp (rIxT K) (tOp (rIxT K) ta tb) (tC (.int 1)))) Γ (.bool (decide (((rgs L n).getD q.1 (0, 0)).1 ≤ q.2) && decide (q.2 ≤ ((rgs L n).getD q.1 (0, 0)).2))) := by
  have hg : (rgs L n)[q.1]? = some ((rgs L n).getD q.1 (0, 0)) := by rw [List.getD_eq_getElem?_getD, List.getElem?_eq_getElem hq]; rfl
  have hr : EvG (tOp (rIxT K) ta tb) Γ (encR ((rgs L n).getD q.1 (0, 0))) := ev_ixT q.1 h1 h2 (by rw [List.getElem?_map, hg]; rfl)
  exact ev_chain (ev_ixT 0 hr (ev_int 0)) h3 og_IB (fun _ => ev_ixT 1 hr (ev_int 1)) fun _ => og_IB
theorem ok_matches_in (Z : Zs mg) (D : Own K mg "matches_in" "matches_in" s_matches_in) : Cal P w K mg base "matches_in" 1 pp_matches_in sp_matches_in := by
  refine calD D sc_matches_in rfl (fun _ _ _ _ _ _ us hl => match us, hl with | [_, _, _], _ => rfl) (fun f cdv A outer s H E hr => ⟨_, (pss_cons (ps_set (i := 3) sc_matches_in.nd rfl (.inr rfl) (pe_ix (kx_ixT (K := K)) (pe_ix (kx_ixT (K := K)) (pe_ix (kx_ixT (K := K)) (pv 0) pe_int (fun _ _ => rfl)) (pv 1) (fun _ _ => rfl)) pe_int (fun _ _ => rfl))) (pss_one (ps_ret (pe_callB (kx_all (K := K) rfl) (by rfl) Z.z_all PyProof.Rows.boot_all (pa_cons (pe_lc (own := [("at", 4), ("value", 5)]) rfl sc_matches_in.nd (kx_enum (K := K) (by rfl) Z.z_enumerate (pv 2)) (blkOk_by (own := [("at", 4), ("value", 5)]) (N := nm_matches_in) (sc := defScope s_matches_in) (by decide +kernel)) (fun _ _ _ _ _ => (kx_pgT (K := K) (n := 2) rfl (pgs_cons (pg_name (i := 4) sc_matches_in.nd rfl (.inl rfl)) (pgs_cons (pg_name (i := 5) sc_matches_in.nd rfl (.inl rfl)) pgs_nil)))) (fun _ _ _ _ _ => pts_nil) (fun _ _ _ _ _ => (pe_chain op_le op_le (pe_ix (kx_ixT (K := K)) (pe_ix (kx_ixT (K := K)) (pv 3) (pv 4) (fun _ _ => rfl)) pe_int (fun _ _ => rfl)) (pv 5) (pe_ix (kx_ixT (K := K)) (pe_ix (kx_ixT (K := K)) (pv 3) (pv 4) (fun _ _ => rfl)) pe_int (fun _ _ => rfl))))) pa_nil))))), fun ds d hR => ?body⟩)
  obtain ⟨L, n, c, rfl, hn, hc, hc2, rfl⟩ := hR
  refine .ret (Γ' := []) (st_seq (st_asg (ev_rgs hn (ev_var rfl) (ev_var rfl))) (st_ret (ev_allc (items := plc c) (Γ1 := fun q => [.dat (encL L), .dat (.int n), .dat (encI c), .dat (.tuple false ((rgs L n).map encR)), .dat (.int (q.1 : Int)), .dat (.int q.2)]) (wg_enumM (enc := Dat.int) (ev_var rfl)) (fun q hq => tg_tup (tgs_cons (tg_name (by decide)) (tgs_cons (tg_name (by decide)) tgs_nil)) rfl) (fun q hq => ev_inr ?e (ev_var rfl) (ev_var rfl) (ev_var rfl)) ?n)))
  case e => have := (List.getElem?_eq_some_iff.mp (plc_mem hq)).1; omega
  case n => rw [plc_len]; omega
theorem ev_mtch {Γ : Gam} {E : XK} {ta tb tc : TE} {L : Lst} {n : Int} {c : List Int} (hL : LOk L) (hn : NumOk L n) (hc : c.length = L.ws.length) (h1 : EvG ta Γ (encL L)) (h2 : EvG tb Γ (.int n)) (h3 : EvG tc Γ (encI c)) : EvG (tCall (spD 3 R_matches) [] E (tCons ta (tCons tb (tCons tc tNil)))) Γ (.bool (mtch L n c)) :=
  ev_call (ea_cons h1 (ea_cons h2 (ea_cons h3 ea_nil))) rfl ⟨L, n, c, rfl, hn, by rw [num_len hL hn, hc]; exact Nat.le_refl _, by have := hL.1.2.1; omega, rfl⟩
abbrev sp_l_matches : Sp := spD 3 R_matches
theorem ok_l_matches (Z : Zs mg) (D : Own K mg "_law_matches" "_law_matches" s_l_matches) : Cal P w K mg base "_law_matches" 1 pp_l_matches sp_l_matches := by
  refine calD D sc_l_matches rfl (fun _ _ _ _ _ _ us hl => match us, hl with | [_, _, _], _ => rfl) (fun f cdv A outer s H E hr => ⟨_, (pss_cons (ps_set (i := 3) sc_l_matches.nd rfl (.inr rfl) (pe_ix (kx_ixT (K := K)) (pe_ix (kx_ixT (K := K)) (pe_ix (kx_ixT (K := K)) (pv 0) pe_int (fun _ _ => rfl)) (pv 1) (fun _ _ => rfl)) pe_int (fun _ _ => rfl))) (pss_one (ps_ret (pe_callB (kx_all (K := K) rfl) (by rfl) Z.z_all PyProof.Rows.boot_all (pa_cons (pe_lc (own := [("_law_k", 4)]) rfl sc_l_matches.nd (pi_range1 (by rfl) Z.z_range (pa_cons (pe_callB (kx_len (K := K)) (by rfl) Z.z_len PySem.boot_len (pa_cons (pv 2) pa_nil)) pa_nil)) (blkOk_by (own := [("_law_k", 4)]) (N := nm_l_matches) (sc := defScope s_l_matches) (by decide +kernel)) (fun _ _ _ _ _ => (pg_name (i := 4) sc_l_matches.nd rfl (.inl rfl))) (fun _ _ _ _ _ => pts_nil) (fun _ _ _ _ _ => (pe_chain op_le op_le (pe_ix (kx_ixT (K := K)) (pe_ix (kx_ixT (K := K)) (pv 3) (pv 4) (fun _ _ => rfl)) pe_int (fun _ _ => rfl)) (pe_ix (kx_ixT (K := K)) (pv 2) (pv 4) (fun _ _ => rfl)) (pe_ix (kx_ixT (K := K)) (pe_ix (kx_ixT (K := K)) (pv 3) (pv 4) (fun _ _ => rfl)) pe_int (fun _ _ => rfl))))) pa_nil))))), fun ds d hR => ?body⟩)
  obtain ⟨L, n, c, rfl, hn, hc, hc2, rfl⟩ := hR
  refine .ret (Γ' := []) (st_seq (st_asg (ev_rgs hn (ev_var rfl) (ev_var rfl))) (st_ret (ev_allc (items := plc c) (enc := fun q => .int (q.1 : Int)) (Γ1 := fun q => [.dat (encL L), .dat (.int n), .dat (encI c), .dat (.tuple false ((rgs L n).map encR)), .dat (.int (q.1 : Int))]) ?w (fun q hq => tg_name (by decide)) (fun q hq => ?e) ?n)))
  case w =>
    have e : (plc c).map (fun q => Dat.int (q.1 : Int)) = ((List.range c.length).map fun i : Nat => (i : Int)).map .int := by
      refine List.ext_getElem? fun i => ?_
      unfold plc
      rw [List.getElem?_map, List.getElem?_mapIdx, List.getElem?_map, List.getElem?_map]
      by_cases h : i < c.length
      · rw [List.getElem?_range h, List.getElem?_eq_getElem h]
        rfl
      · rw [List.getElem?_eq_none (by simpa using h), List.getElem?_eq_none (by simpa using h)]
        rfl
    rw [e]
    exact wg_rng (EvG.is (ev_lenT (ev_var rfl)) (by rw [List.length_map])) (by omega)
  case e =>
    have h5 := plc_mem hq
    have hl : q.1 < (rgs L n).length := by have := (List.getElem?_eq_some_iff.mp h5).1; omega
    exact ev_inr hl (ev_var rfl) (ev_var rfl) (ev_ixT q.1 (ev_var rfl) (ev_var rfl) (by rw [List.getElem?_map, h5]; rfl))
  case n => rw [plc_len]; omega
/-! which rule decides -/
def optI : Option Int → Dat
  | some n => .int n
  | none => .none
abbrev R_dec (ds : List Dat) (d : Dat) : Prop := ∃ (L : Lst) (f : Bool) (row c : List Int), ds = [encL L, .tuple f (row.map .int), encI c] ∧ LOk L ∧ (∀ n ∈ row, NumOk L n) ∧ c.length = L.ws.length ∧ d = .tuple false [.int (decA L row c), optI (decN L row c)]
abbrev sp_decided : Sp := spD 3 R_dec
theorem ok_decided (Z : Zs mg) (D : Own K mg "decided" "decided" s_decided) (C_matches_in : Cal P w K mg base "matches_in" 1 pp_matches_in sp_matches_in) : Cal P w K mg base "decided" 2 pp_decided sp_decided := by
  refine calD D sc_decided rfl (fun _ _ _ _ _ _ us hl => match us, hl with | [_, _, _], _ => rfl) (fun f cdv A outer s H E hr => ⟨_, (pss_cons (ps_for PassesOwn.never rfl (kx_piT (K := K) (pv 1)) (pg_name (i := 3) sc_decided.nd rfl (.inl rfl)) (pss_one (ps_if (pt_val (pe_cal C_matches_in hr (by decide) (by rfl) (pa_cons (pv 0) (pa_cons (pv 3) (pa_cons (pv 2) pa_nil))))) (pss_one (ps_ret (pe_tup (pa_cons (pe_ix (kx_ixT (K := K)) (pe_ix (kx_ixT (K := K)) (pe_ix (kx_ixT (K := K)) (pv 0) pe_int (fun _ _ => rfl)) (pv 3) (fun _ _ => rfl)) pe_int (fun _ _ => rfl)) (pa_cons (pv 3) pa_nil))))) pss_nil))) (pss_one (ps_ret (pe_tup (pa_cons (pe_ix (kx_ixT (K := K)) (pv 0) pe_int (fun _ _ => rfl)) (pa_cons pe_non pa_nil)))))), fun ds d hR => ?body⟩)
  obtain ⟨L, g, row, c, rfl, hL, hrow, hc, rfl⟩ := hR
  refine .mk (Γ' := []) (st_seqo (st_search (vs := [3]) (items := row) (enc := Dat.int) (wg_tup (ev_var rfl)) (fun _ _ => tg_name (by decide)) (fun n hn => et_B (ev_mtch hL (hrow n hn) hc (ev_var rfl) (ev_var rfl) (ev_var rfl))) fun n hn _ => ev_tup (ea_cons (ev_act (hrow n hn) (ev_var rfl) (ev_var rfl)) (ea_cons (ev_var rfl) ea_nil)) (Nat.le_of_ble_eq_true rfl)) (fun _ => st_ret (ev_tup (ea_cons (ev_ixT 2 (ev_var rfl) (ev_int 2)) (ea_cons ev_non ea_nil)) (Nat.le_of_ble_eq_true rfl)))) ?_
  unfold decA decN
  cases row.find? fun n => mtch L n c with
  | some n => rfl
  | none => rfl
theorem ev_decd {Γ : Gam} {E : XK} {ta tb tc : TE} {L : Lst} {f : Bool} {row c : List Int} (hL : LOk L) (hn : ∀ n ∈ row, NumOk L n) (hc : c.length = L.ws.length) (h1 : EvG ta Γ (encL L)) (h2 : EvG tb Γ (.tuple f (row.map .int))) (h3 : EvG tc Γ (encI c)) :
    EvG (tOp (rIxT K) (tCall (spD 3 R_dec) [] E (tCons ta (tCons tb (tCons tc tNil)))) (tC (.int 0))) Γ (.int (decA L row c)) :=
  ev_ixT (ds := [.int (decA L row c), optI (decN L row c)]) 0 (ev_call (ea_cons h1 (ea_cons h2 (ea_cons h3 ea_nil))) rfl ⟨L, f, row, c, rfl, hL, hn, hc, rfl⟩) (ev_int 0)
abbrev R_decL (ds : List Dat) (d : Dat) : Prop := ∃ (L : Lst) (r : Dat) (row c : List Int), ds = [encL L, r, encI c] ∧ ((∃ f, r = .tuple f (row.map .int)) ∨ r = .list (row.map .int)) ∧ LOk L ∧ (∀ n ∈ row, NumOk L n) ∧ c.length = L.ws.length ∧ d = .int (decA L row c)
abbrev sp_l_decides : Sp := spD 3 R_decL
theorem ev_mtchL {Γ : Gam} {E : XK} {ta tb tc : TE} {L : Lst} {n : Int} {c : List Int} (hL : LOk L) (hn : NumOk L n) (hc : c.length = L.ws.length) (h1 : EvG ta Γ (encL L)) (h2 : EvG tb Γ (.int n)) (h3 : EvG tc Γ (encI c)) : EvG (tCall (spD 3 R_matches) [] E (tCons ta (tCons tb (tCons tc tNil)))) Γ (.bool (mtch L n c)) := ev_mtch hL hn hc h1 h2 h3
theorem ok_l_decides (Z : Zs mg) (D : Own K mg "_law_decides" "_law_decides" s_l_decides) (C_l_matches : Cal P w K mg base "_law_matches" 1 pp_l_matches sp_l_matches) : Cal P w K mg base "_law_decides" 2 pp_l_decides sp_l_decides := by
  refine calD D sc_l_decides rfl (fun _ _ _ _ _ _ us hl => match us, hl with | [_, _, _], _ => rfl) (fun f cdv A outer s H E hr => ⟨_, (pss_cons (ps_for PassesOwn.never rfl (kx_piS (K := K) (pv 1)) (pg_name (i := 3) sc_l_decides.nd rfl (.inl rfl)) (pss_one (ps_if (pt_val (pe_cal C_l_matches hr (by decide) (by rfl) (pa_cons (pv 0) (pa_cons (pv 3) (pa_cons (pv 2) pa_nil))))) (pss_one (ps_ret (pe_ix (kx_ixT (K := K)) (pe_ix (kx_ixT (K := K)) (pe_ix (kx_ixT (K := K)) (pv 0) pe_int (fun _ _ => rfl)) (pv 3) (fun _ _ => rfl)) pe_int (fun _ _ => rfl)))) pss_nil))) (pss_one (ps_ret (pe_ix (kx_ixT (K := K)) (pv 0) pe_int (fun _ _ => rfl))))), fun ds d hR => ?body⟩)
  obtain ⟨L, r, row, c, rfl, hr, hL, hrow, hc, rfl⟩ := hR
  have hw : WalkG (iSeq K (tVar 1)) (gam nm_l_decides [encL L, r, encI c]) (row.map .int) := by
    rcases hr with ⟨g, rfl⟩ | rfl
    · exact wg_seqT (ev_var rfl)
    · exact wg_seqL (ev_var rfl)
  refine .mk (Γ' := []) (st_seqo (st_search (vs := [3]) (items := row) (enc := Dat.int) hw (fun _ _ => tg_name (by decide)) (fun n hn => et_B (ev_mtch hL (hrow n hn) hc (ev_var rfl) (ev_var rfl) (ev_var rfl))) fun n hn _ => ev_act (hrow n hn) (ev_var rfl) (ev_var rfl)) (fun _ => st_ret (ev_ixT 2 (ev_var rfl) (ev_int 2)))) ?_
  unfold decA decN
  cases row.find? fun n => mtch L n c with
  | some n => rfl
  | none => rfl
theorem ev_decl {Γ : Gam} {E : XK} {ta tb tc : TE} {L : Lst} {r : Dat} {row c : List Int} (hr : (∃ f, r = .tuple f (row.map .int)) ∨ r = .list (row.map .int)) (hL : LOk L) (hn : ∀ n ∈ row, NumOk L n) (hc : c.length = L.ws.length) (h1 : EvG ta Γ (encL L)) (h2 : EvG tb Γ r) (h3 : EvG tc Γ (encI c)) :
    EvG (tCall (spD 3 R_decL) [] E (tCons ta (tCons tb (tCons tc tNil)))) Γ (.int (decA L row c)) := ev_call (ea_cons h1 (ea_cons h2 (ea_cons h3 ea_nil))) rfl ⟨L, r, row, c, rfl, hr, hL, hn, hc, rfl⟩

/-! all cases -/
def stepC (found : List (List Int)) (w : Int) : List (List Int) := found.flatMap fun c => (rg w.toNat).map fun v => c ++ [v]
theorem casesOf_take (ws : List Int) (i : Nat) (x : Int) (h : ws[i]? = some x) : casesOf (ws.take (i + 1)) = stepC (casesOf (ws.take i)) x := by
  unfold casesOf
  rw [List.take_add_one, h, List.foldl_append]
  rfl
theorem stepC_len (found : List (List Int)) (w : Int) : (stepC found w).length = found.length * w.toNat := by
  unfold stepC
  induction found with
  | nil => simp
  | cons c l ih => rw [List.flatMap_cons, List.length_append, ih, List.length_map, rg_len, List.length_cons, Nat.succ_mul, Nat.add_comm]
theorem casesOf_mem {ws : List Int} : ∀ i, i ≤ ws.length → ∀ c ∈ casesOf (ws.take i), c.length = i
  | 0, _ => fun c h => by
    rw [List.take_zero] at h
    have : c = [] := by simpa [casesOf] using h
    rw [this]; rfl
  | i + 1, hi => fun c h => by
    rw [casesOf_take ws i _ (List.getElem?_eq_getElem (show i < ws.length by omega))] at h
    obtain ⟨c0, h0, h⟩ := List.mem_flatMap.mp h
    obtain ⟨v, _, rfl⟩ := List.mem_map.mp h
    rw [List.length_append, casesOf_mem i (by omega) c0 h0]
    rfl
theorem casesOf_len {ws : List Int} (h : WsOk ws) : ∀ i, i ≤ ws.length → (casesOf (ws.take i)).length ≤ 8 ^ i
  | 0, _ => by simp [casesOf]
  | i + 1, hi => by
    have hx := List.getElem?_eq_getElem (show i < ws.length by omega)
    rw [casesOf_take ws i _ hx, stepC_len]
    have h1 := casesOf_len h i (by omega)
    have h2 := (h.2.2 _ (List.mem_of_getElem? hx)).2
    calc _ ≤ 8 ^ i * 8 := Nat.mul_le_mul h1 (by omega)
      _ = 8 ^ (i + 1) := (Nat.pow_succ ..).symm
theorem casesOf_512 {ws : List Int} (h : WsOk ws) (i : Nat) (hi : i ≤ ws.length) : (casesOf (ws.take i)).length ≤ 512 := by
  have h1 := casesOf_len h i hi
  have h2 := h.2.1
  have h3 : (8 : Nat) ^ i ≤ 8 ^ 3 := Nat.pow_le_pow_right (by decide) (by omega)
  omega
abbrev R_cases (ds : List Dat) (d : Dat) : Prop := ∃ ws : List Int, ds = [encI ws] ∧ WsOk ws ∧ d = .list ((casesOf ws).map encI)
abbrev sp_cases_of : Sp := spD 1 R_cases
theorem encI_snoc (c : List Int) (v : Int) : Dat.tuple false (c.map .int ++ [.int v]) = encI (c ++ [v]) := by
  show _ = Dat.tuple false ((c ++ [v]).map .int)
  rw [List.map_append]
  rfl
theorem ok_cases_of (Z : Zs mg) (D : Own K mg "cases_of" "cases_of" s_cases_of) : Cal P w K mg base "cases_of" 1 pp_cases_of sp_cases_of := by
  refine calD D sc_cases_of rfl (fun _ _ _ _ _ _ us hl => match us, hl with | [_], _ => rfl) (fun f cdv A outer s H E hr => ⟨_, (pss_cons (ps_set (i := 1) sc_cases_of.nd rfl (.inl rfl) (pe_lst (pa_cons (pe_tup pa_nil) pa_nil))) (pss_cons (ps_for PassesOwn.never rfl (kx_piT (K := K) (pv 0)) (pg_name (i := 2) sc_cases_of.nd rfl (.inr rfl)) (pss_one (ps_setLc2 (i := 1) (own := [("case", 3), ("value", 4)]) (vs1 := [4]) rfl sc_cases_of.nd rfl rfl (sw_true rfl rfl rfl (by decide +kernel)) (kx_piL (K := K) (pv 1)) (blkOk_by (own := [("case", 3), ("value", 4)]) (N := nm_cases_of) (sc := defScope s_cases_of) (by decide +kernel)) (by decide) (fun _ _ _ _ _ => (pg_name (i := 3) sc_cases_of.nd rfl (.inl rfl))) (fun _ _ _ _ _ => pts_nil) (fun _ _ _ _ _ => (pi_range1 (by rfl) Z.z_range (pa_cons (pv 2) pa_nil))) (fun _ _ _ _ _ => (pg_name (i := 4) sc_cases_of.nd rfl (.inl rfl))) (fun _ _ _ _ _ => pts_nil) (fun _ _ _ _ _ => (pe_op (kx_catA (K := K)) (pv 3) (pe_tup (pa_cons (pv 4) pa_nil))))))) (pss_one (ps_ret (pv 1))))), fun ds d hR => ?body⟩)
  obtain ⟨ws, rfl, hw, rfl⟩ := hR
  refine .ret (Γ' := []) (st_seq (st_asg (ev_lst (ea_cons (ev_tup ea_nil (Nat.zero_le _)) ea_nil) (Nat.le_of_ble_eq_true rfl))) (st_seq (st_forF (vs := [2]) (items := ws) (enc := Dat.int) (S := fun i => [.dat (encI ws), .dat (.list ((casesOf (ws.take i)).map encI)), .no, .no, .no]) (Γ1 := fun i x => [.dat (encI ws), .dat (.list ((casesOf (ws.take i)).map encI)), .dat (.int x), .no, .no]) (wg_tup (ev_var rfl)) (fun _ _ h => h) (fun i x _ => tg_name (by decide)) (fun i x hx => ?b)) (st_ret (EvG.is (ev_var rfl) ?e))))
  case e => rw [List.take_length]
  case b =>
    have hi : i < ws.length := (List.getElem?_eq_some_iff.mp hx).1
    have h8 := hw.2.2 x (List.mem_of_getElem? hx)
    have h5 := casesOf_512 hw i (by omega)
    have h6 := casesOf_512 hw (i + 1) (by omega)
    rw [casesOf_take ws i x hx]
    refine st_weak (vs := [2, 3, 4]) (Γ1 := [.dat (encI ws), .dat (.list ((stepC (casesOf (ws.take i)) x).map encI)), .dat (.int x), .no, .no]) (st_asg (i := 1) (Γ := [.dat (encI ws), .dat (.list ((casesOf (ws.take i)).map encI)), .dat (.int x), .no, .no]) (EvG.is (ev_lc2 (vs := [3, 4]) (vs1 := [4]) (items := casesOf (ws.take i)) (enc := encI) (ys := fun _ => rg x.toNat) (enc1 := Dat.int) (f := fun c v => encI (c ++ [v])) (Γ1 := fun c => [.dat (encI ws), .dat (.list ((casesOf (ws.take i)).map encI)), .dat (.int x), .dat (encI c), .no]) (Γ2 := fun c v => [.dat (encI ws), .dat (.list ((casesOf (ws.take i)).map encI)), .dat (.int x), .dat (encI c), .dat (.int v)])
      (by decide) (wg_list (ev_var rfl)) (fun c _ => tg_name (by decide)) (fun c _ => wg_rngI (ev_var rfl) (by omega) (by omega)) (fun c _ v _ => tg_name (by decide)) (fun c hc v _ => EvG.is (ev_op (ev_var rfl) (ev_tup (ea_cons (ev_var rfl) ea_nil) (Nat.le_of_ble_eq_true rfl)) (og_catT ?s)) (encI_snoc c v)) ?n) ?m))
    case s =>
      have := casesOf_mem i (by omega) c hc
      have := hw.2.1
      rw [List.length_map]
      show c.length + 1 ≤ 100000
      omega
    case n =>
      intro j
      have h1 : ((((casesOf (ws.take i)).take j).flatMap fun c => (rg x.toNat).map fun v => encI (c ++ [v]))).length ≤ 512 * 8 := by
        have : ∀ l : List (List Int), (l.flatMap fun c => (rg x.toNat).map fun v => encI (c ++ [v])).length = l.length * x.toNat := by
          intro l
          induction l with
          | nil => simp
          | cons c l ih => rw [List.flatMap_cons, List.length_append, ih, List.length_map, rg_len, List.length_cons, Nat.succ_mul, Nat.add_comm]
        rw [this, List.length_take]
        exact Nat.mul_le_mul (by omega) (by omega)
      have h2 : (((casesOf (ws.take i))[j]?).map fun _ => (rg x.toNat).length).getD 0 ≤ 8 := by
        rw [rg_len]
        cases (casesOf (ws.take i))[j]? with
        | none => exact Nat.zero_le _
        | some _ => show x.toNat ≤ 8; omega
      omega
    case m =>
      unfold stepC
      rw [List.map_flatMap]
      congr 2
      funext c
      rw [List.map_map]
      rfl
end
end Nr
set_option Elab.async false
set_option linter.all false
set_option maxRecDepth 100000
set_option maxHeartbeats 4000000
/-! The law's cases, what is wanted, the kinds, rows. -/
namespace Nr
open PySem PySem.Spec PyProof.Rows L2
section
variable {P : Program} {w : World} {K : PySem.W.Frag} {mg : Str → Option Value} {base : Heap}
abbrev sp_l_cases : Sp := spD 1 R_cases
theorem flat_take {α β : Type} (f : α → List β) (l : List α) (i : Nat) (x : α) (h : l[i]? = some x) : (l.take (i + 1)).flatMap f = (l.take i).flatMap f ++ f x := by
  rw [List.take_add_one, h, List.flatMap_append]
  show _ ++ ([x].flatMap f) = _
  rw [List.flatMap_cons, List.flatMap_nil, List.append_nil]
theorem flat_len {α β : Type} (f : α → List β) (m : Nat) : ∀ (l : List α), (∀ x ∈ l, (f x).length ≤ m) → (l.flatMap f).length ≤ l.length * m
  | [], _ => by simp
  | x :: l, h => by
    rw [List.flatMap_cons, List.length_append, List.length_cons, Nat.succ_mul]
    have h1 := h x List.mem_cons_self
    have h2 := flat_len f m l fun y hy => h y (List.mem_cons_of_mem _ hy)
    omega
theorem ok_l_cases (Z : Zs mg) (D : Own K mg "_law_cases" "_law_cases" s_l_cases) : Cal P w K mg base "_law_cases" 1 pp_l_cases sp_l_cases := by
  refine calD D sc_l_cases rfl (fun _ _ _ _ _ _ us hl => match us, hl with | [_], _ => rfl) (fun f cdv A outer s H E hr => ⟨_, (pss_cons (ps_set (i := 1) sc_l_cases.nd rfl (.inl rfl) (pe_lst (pa_cons (pe_tup pa_nil) pa_nil))) (pss_cons (ps_for PassesOwn.never rfl (kx_piT (K := K) (pv 0)) (pg_name (i := 2) sc_l_cases.nd rfl (.inl rfl)) (pss_cons (ps_set (i := 3) sc_l_cases.nd rfl (.inl rfl) (pe_lst pa_nil)) (pss_cons (ps_for PassesOwn.never rfl (kx_piL (K := K) (pv 1)) (pg_name (i := 4) sc_l_cases.nd rfl (.inr rfl)) (pss_one (ps_set (i := 3) sc_l_cases.nd rfl (.inl rfl) (pe_op op_cat (pv 3) (pe_lc (own := [("_law_value", 5)]) rfl sc_l_cases.nd (pi_range1 (by rfl) Z.z_range (pa_cons (pv 2) pa_nil)) (blkOk_by (own := [("_law_value", 5)]) (N := nm_l_cases) (sc := defScope s_l_cases) (by decide +kernel)) (fun _ _ _ _ _ => (pg_name (i := 5) sc_l_cases.nd rfl (.inl rfl))) (fun _ _ _ _ _ => pts_nil) (fun _ _ _ _ _ => (pe_op (kx_catA (K := K)) (pv 4) (pe_tup (pa_cons (pv 5) pa_nil))))))))) (pss_one (ps_set (i := 1) sc_l_cases.nd rfl (.inl rfl) (pv 3)))))) (pss_one (ps_ret (pv 1))))), fun ds d hR => ?body⟩)
  obtain ⟨ws, rfl, hw, rfl⟩ := hR
  refine .ret (Γ' := []) (st_seq (st_asg (ev_lst (ea_cons (ev_tup ea_nil (Nat.zero_le _)) ea_nil) (Nat.le_of_ble_eq_true rfl))) (st_seq (st_forF (vs := [2]) (items := ws) (enc := Dat.int) (S := fun i => [.dat (encI ws), .dat (.list ((casesOf (ws.take i)).map encI)), .no, .no, .no, .no]) (Γ1 := fun i x => [.dat (encI ws), .dat (.list ((casesOf (ws.take i)).map encI)), .dat (.int x), .no, .no, .no]) (wg_tup (ev_var rfl)) (fun _ _ h => h) (fun i x _ => tg_name (by decide)) (fun i x hx => ?b)) (st_ret (EvG.is (ev_var rfl) ?e))))
  case e => rw [List.take_length]
  case b =>
    have hi : i < ws.length := (List.getElem?_eq_some_iff.mp hx).1
    have h8 := hw.2.2 x (List.mem_of_getElem? hx)
    have h5 := casesOf_512 hw i (by omega)
    rw [casesOf_take ws i x hx]
    have hlen : ∀ c : List Int, (((rg x.toNat).map fun v => c ++ [v])).length ≤ 8 := fun c => by rw [List.length_map, rg_len]; omega
    refine st_weakE [2, 3, 4, 5] (Γ1 := [.dat (encI ws), .dat (.list ((stepC (casesOf (ws.take i)) x).map encI)), .dat (.int x), .dat (.list ((stepC ((casesOf (ws.take i)).take (casesOf (ws.take i)).length) x).map encI)), .no, .no])
      (st_seq (st_asg (ev_lst ea_nil (Nat.zero_le _))) (st_seq (st_forF (vs := [4]) (items := casesOf (ws.take i)) (enc := encI) (S := fun j => [.dat (encI ws), .dat (.list ((casesOf (ws.take i)).map encI)), .dat (.int x), .dat (.list ((stepC ((casesOf (ws.take i)).take j) x).map encI)), .no, .no])
        (Γ1 := fun j c => [.dat (encI ws), .dat (.list ((casesOf (ws.take i)).map encI)), .dat (.int x), .dat (.list ((stepC ((casesOf (ws.take i)).take j) x).map encI)), .dat (encI c), .no]) (wg_list (ev_var rfl)) (fun _ _ h => h) (fun j c _ => tg_name (by decide)) (fun j c hc => ?c)) (st_asgE (EvG.is (d' := .list ((stepC (casesOf (ws.take i)) x).map encI)) (ev_var rfl) ?f))))
    case f => rw [List.take_length]
    case c =>
      have hcl := casesOf_mem i (by omega) c (List.mem_of_getElem? hc)
      have hw3 := hw.2.1
      have hS := flat_len (fun c => (rg x.toNat).map fun v => c ++ [v]) 8 ((casesOf (ws.take i)).take j) fun c _ => hlen c
      rw [List.length_take] at hS
      refine st_weakE [4] (Γ1 := [.dat (encI ws), .dat (.list ((casesOf (ws.take i)).map encI)), .dat (.int x), .dat (.list ((stepC ((casesOf (ws.take i)).take (j + 1)) x).map encI)), .dat (encI c), .no]) (st_asgE
        (EvG.is (ev_op (ev_var rfl) (ev_lc0 (items := rg x.toNat) (enc := Dat.int) (f := fun v => encI (c ++ [v])) (wg_rngI (ev_var rfl) (by omega) (by omega)) (fun v _ => tg_name (by decide)) (fun v _ => EvG.is (ev_op (ev_var rfl) (ev_tup (ea_cons (ev_var rfl) ea_nil) (Nat.le_of_ble_eq_true rfl)) (og_catT ?s)) (encI_snoc c v)) ?n) (og_catL ?o)) ?m))
      case s => rw [List.length_map]; show c.length + 1 ≤ 100000; omega
      case n => rw [rg_len]; omega
      case o =>
        rw [List.length_map, List.length_map, rg_len]
        unfold stepC
        omega
      case m =>
        unfold stepC
        rw [flat_take _ _ _ _ hc, List.map_append, List.map_map]
        rfl
/-! what is wanted -/
theorem rg_num {L : Lst} : ∀ n ∈ rg L.rules.length, NumOk L n := fun n h => mem_rg.mp h
theorem case_len {ws : List Int} : ∀ c ∈ casesOf ws, c.length = ws.length := fun c h => casesOf_mem ws.length (Nat.le_refl _) c (by rw [List.take_length]; exact h)
theorem cases_512 {ws : List Int} (h : WsOk ws) : (casesOf ws).length ≤ 512 := by
  have := casesOf_512 h ws.length (Nat.le_refl _)
  rwa [List.take_length] at this
abbrev sp_ascending : Sp := spD 1 fun ds d => ∃ L : Lst, ds = [encL L] ∧ LOk L ∧ d = encI (rg L.rules.length)
theorem ok_ascending (Z : Zs mg) (D : Own K mg "ascending" "ascending" s_ascending) : Cal P w K mg base "ascending" 1 pp_ascending sp_ascending := by
  refine calD D sc_ascending rfl (fun _ _ _ _ _ _ us hl => match us, hl with | [_], _ => rfl) (fun f cdv A outer s H E hr => ⟨_, (pss_one (ps_ret (pe_tupRg rfl (by rfl) Z.z_tuple (prg_1 (by rfl) Z.z_range (pe_callB (kx_len (K := K)) (by rfl) Z.z_len PySem.boot_len (pa_cons (pe_ix (kx_ixT (K := K)) (pv 0) pe_int (fun _ _ => rfl)) pa_nil)))))), fun ds d hR => ?body⟩)
  obtain ⟨L, rfl, hL, rfl⟩ := hR
  exact .ret (Γ' := []) (st_ret (ev_tupRg (n := L.rules.length) (EvG.is (ev_lenT (ev_ixT 1 (ev_var rfl) (ev_int 1))) (by rw [List.length_map])) (by have := hL.2.1; omega)))
abbrev R_wants (ds : List Dat) (d : Dat) : Prop := ∃ (L : Lst) (W : Wnt), ds = [encL L, encW W] ∧ LOk L ∧ WOk L W ∧ d = .list ((wantsM L W).map encP)
abbrev sp_wants : Sp := spD 2 R_wants
/-- the word of what is wanted -/
def wdW : Wnt → Str
  | .self => "self"
  | .list _ => "list"
  | .cases _ => "cases"
theorem encW_0 (W : Wnt) : ∃ ds, encW W = .tuple false (.str (wdW W) :: ds) := by
  cases W with
  | self => exact ⟨_, rfl⟩
  | list M => exact ⟨_, rfl⟩
  | cases ps => exact ⟨_, rfl⟩
theorem st_sc : (("self" : Str) == "cases") = false := by decide +kernel
theorem st_lc : (("list" : Str) == "cases") = false := by decide +kernel
theorem st_cc : (("cases" : Str) == "cases") = true := by decide +kernel
theorem st_ss : (("self" : Str) == "self") = true := by decide +kernel
theorem st_ls : (("list" : Str) == "self") = false := by decide +kernel
theorem st_cs : (("cases" : Str) == "self") = false := by decide +kernel
theorem st_sl : (("self" : Str) == "list") = false := by decide +kernel
theorem st_ll : (("list" : Str) == "list") = true := by decide +kernel
theorem st_cl : (("cases" : Str) == "list") = false := by decide +kernel
theorem ev_wantsP {Γ : Gam} {E1 E2 E3 : XK} {L M : Lst} {W : Wnt} (hL : LOk L) (hM : LOk M) (hMw : M.ws = L.ws) (hΓ : Γ = [.dat (encL L), .dat (encW W), .dat (encL M), .no]) :
    EvG (tLc (iList K (tCall (spD 1 R_cases) [] E1 (tCons (tOp (rIxT K) (tVar 0) (tC (.int 0))) tNil))) (gName 3) tYes (tTup (tCons (tVar 3) (tCons (tOp (rIxT K) (tCall (spD 3 R_dec) [] E2 (tCons (tVar 2) (tCons (tCall sp_ascending [] E3 (tCons (tVar 2) tNil)) (tCons (tVar 3) tNil)))) (tC (.int 0))) tNil))) [3]) Γ (.list (((casesOf L.ws).map fun c => (c, decA M (rg M.rules.length) c)).map encP)) := by
  subst hΓ
  refine EvG.is (ev_lc0 (vs := [3]) (items := casesOf L.ws) (enc := encI) (f := fun c => encP (c, decA M (rg M.rules.length) c)) (Γ1 := fun c => [.dat (encL L), .dat (encW W), .dat (encL M), .dat (encI c)]) (wg_list (ev_call (ea_cons (ev_ixT 0 (ev_var rfl) (ev_int 0)) ea_nil) rfl ⟨L.ws, rfl, hL.1, rfl⟩)) (fun c _ => tg_name (by decide))
      (fun c hc => ev_tup (ea_cons (ev_var rfl) (ea_cons (ev_decd hM rg_num (by rw [case_len c hc, hMw]) (ev_var rfl) (ev_call (ea_cons (ev_var rfl) ea_nil) rfl ⟨M, rfl, hM, rfl⟩) (ev_var rfl)) ea_nil)) (Nat.le_of_ble_eq_true rfl)) ?n) ?m
  · have := cases_512 hL.1; omega
  · rw [List.map_map]; rfl
theorem ok_wants (Z : Zs mg) (D : Own K mg "wants" "wants" s_wants) (C_cases_of : Cal P w K mg base "cases_of" 1 pp_cases_of sp_cases_of) (C_decided : Cal P w K mg base "decided" 2 pp_decided sp_decided) (C_ascending : Cal P w K mg base "ascending" 1 pp_ascending sp_ascending) : Cal P w K mg base "wants" 3 pp_wants sp_wants := by
  refine calD D sc_wants rfl (fun _ _ _ _ _ _ us hl => match us, hl with | [_, _], _ => rfl) (fun f cdv A outer s H E hr => ⟨_, (pss_cons (ps_if (pt_cmpR op_eq (pe_ix (kx_ixT (K := K)) (pv 1) pe_int (fun _ _ => rfl)) pe_str (nomark _)) (pss_one (ps_ret (pe_callTy (kx_list (K := K)) (by rfl) Z.z_list PyProof.Rows.boot_list (pa_cons (pe_ix (kx_ixT (K := K)) (pv 1) pe_int (fun _ _ => rfl)) pa_nil)))) pss_nil) (pss_cons (ps_set (i := 2) sc_wants.nd rfl (.inr rfl) (pe_ifExp (pt_cmpR op_eq (pe_ix (kx_ixT (K := K)) (pv 1) pe_int (fun _ _ => rfl)) pe_str (nomark _)) (pv 0) (pe_ix (kx_ixT (K := K)) (pv 1) pe_int (fun _ _ => rfl)))) (pss_one (ps_ret (pe_lc (own := [("case", 3)]) rfl sc_wants.nd (kx_piL (K := K) (pe_cal C_cases_of hr (by decide) (by rfl) (pa_cons (pe_ix (kx_ixT (K := K)) (pv 0) pe_int (fun _ _ => rfl)) pa_nil))) (blkOk_by (own := [("case", 3)]) (N := nm_wants) (sc := defScope s_wants) (by decide +kernel)) (fun _ _ _ _ _ => (pg_name (i := 3) sc_wants.nd rfl (.inl rfl))) (fun _ _ _ _ _ => pts_nil) (fun _ _ _ _ _ => (pe_tup (pa_cons (pv 3) (pa_cons (pe_ix (kx_ixT (K := K)) (pe_cal C_decided hr (by decide) (by rfl) (pa_cons (pv 2) (pa_cons (pe_cal C_ascending hr (by decide) (by rfl) (pa_cons (pv 2) pa_nil)) (pa_cons (pv 3) pa_nil)))) pe_int (fun _ _ => rfl)) pa_nil))))))))), fun ds d hR => ?body⟩)
  obtain ⟨L, W, rfl, hL, hW, rfl⟩ := hR
  cases W with
  | cases ps =>
    refine .mk (Γ' := []) (st_seqo (o1 := some (.list (ps.map encP))) (o2 := none) (Γ' := []) (Γ1 := []) (st_if (b := true) (EvT.is (et_test (ev_op (ev_ixT 0 (ev_var rfl) (ev_int 0)) (ev_str "cases") og_eqS)) st_cc) (fun _ => st_ret (ev_listT (ev_ixT 1 (ev_var rfl) (ev_int 1)))) fun q => nomatch q) fun q => nomatch q) rfl
  | self =>
    exact .ret (Γ' := []) (st_seq (st_skip (EvT.is (et_test (ev_op (ev_ixT 0 (ev_var rfl) (ev_int 0)) (ev_str "cases") og_eqS)) st_sc)) (st_seq (st_asg (ev_if (d := encL L) (c := true) (EvT.is (et_test (ev_op (ev_ixT 0 (ev_var rfl) (ev_int 0)) (ev_str "self") og_eqS)) st_ss) (fun _ => ev_var rfl) fun q => nomatch q)) (st_ret (ev_wantsP hL hL rfl (W := .self) rfl))))
  | list M =>
    exact .ret (Γ' := []) (st_seq (st_skip (EvT.is (et_test (ev_op (ev_ixT 0 (ev_var rfl) (ev_int 0)) (ev_str "cases") og_eqS)) st_lc)) (st_seq (st_asg (ev_if (d := encL M) (c := false) (EvT.is (et_test (ev_op (ev_ixT 0 (ev_var rfl) (ev_int 0)) (ev_str "self") og_eqS)) st_ls) (fun q => nomatch q) fun _ => ev_ixT 1 (ev_var rfl) (ev_int 1))) (st_ret (ev_wantsP hL hW.1 hW.2 (W := .list M) rfl))))
end
end Nr
set_option Elab.async false
set_option linter.all false
set_option maxRecDepth 100000
set_option maxHeartbeats 4000000
/-! What is wanted by the law; the checks of it; who decides; rows. -/
namespace Nr
open PySem PySem.Spec PyProof.Rows L2
section
variable {Γ : Gam}
theorem wg_rngN {te : TE} {n : Nat} (h : EvG te Γ (.int (n : Int))) (hn : n ≤ 100000) : WalkG (iRng1 (tCons te tNil)) Γ ((List.range n).map fun i : Nat => Dat.int (i : Int)) := by
  have := wg_rng h hn
  rw [List.map_map] at this
  exact this
theorem find_some {α β : Type} (p : α → Bool) (f : α → β) : ∀ items : List α, (items.findSome? fun x => if p x = true then some (f x) else none) = (items.find? p).map f
  | [] => rfl
  | x :: l => by
    rw [List.findSome?_cons, List.find?_cons]
    cases p x with
    | true => rfl
    | false => exact find_some p f l
end
section
variable {P : Program} {w : World} {K : PySem.W.Frag} {mg : Str → Option Value} {base : Heap}
abbrev sp_l_wants : Sp := spD 2 R_wants
theorem ev_wantsQ {Γ : Gam} {E1 E2 : XK} {L M : Lst} {W : Wnt} (hL : LOk L) (hM : LOk M) (hMw : M.ws = L.ws) (hΓ : Γ = [.dat (encL L), .dat (encW W), .dat (encL M), .dat (.list ((rg M.rules.length).map .int)), .no]) :
    EvG (tLc (iList K (tCall (spD 1 R_cases) [] E1 (tCons (tOp (rIxT K) (tVar 0) (tC (.int 0))) tNil))) (gName 4) tYes (tTup (tCons (tVar 4) (tCons (tCall (spD 3 R_decL) [] E2 (tCons (tVar 2) (tCons (tVar 3) (tCons (tVar 4) tNil)))) tNil))) [4]) Γ (.list (((casesOf L.ws).map fun c => (c, decA M (rg M.rules.length) c)).map encP)) := by
  subst hΓ
  refine EvG.is (ev_lc0 (vs := [4]) (items := casesOf L.ws) (enc := encI) (f := fun c => encP (c, decA M (rg M.rules.length) c)) (Γ1 := fun c => [.dat (encL L), .dat (encW W), .dat (encL M), .dat (.list ((rg M.rules.length).map .int)), .dat (encI c)]) (wg_list (ev_call (ea_cons (ev_ixT 0 (ev_var rfl) (ev_int 0)) ea_nil) rfl ⟨L.ws, rfl, hL.1, rfl⟩)) (fun c _ => tg_name (by decide))
      (fun c hc => ev_tup (ea_cons (ev_var rfl) (ea_cons (ev_decl (.inr rfl) hM rg_num (by rw [case_len c hc, hMw]) (ev_var rfl) (ev_var rfl) (ev_var rfl)) ea_nil)) (Nat.le_of_ble_eq_true rfl)) ?n) ?m
  · have := cases_512 hL.1; omega
  · rw [List.map_map]; rfl
theorem ev_rgL {Γ : Gam} {ta : TE} {M : Lst} (hM : LOk M) (h : EvG ta Γ (encL M)) : EvG (tCB (rLenK K) (tCons (tOp (rIxT K) ta (tC (.int 1))) tNil)) Γ (.int (M.rules.length : Int)) := EvG.is (ev_lenT (ev_ixT 1 h (ev_int 1))) (by rw [List.length_map])
theorem st_cl' : (("cases" : Str) == "list") = false := st_cl
theorem ok_l_wants (Z : Zs mg) (D : Own K mg "_law_wants" "_law_wants" s_l_wants) (C_l_decides : Cal P w K mg base "_law_decides" 2 pp_l_decides sp_l_decides) (C_l_cases : Cal P w K mg base "_law_cases" 1 pp_l_cases sp_l_cases) : Cal P w K mg base "_law_wants" 3 pp_l_wants sp_l_wants := by
  refine calD D sc_l_wants rfl (fun _ _ _ _ _ _ us hl => match us, hl with | [_, _], _ => rfl) (fun f cdv A outer s H E hr => ⟨_, (pss_cons (ps_if (pt_cmpR op_eq (pe_ix (kx_ixT (K := K)) (pv 1) pe_int (fun _ _ => rfl)) pe_str (nomark _)) (pss_one (ps_ret (pe_callTy (kx_list (K := K)) (by rfl) Z.z_list PyProof.Rows.boot_list (pa_cons (pe_ix (kx_ixT (K := K)) (pv 1) pe_int (fun _ _ => rfl)) pa_nil)))) pss_nil) (pss_cons (ps_set (i := 2) sc_l_wants.nd rfl (.inr rfl) (pv 0)) (pss_cons (ps_if (pt_cmpR op_eq (pe_ix (kx_ixT (K := K)) (pv 1) pe_int (fun _ _ => rfl)) pe_str (nomark _)) (pss_one (ps_set (i := 2) sc_l_wants.nd rfl (.inr rfl) (pe_ix (kx_ixT (K := K)) (pv 1) pe_int (fun _ _ => rfl)))) pss_nil) (pss_cons (ps_set (i := 3) sc_l_wants.nd rfl (.inr rfl) (pe_listRg rfl (by rfl) Z.z_list (prg_1 (by rfl) Z.z_range (pe_callB (kx_len (K := K)) (by rfl) Z.z_len PySem.boot_len (pa_cons (pe_ix (kx_ixT (K := K)) (pv 2) pe_int (fun _ _ => rfl)) pa_nil))))) (pss_one (ps_ret (pe_lc (own := [("_law_case", 4)]) rfl sc_l_wants.nd (kx_piL (K := K) (pe_cal C_l_cases hr (by decide) (by rfl) (pa_cons (pe_ix (kx_ixT (K := K)) (pv 0) pe_int (fun _ _ => rfl)) pa_nil))) (blkOk_by (own := [("_law_case", 4)]) (N := nm_l_wants) (sc := defScope s_l_wants) (by decide +kernel)) (fun _ _ _ _ _ => (pg_name (i := 4) sc_l_wants.nd rfl (.inl rfl))) (fun _ _ _ _ _ => pts_nil) (fun _ _ _ _ _ => (pe_tup (pa_cons (pv 4) (pa_cons (pe_cal C_l_decides hr (by decide) (by rfl) (pa_cons (pv 2) (pa_cons (pv 3) (pa_cons (pv 4) pa_nil)))) pa_nil))))))))))), fun ds d hR => ?body⟩)
  obtain ⟨L, W, rfl, hL, hW, rfl⟩ := hR
  cases W with
  | cases ps =>
    refine .mk (Γ' := []) (st_seqo (o1 := some (.list (ps.map encP))) (o2 := none) (Γ' := []) (Γ1 := []) (st_if (b := true) (EvT.is (et_test (ev_op (ev_ixT 0 (ev_var rfl) (ev_int 0)) (ev_str "cases") og_eqS)) st_cc) (fun _ => st_ret (ev_listT (ev_ixT 1 (ev_var rfl) (ev_int 1)))) fun q => nomatch q) fun q => nomatch q) rfl
  | self =>
    have := hL.2.1
    exact .ret (Γ' := []) (st_seq (st_skip (EvT.is (et_test (ev_op (ev_ixT 0 (ev_var rfl) (ev_int 0)) (ev_str "cases") og_eqS)) st_sc)) (st_seq (st_asg (ev_var rfl)) (st_seq (st_skip (EvT.is (et_test (ev_op (ev_ixT 0 (ev_var rfl) (ev_int 0)) (ev_str "list") og_eqS)) st_sl)) (st_seq (st_asg (ev_lstRg (n := L.rules.length) (ev_rgL hL (ev_var rfl)) (by omega))) (st_ret (ev_wantsQ hL hL rfl (W := .self) rfl))))))
  | list M =>
    have := hW.1.2.1
    exact .ret (Γ' := []) (st_seq (st_skip (EvT.is (et_test (ev_op (ev_ixT 0 (ev_var rfl) (ev_int 0)) (ev_str "cases") og_eqS)) st_lc)) (st_seq (st_asg (ev_var rfl)) (st_seq (st_if (b := true) (EvT.is (et_test (ev_op (ev_ixT 0 (ev_var rfl) (ev_int 0)) (ev_str "list") og_eqS)) st_ll) (fun _ => st_asg (ev_ixT 1 (ev_var rfl) (ev_int 1))) fun q => nomatch q) (st_seq (st_asg (ev_lstRg (n := M.rules.length) (ev_rgL hW.1 (ev_var rfl)) (by omega))) (st_ret (ev_wantsQ hL hW.1 hW.2 (W := .list M) rfl))))))
abbrev sp_are_pairs : Sp := spD 2 fun ds d => ∃ (L : Lst) (ps : List (List Int × Int)), ds = [encL L, .tuple false (ps.map encP)] ∧ LOk L ∧ PairsOk L ps ∧ d = .bool true
theorem ok_are_pairs (Z : Zs mg) (D : Own K mg "are_pairs" "are_pairs" s_are_pairs) (C_is_case : Cal P w K mg base "is_case" 2 pp_is_case sp_is_case) (C_is_action : Cal P w K mg base "is_action" 1 pp_is_action sp_is_action) : Cal P w K mg base "are_pairs" 3 pp_are_pairs sp_are_pairs := by
  refine calD D sc_are_pairs rfl (fun _ _ _ _ _ _ us hl => match us, hl with | [_, _], _ => rfl) (fun f cdv A outer s H E hr => ⟨_, (pss_cons (ps_if (PW.pt (pw_or (pt_not (pt_val (pe_callB (kx_isi (K := K)) (by rfl) Z.z_isinstance PyProof.Rows.boot_isinstance (pa_cons (pv 1) (pa_cons (pe_bltn (v := .ty "tuple") (by rfl) Z.z_tuple PyProof.Rows.boot_tuple rfl) pa_nil))))) (pw_or1 (pt_cmpR op_gt (pe_callB (kx_len (K := K)) (by rfl) Z.z_len PySem.boot_len (pa_cons (pv 1) pa_nil)) (pe_gl (by rfl) Z.c_MOST_PAIRS) (nomark _))))) (pss_one (ps_ret pe_bl)) pss_nil) (pss_cons (ps_for PassesOwn.never rfl (kx_piT (K := K) (pv 1)) (pg_name (i := 2) sc_are_pairs.nd rfl (.inl rfl)) (pss_one (ps_if (PW.pt (pw_or (pt_not (pt_val (pe_callB (kx_isi (K := K)) (by rfl) Z.z_isinstance PyProof.Rows.boot_isinstance (pa_cons (pv 2) (pa_cons (pe_bltn (v := .ty "tuple") (by rfl) Z.z_tuple PyProof.Rows.boot_tuple rfl) pa_nil))))) (pw_or (pt_cmpR op_ne (pe_callB (kx_len (K := K)) (by rfl) Z.z_len PySem.boot_len (pa_cons (pv 2) pa_nil)) pe_int (nomark _)) (pw_or (pt_not (pt_val (pe_cal C_is_case hr (by decide) (by rfl) (pa_cons (pv 0) (pa_cons (pe_ix (kx_ixT (K := K)) (pv 2) pe_int (fun _ _ => rfl)) pa_nil))))) (pw_or1 (pt_not (pt_val (pe_cal C_is_action hr (by decide) (by rfl) (pa_cons (pe_ix (kx_ixT (K := K)) (pv 2) pe_int (fun _ _ => rfl)) pa_nil))))))))) (pss_one (ps_ret pe_bl)) pss_nil))) (pss_one (ps_ret (pe_callB (kx_all (K := K) rfl) (by rfl) Z.z_all PyProof.Rows.boot_all (pa_cons (pe_lc (own := [("at", 3)]) rfl sc_are_pairs.nd (pi_range1 (by rfl) Z.z_range (pa_cons (pe_op op_sub (pe_callB (kx_len (K := K)) (by rfl) Z.z_len PySem.boot_len (pa_cons (pv 1) pa_nil)) pe_int) pa_nil)) (blkOk_by (own := [("at", 3)]) (N := nm_are_pairs) (sc := defScope s_are_pairs) (by decide +kernel)) (fun _ _ _ _ _ => (pg_name (i := 3) sc_are_pairs.nd rfl (.inl rfl))) (fun _ _ _ _ _ => pts_nil) (fun _ _ _ _ _ => (pe_cmpR (kx_ltT (K := K) hr.units0) (pe_ix (kx_ixT (K := K)) (pe_ix (kx_ixT (K := K)) (pv 1) (pv 3) (fun _ _ => rfl)) pe_int (fun _ _ => rfl)) (pe_ix (kx_ixT (K := K)) (pe_ix (kx_ixT (K := K)) (pv 1) (pe_op op_add (pv 3) pe_int) (fun _ _ => rfl)) pe_int (fun _ _ => rfl)) (nomark _)))) pa_nil)))))), fun ds d hR => ?body⟩)
  obtain ⟨L, ps, rfl, hL, ⟨hp1, hp2, hp3⟩, rfl⟩ := hR
  refine .ret (Γ' := []) (st_seq (st_skip (EvT.is (et_or (et_not (et_B (is_tt (ev_var rfl)))) fun _ => et_test (ev_op (ev_lenT (ev_var rfl)) (ev_int 12) og_IB)) ?_))
    (st_seq (Stm.is (st_search (vs := [2]) (items := ps) (enc := encP) (p := fun _ => false) (f := fun _ => .bool false) (Γ1 := fun p => [.dat (encL L), .dat (.tuple false (ps.map encP)), .dat (encP p), .no]) (wg_tup (ev_var rfl)) (fun _ _ => tg_name (by decide)) (fun p hp => EvT.is (et_or (et_not (et_B (is_tt (ev_var rfl)))) fun _ => et_or (et_test (ev_op (ev_lenT (ev_var rfl)) (ev_int 2) og_neI)) fun _ => et_or (et_not (et_B (c := true) (ev_call (ea_cons (ev_var rfl) (ea_cons (ev_ixT 0 (ev_var rfl) (ev_int 0)) ea_nil)) rfl ⟨L, p.1, rfl, hL.1.2.1, (hp2 p hp).1, rfl⟩))) fun _ => et_not (et_B (ev_call (ea_cons (ev_ixT 1 (ev_var rfl) (ev_int 1)) ea_nil) rfl ⟨p.2, rfl, rfl⟩))) ?_) fun p hp q => nomatch q) (show _ = none from ?_))
    (st_ret (EvG.is (ev_allc (items := List.range (ps.length - 1)) (enc := fun i : Nat => .int (i : Int)) (p := fun i => HT.lexLt (ps.getD i ([], 0)).1 (ps.getD (i + 1) ([], 0)).1) (Γ1 := fun i => [.dat (encL L), .dat (.tuple false (ps.map encP)), .no, .dat (.int (i : Int))]) ?w (fun _ _ => tg_name (by decide)) (fun i hi => ?e) ?n) ?_))))
  case w =>
    have := wg_rngI (n := ((ps.map encP).length : Int) - 1) (Γ := [.dat (encL L), .dat (.tuple false (ps.map encP)), .no, .no]) (ev_subI (ev_lenT (K := K) (ta := tVar 1) (f := false) (ds := ps.map encP) (ev_var rfl)) (ev_int 1)) (by rw [List.length_map]; omega) (by rw [List.length_map]; omega)
    rw [List.map_map] at this
    have e : (((ps.map encP).length : Int) - 1).toNat = ps.length - 1 := by rw [List.length_map]; omega
    rw [e] at this
    exact this
  case e =>
    have hi' := List.mem_range.mp hi
    have g : ∀ j, j < ps.length → (ps.map encP)[j]? = some (encP (ps.getD j ([], 0))) := fun j hj => by
      rw [List.getElem?_map, List.getD_eq_getElem?_getD, List.getElem?_eq_getElem hj]; rfl
    exact ev_op (ev_ixT 0 (ev_ixT i (ev_var rfl) (ev_var rfl) (g i (by omega))) (ev_int 0)) (ev_ixT 0 (ev_ixT (i + 1) (ev_var rfl) (EvG.is (ev_addI (i := (i : Int)) (ev_var rfl) (ev_int 1)) rfl) (g (i + 1) (by omega))) (ev_int 0)) og_ltI
  case n => rw [List.length_range]; omega
  · simp
    omega
  · have := (hp2 p hp).2
    simp [this]
  · have h : ps.find? (fun _ => false) = none := List.find?_eq_none.mpr fun _ _ => by decide
    rw [h]
    rfl
  · refine congrArg Dat.bool (List.all_eq_true.mpr fun i hi => ?_)
    have hi' := List.mem_range.mp hi
    have g : ∀ j, j < ps.length → ps[j]? = some (ps.getD j ([], 0)) := fun j hj => by
      rw [List.getD_eq_getElem?_getD, List.getElem?_eq_getElem hj]; rfl
    rw [lexLt_eq]
    exact hp3 i _ _ (g i (by omega)) (g (i + 1) (by omega))
abbrev sp_is_wanted : Sp := spD 2 fun ds d => ∃ (L : Lst) (W : Wnt), ds = [encL L, encW W] ∧ LOk L ∧ WOk L W ∧ d = .bool true
theorem ok_is_wanted (Z : Zs mg) (D : Own K mg "is_wanted" "is_wanted" s_is_wanted) (C_check_list_wanted : Cal P w K mg base "check_list_wanted" 5 pp_check_list_wanted sp_check_list_wanted) (C_are_pairs : Cal P w K mg base "are_pairs" 3 pp_are_pairs sp_are_pairs) (C_is_list : Cal P w K mg base "is_list" 4 pp_is_list sp_is_list) : Cal P w K mg base "is_wanted" 6 pp_is_wanted sp_is_wanted := by
  refine calD D sc_is_wanted rfl (fun _ _ _ _ _ _ us hl => match us, hl with | [_, _], _ => rfl) (fun f cdv A outer s H E hr => ⟨_, (pss_cons (ps_expr (pe_cal C_check_list_wanted hr (by decide) (by rfl) (pa_cons (pv 0) pa_nil))) (pss_cons (ps_if (PW.pt (pw_or (pt_not (pt_val (pe_callB (kx_isi (K := K)) (by rfl) Z.z_isinstance PyProof.Rows.boot_isinstance (pa_cons (pv 1) (pa_cons (pe_bltn (v := .ty "tuple") (by rfl) Z.z_tuple PyProof.Rows.boot_tuple rfl) pa_nil))))) (pw_or (pt_not (kx_truth (K := K) (pv 1))) (pw_or1 (pt_not (pt_val (pe_callB (kx_isi (K := K)) (by rfl) Z.z_isinstance PyProof.Rows.boot_isinstance (pa_cons (pe_ix (kx_ixT (K := K)) (pv 1) pe_int (fun _ _ => rfl)) (pa_cons (pe_bltn (v := .ty "str") (by rfl) Z.z_str PyProof.Rows.boot_str rfl) pa_nil))))))))) (pss_one (ps_ret pe_bl)) pss_nil) (pss_cons (ps_if (pt_cmpR op_eq (pe_ix (kx_ixT (K := K)) (pv 1) pe_int (fun _ _ => rfl)) pe_str (nomark _)) (pss_one (ps_ret (pe_cmpR op_eq (pe_callB (kx_len (K := K)) (by rfl) Z.z_len PySem.boot_len (pa_cons (pv 1) pa_nil)) pe_int (nomark _)))) pss_nil) (pss_cons (ps_if (pt_cmpR op_ne (pe_callB (kx_len (K := K)) (by rfl) Z.z_len PySem.boot_len (pa_cons (pv 1) pa_nil)) pe_int (nomark _)) (pss_one (ps_ret pe_bl)) pss_nil) (pss_cons (ps_if (pt_cmpR op_eq (pe_ix (kx_ixT (K := K)) (pv 1) pe_int (fun _ _ => rfl)) pe_str (nomark _)) (pss_one (ps_ret (pe_and (pe_cal C_is_list hr (by decide) (by rfl) (pa_cons (pe_ix (kx_ixT (K := K)) (pv 1) pe_int (fun _ _ => rfl)) pa_nil)) (pe_one (pe_cmpR (kx_eqD (K := K) hr.units) (pe_ix (kx_ixT (K := K)) (pe_ix (kx_ixT (K := K)) (pv 1) pe_int (fun _ _ => rfl)) pe_int (fun _ _ => rfl)) (pe_ix (kx_ixT (K := K)) (pv 0) pe_int (fun _ _ => rfl)) (nomark _)))))) pss_nil) (pss_one (ps_ret (pe_and (pe_cmpR op_eq (pe_ix (kx_ixT (K := K)) (pv 1) pe_int (fun _ _ => rfl)) pe_str (nomark _)) (pe_one (pe_cal C_are_pairs hr (by decide) (by rfl) (pa_cons (pv 0) (pa_cons (pe_ix (kx_ixT (K := K)) (pv 1) pe_int (fun _ _ => rfl)) pa_nil)))))))))))), fun ds d hR => ?body⟩)
  obtain ⟨L, W, rfl, hL, hW, rfl⟩ := hR
  cases W with
  | self =>
    refine .mk (Γ' := []) (st_seq (st_drop (ev_call (ea_cons (ev_var rfl) ea_nil) rfl ⟨L, rfl, hL, rfl⟩)) (st_seq (st_skip (EvT.is (et_or (et_not (et_B (is_tt (ev_var rfl)))) fun _ => et_or (et_not (et_truth (ev_var rfl) rfl (fun _ z => nomatch z))) fun _ => et_not (et_B (is_ss (ev_ixT 0 (ev_var rfl) (ev_int 0))))) rfl))
      (st_seqo (o1 := some (.bool true)) (o2 := none) (Γ' := []) (Γ1 := []) (st_if (b := true) (EvT.is (et_test (ev_op (ev_ixT 0 (ev_var rfl) (ev_int 0)) (ev_str "self") og_eqS)) st_ss) (fun _ => st_ret (EvG.is (ev_op (ev_lenT (ev_var rfl)) (ev_int 1) og_eqI) rfl)) fun q => nomatch q) fun q => nomatch q))) rfl
  | list M =>
    refine .mk (Γ' := []) (st_seq (st_drop (ev_call (ea_cons (ev_var rfl) ea_nil) rfl ⟨L, rfl, hL, rfl⟩)) (st_seq (st_skip (EvT.is (et_or (et_not (et_B (is_tt (ev_var rfl)))) fun _ => et_or (et_not (et_truth (ev_var rfl) rfl (fun _ z => nomatch z))) fun _ => et_not (et_B (is_ss (ev_ixT 0 (ev_var rfl) (ev_int 0))))) rfl))
      (st_seq (st_skip (EvT.is (et_test (ev_op (ev_ixT 0 (ev_var rfl) (ev_int 0)) (ev_str "self") og_eqS)) st_ls)) (st_seq (st_skip (EvT.is (et_test (ev_op (ev_lenT (ev_var rfl)) (ev_int 2) og_neI)) rfl))
      (st_seqo (o1 := some (.bool true)) (o2 := none) (Γ' := []) (Γ1 := []) (st_if (b := true) (EvT.is (et_test (ev_op (ev_ixT 0 (ev_var rfl) (ev_int 0)) (ev_str "list") og_eqS)) st_ll) (fun _ => st_ret (EvG.is (ev_andV (c := true) (ev_call (ea_cons (ev_ixT 1 (ev_var rfl) (ev_int 1)) ea_nil) rfl ⟨M, rfl, hW.1, rfl⟩) fun _ => ev_op (ev_ixT 0 (ev_ixT 1 (ev_var rfl) (ev_int 1)) (ev_int 0)) (ev_ixT 0 (ev_var rfl) (ev_int 0)) (og_eq (shaped_tup false M.ws) (shaped_tup false L.ws))) ?_)) fun q => nomatch q) fun q => nomatch q))))) rfl
    rw [eqv_tup, hW.2]
    simp
  | cases ps =>
    refine .ret (Γ' := []) (st_seq (st_drop (ev_call (ea_cons (ev_var rfl) ea_nil) rfl ⟨L, rfl, hL, rfl⟩)) (st_seq (st_skip (EvT.is (et_or (et_not (et_B (is_tt (ev_var rfl)))) fun _ => et_or (et_not (et_truth (ev_var rfl) rfl (fun _ z => nomatch z))) fun _ => et_not (et_B (is_ss (ev_ixT 0 (ev_var rfl) (ev_int 0))))) rfl))
      (st_seq (st_skip (EvT.is (et_test (ev_op (ev_ixT 0 (ev_var rfl) (ev_int 0)) (ev_str "self") og_eqS)) st_cs)) (st_seq (st_skip (EvT.is (et_test (ev_op (ev_lenT (ev_var rfl)) (ev_int 2) og_neI)) rfl))
      (st_seq (st_skip (EvT.is (et_test (ev_op (ev_ixT 0 (ev_var rfl) (ev_int 0)) (ev_str "list") og_eqS)) st_cl)) (st_ret (EvG.is (ev_andV (e := true) (ev_op (ev_ixT 0 (ev_var rfl) (ev_int 0)) (ev_str "cases") og_eqS) fun _ => ev_call (ea_cons (ev_var rfl) (ea_cons (ev_ixT 1 (ev_var rfl) (ev_int 1)) ea_nil)) rfl ⟨L, ps, rfl, hL, hW, rfl⟩) ?_)))))))
    rw [st_cc]
    rfl
abbrev sp_check_both : Sp := spD 2 fun ds d => ∃ (L : Lst) (W : Wnt), ds = [encL L, encW W] ∧ LOk L ∧ WOk L W ∧ d = .none
theorem ok_check_both (Z : Zs mg) (D : Own K mg "check_both" "check_both" s_check_both) (C_check_list_lists : Cal P w K mg base "check_list_lists" 5 pp_check_list_lists sp_check_list_lists) (C_is_wanted : Cal P w K mg base "is_wanted" 6 pp_is_wanted sp_is_wanted) : Cal P w K mg base "check_both" 7 pp_check_both sp_check_both := by
  refine calD D sc_check_both rfl (fun _ _ _ _ _ _ us hl => match us, hl with | [_, _], _ => rfl) (fun f cdv A outer s H E hr => ⟨_, (pss_cons (ps_expr (pe_cal C_check_list_lists hr (by decide) (by rfl) (pa_cons (pv 0) (pa_cons pe_str pa_nil)))) (pss_one (ps_if (pt_not (pt_val (pe_cal C_is_wanted hr (by decide) (by rfl) (pa_cons (pv 0) (pa_cons (pv 1) pa_nil))))) (pss_one ps_never) pss_nil))), fun ds d hR => ?body⟩)
  obtain ⟨L, W, rfl, hL, hW, rfl⟩ := hR
  exact .mk (st_seq (st_drop (ev_call (ea_cons (ev_var rfl) (ea_cons (ev_str "listed") ea_nil)) rfl ⟨L, _, rfl, hL, rfl⟩)) (st_skip (EvT.is (et_not (et_B (c := true) (ev_call (ea_cons (ev_var rfl) (ea_cons (ev_var rfl) ea_nil)) rfl ⟨L, W, rfl, hL, hW, rfl⟩))) rfl))) rfl
/-! who decides -/
abbrev encK (k : Kind) : Dat := .tuple false [encI k.1, .int k.2.1, encI k.2.2]
abbrev encKL (k : Kind) : Dat := .tuple false [.list (k.1.map .int), .int k.2.1, encI k.2.2]
abbrev encZ (r : List Int) : Dat := .tuple true (r.map .int)
def optC : Option (List Int) → Dat
  | some c => encI c
  | none => .none
abbrev sp_action_by : Sp := spD 3 fun ds d => ∃ (L : Lst) (f : Bool) (row m : List Int), ds = [encL L, .tuple f (row.map .int), encI m] ∧ (∀ n ∈ row, NumOk L n) ∧ d = .int (actBy (actL L) L.rest row m)
theorem ok_action_by (Z : Zs mg) (D : Own K mg "action_by" "action_by" s_action_by) : Cal P w K mg base "action_by" 1 pp_action_by sp_action_by := by
  refine calD D sc_action_by rfl (fun _ _ _ _ _ _ us hl => match us, hl with | [_, _, _], _ => rfl) (fun f cdv A outer s H E hr => ⟨_, (pss_cons (ps_for PassesOwn.never rfl (kx_piT (K := K) (pv 1)) (pg_name (i := 3) sc_action_by.nd rfl (.inl rfl)) (pss_one (ps_if (pt_cmpR (kx_in (K := K)) (pv 3) (pv 2) (by rfl)) (pss_one (ps_ret (pe_ix (kx_ixT (K := K)) (pe_ix (kx_ixT (K := K)) (pe_ix (kx_ixT (K := K)) (pv 0) pe_int (fun _ _ => rfl)) (pv 3) (fun _ _ => rfl)) pe_int (fun _ _ => rfl)))) pss_nil))) (pss_one (ps_ret (pe_ix (kx_ixT (K := K)) (pv 0) pe_int (fun _ _ => rfl))))), fun ds d hR => ?body⟩)
  obtain ⟨L, g, row, m, rfl, hrow, rfl⟩ := hR
  refine .mk (Γ' := []) (st_seqo (st_search (vs := [3]) (items := row) (enc := Dat.int) (p := fun n => decide (n ∈ m)) (wg_tup (ev_var rfl)) (fun _ _ => tg_name (by decide)) (fun n hn => et_test (ev_op (ev_var rfl) (ev_var rfl) og_inT)) fun n hn _ => ev_act (hrow n hn) (ev_var rfl) (ev_var rfl)) (fun _ => st_ret (ev_ixT 2 (ev_var rfl) (ev_int 2)))) ?_
  unfold actBy
  cases row.find? fun n => decide (n ∈ m) with
  | some n => rfl
  | none => rfl
abbrev R_wrong (enc : Kind → Dat) (ds : List Dat) (d : Dat) : Prop := ∃ (L : Lst) (f : Bool) (row : List Int) (ks : List Kind), ds = [encL L, .list (ks.map enc), .tuple f (row.map .int)] ∧ (∀ n ∈ row, NumOk L n) ∧ row.length ≤ 1000 ∧ d = optC (wrongK (actL L) L.rest ks row)
abbrev sp_wrong_kind : Sp := spD 3 (R_wrong encK)
theorem ok_wrong_kind (Z : Zs mg) (D : Own K mg "wrong_kind" "wrong_kind" s_wrong_kind) (C_action_by : Cal P w K mg base "action_by" 1 pp_action_by sp_action_by) : Cal P w K mg base "wrong_kind" 2 pp_wrong_kind sp_wrong_kind := by
  refine calD D sc_wrong_kind rfl (fun _ _ _ _ _ _ us hl => match us, hl with | [_, _, _], _ => rfl) (fun f cdv A outer s H E hr => ⟨_, (pss_cons (ps_for PassesOwn.never rfl (kx_piL (K := K) (pv 1)) (kx_pgT (K := K) (n := 3) rfl (pgs_cons (pg_name (i := 3) sc_wrong_kind.nd rfl (.inl rfl)) (pgs_cons (pg_name (i := 4) sc_wrong_kind.nd rfl (.inl rfl)) (pgs_cons (pg_name (i := 5) sc_wrong_kind.nd rfl (.inl rfl)) pgs_nil)))) (pss_one (ps_if (pt_cmpR op_ne (pe_cal C_action_by hr (by decide) (by rfl) (pa_cons (pv 0) (pa_cons (pv 2) (pa_cons (pv 3) pa_nil)))) (pv 4) (nomark _)) (pss_one (ps_ret (pv 5))) pss_nil))) (pss_one (ps_ret pe_non))), fun ds d hR => ?body⟩)
  obtain ⟨L, g, row, ks, rfl, hrow, hrl, rfl⟩ := hR
  refine .mk (Γ' := []) (st_seqo (st_search (vs := [3, 4, 5]) (items := ks) (enc := encK) (p := fun k => decide (actBy (actL L) L.rest row k.1 ≠ k.2.1)) (Γ1 := fun k => [.dat (encL L), .dat (.list (ks.map encK)), .dat (.tuple g (row.map .int)), .dat (encI k.1), .dat (.int k.2.1), .dat (encI k.2.2)]) (wg_list (ev_var rfl)) (fun _ _ => tg_tup (tgs_cons (tg_name (by decide)) (tgs_cons (tg_name (by decide)) (tgs_cons (tg_name (by decide)) tgs_nil))) rfl)
    (fun k hk => EvT.is (et_test (ev_op (ev_call (ea_cons (ev_var rfl) (ea_cons (ev_var rfl) (ea_cons (ev_var rfl) ea_nil))) rfl ⟨L, g, row, k.1, rfl, hrow, rfl⟩) (ev_var rfl) og_neI)) (by rw [decide_not])) fun k hk _ => ev_var rfl) (fun _ => st_ret ev_non)) ?_
  unfold wrongK
  cases ks.find? fun k => decide (actBy (actL L) L.rest row k.1 ≠ k.2.1) with
  | some n => rfl
  | none => rfl
abbrev sp_barred : Sp := spD 4 fun ds d => ∃ (L : Lst) (f : Bool) (placed : List Int) (n : Int) (ks : List Kind), ds = [encL L, .list (ks.map encK), .tuple f (placed.map .int), .int n] ∧ NumOk L n ∧ placed.length ≤ 1000 ∧ d = optC (barredM (actL L) ks placed n)
theorem ok_barred (Z : Zs mg) (D : Own K mg "barred" "barred" s_barred) : Cal P w K mg base "barred" 1 pp_barred sp_barred := by
  refine calD D sc_barred rfl (fun _ _ _ _ _ _ us hl => match us, hl with | [_, _, _, _], _ => rfl) (fun f cdv A outer s H E hr => ⟨_, (pss_cons (ps_for PassesOwn.never rfl (kx_piL (K := K) (pv 1)) (kx_pgT (K := K) (n := 3) rfl (pgs_cons (pg_name (i := 4) sc_barred.nd rfl (.inr rfl)) (pgs_cons (pg_name (i := 5) sc_barred.nd rfl (.inl rfl)) (pgs_cons (pg_name (i := 6) sc_barred.nd rfl (.inl rfl)) pgs_nil)))) (pss_one (ps_if (PW.pt (pw_and (pt_cmpR (kx_in (K := K)) (pv 3) (pv 4) (by rfl)) (pw_and1 (pt_cmpR op_ne (pv 5) (pe_ix (kx_ixT (K := K)) (pe_ix (kx_ixT (K := K)) (pe_ix (kx_ixT (K := K)) (pv 0) pe_int (fun _ _ => rfl)) (pv 3) (fun _ _ => rfl)) pe_int (fun _ _ => rfl)) (nomark _))))) (pss_one (ps_if (pt_not (pt_val (pe_callB (kx_any (K := K) rfl) (by rfl) Z.z_any PyProof.Rows.boot_any (pa_cons (pe_lc (own := [("other", 7)]) rfl sc_barred.nd (kx_piT (K := K) (pv 2)) (blkOk_by (own := [("other", 7)]) (N := nm_barred) (sc := defScope s_barred) (by decide +kernel)) (fun _ _ _ _ _ => (pg_name (i := 7) sc_barred.nd rfl (.inl rfl))) (fun _ _ _ _ _ => pts_nil) (fun _ _ _ _ _ => (pe_cmpR (kx_in (K := K)) (pv 7) (pv 4) (by rfl)))) pa_nil)))) (pss_one (ps_ret (pv 6))) pss_nil)) pss_nil))) (pss_one (ps_ret pe_non))), fun ds d hR => ?body⟩)
  obtain ⟨L, g, placed, n, ks, rfl, hn, hpl, rfl⟩ := hR
  refine .mk (Γ' := []) (st_seqo (st_for (vs := [4, 5, 6, 7]) (items := ks) (enc := encK) (q := fun k => if ((decide (n ∈ k.1) && decide (k.2.1 ≠ actL L n)) && !(placed.any fun o => decide (o ∈ k.1))) = true then some (encI k.2.2) else none) (Γ1 := fun k => [.dat (encL L), .dat (.list (ks.map encK)), .dat (.tuple g (placed.map .int)), .dat (.int n), .dat (encI k.1), .dat (.int k.2.1), .dat (encI k.2.2), .no]) (wg_list (ev_var rfl)) (fun _ _ => tg_tup (tgs_cons (tg_name (by decide)) (tgs_cons (tg_name (by decide)) (tgs_cons (tg_name (by decide)) tgs_nil))) rfl)
    (fun k hk => st_weakE [4, 5, 6, 7] (Γ1 := [.dat (encL L), .dat (.list (ks.map encK)), .dat (.tuple g (placed.map .int)), .dat (.int n), .dat (encI k.1), .dat (.int k.2.1), .dat (encI k.2.2), .no]) (st_if (b := decide (n ∈ k.1) && decide (k.2.1 ≠ actL L n)) (EvT.is (et_and (et_test (ev_op (ev_var rfl) (ev_var rfl) og_inT)) fun _ => et_test (ev_op (ev_var rfl) (ev_act hn (ev_var rfl) (ev_var rfl)) og_neI)) (by rw [decide_not]; rfl)) (fun h => ?y) fun h => ?z))) (fun _ => st_ret ev_non)) ?_
  case y =>
    refine st_if (b := !(placed.any fun o => decide (o ∈ k.1))) (et_not (et_B (ev_anyc (items := placed) (enc := Dat.int) (p := fun o => decide (o ∈ k.1)) (wg_tup (ev_var rfl)) (fun _ _ => tg_name (by decide)) (fun o _ => ev_op (ev_var rfl) (ev_var rfl) og_inT) (by omega)))) (fun h2 => ?_) fun h2 => ?_
    · rw [h, h2]
      show Stm _ _ (some (encI k.2.2)) _
      exact st_ret (ev_var rfl)
    · rw [h, h2]
      show Stm _ _ none _
      exact st_next
  case z =>
    rw [h]
    show Stm _ _ none _
    exact st_next
  · rw [find_some]
    unfold barredM
    cases ks.find? fun k => (decide (n ∈ k.1) && decide (k.2.1 ≠ actL L n)) && !(placed.any fun o => decide (o ∈ k.1)) with
    | some n => rfl
    | none => rfl
theorem none_optC (o : Option (List Int)) : isNone (optC o) = o.isNone := by cases o <;> rfl
abbrev sp_need_right : Sp := spD 3 fun ds d => ∃ (L : Lst) (f : Bool) (row : List Int) (ks : List Kind), ds = [encL L, .list (ks.map encK), .tuple f (row.map .int)] ∧ (∀ n ∈ row, NumOk L n) ∧ row.length ≤ 1000 ∧ wrongK (actL L) L.rest ks row = none ∧ d = .none
theorem ok_need_right (Z : Zs mg) (D : Own K mg "need_right" "need_right" s_need_right) (C_wrong_kind : Cal P w K mg base "wrong_kind" 2 pp_wrong_kind sp_wrong_kind) : Cal P w K mg base "need_right" 3 pp_need_right sp_need_right := by
  refine calD D sc_need_right rfl (fun _ _ _ _ _ _ us hl => match us, hl with | [_, _, _], _ => rfl) (fun f cdv A outer s H E hr => ⟨_, (pss_one (ps_if (pt_cmpR op_notN (pe_cal C_wrong_kind hr (by decide) (by rfl) (pa_cons (pv 0) (pa_cons (pv 1) (pa_cons (pv 2) pa_nil)))) pe_non (nomark _)) (pss_one ps_never) pss_nil)), fun ds d hR => ?body⟩)
  obtain ⟨L, g, row, ks, rfl, hrow, hrl, hw, rfl⟩ := hR
  exact .mk (st_skip (EvT.is (et_test (ev_op (ev_call (ea_cons (ev_var rfl) (ea_cons (ev_var rfl) (ea_cons (ev_var rfl) ea_nil))) rfl ⟨L, g, row, ks, rfl, hrow, hrl, rfl⟩) ev_non (og_notN (tn := ())))) (by rw [none_optC, hw]; rfl))) rfl
end
end Nr
set_option Elab.async false
set_option linter.all false
set_option maxRecDepth 100000
set_option maxHeartbeats 4000000
/-! The law's own rows and distances. -/
namespace Nr
open PySem PySem.Spec PyProof.Rows L2
section
variable {P : Program} {w : World} {K : PySem.W.Frag} {mg : Str → Option Value} {base : Heap}
theorem actBy_head {actf : Int → Int} {rest : Int} {row m : List Int} : actBy actf rest row m = match row.filter fun n => decide (n ∈ m) with
  | n :: _ => actf n
  | [] => rest := by
  unfold actBy
  have h := List.head?_filter (p := fun n => decide (n ∈ m)) (l := row)
  rw [← h]
  cases row.filter fun n => decide (n ∈ m) with
  | nil => rfl
  | cons n l => rfl
abbrev sp_l_wrong : Sp := spD 3 (R_wrong encKL)
theorem ok_l_wrong (Z : Zs mg) (D : Own K mg "_law_wrong" "_law_wrong" s_l_wrong) : Cal P w K mg base "_law_wrong" 1 pp_l_wrong sp_l_wrong := by
  refine calD D sc_l_wrong rfl (fun _ _ _ _ _ _ us hl => match us, hl with | [_, _, _], _ => rfl) (fun f cdv A outer s H E hr => ⟨_, (pss_cons (ps_for PassesOwn.never rfl (kx_piL (K := K) (pv 1)) (kx_pgT (K := K) (n := 3) rfl (pgs_cons (pg_name (i := 3) sc_l_wrong.nd rfl (.inr rfl)) (pgs_cons (pg_name (i := 4) sc_l_wrong.nd rfl (.inl rfl)) (pgs_cons (pg_name (i := 5) sc_l_wrong.nd rfl (.inl rfl)) pgs_nil)))) (pss_cons (ps_setLc (i := 6) (own := [("_law_number", 8)]) rfl sc_l_wrong.nd rfl rfl (sw_true rfl rfl rfl (by decide +kernel)) (kx_piT (K := K) (pv 2)) (blkOk_by (own := [("_law_number", 8)]) (N := nm_l_wrong) (sc := defScope s_l_wrong) (by decide +kernel)) (fun _ _ _ _ _ => (pg_name (i := 8) sc_l_wrong.nd rfl (.inl rfl))) (fun _ _ _ _ _ => (pts_one (pt_cmpR (kx_in (K := K)) (pv 8) (pv 3) (by rfl)))) (fun _ _ _ _ _ => (pv 8))) (pss_cons (ps_set (i := 7) sc_l_wrong.nd rfl (.inl rfl) (pe_ix (kx_ixT (K := K)) (pv 0) pe_int (fun _ _ => rfl))) (pss_cons (ps_if (kx_truth (K := K) (pv 6)) (pss_one (ps_set (i := 7) sc_l_wrong.nd rfl (.inl rfl) (pe_ix (kx_ixT (K := K)) (pe_ix (kx_ixT (K := K)) (pe_ix (kx_ixT (K := K)) (pv 0) pe_int (fun _ _ => rfl)) (pe_ix (kx_ixL (K := K)) (pv 6) pe_int (fun _ _ => rfl)) (fun _ _ => rfl)) pe_int (fun _ _ => rfl)))) pss_nil) (pss_one (ps_if (pt_cmpR op_ne (pv 7) (pv 4) (nomark _)) (pss_one (ps_ret (pv 5))) pss_nil)))))) (pss_one (ps_ret pe_non))), fun ds d hR => ?body⟩)
  obtain ⟨L, g, row, ks, rfl, hrow, hrl, rfl⟩ := hR
  refine .mk (Γ' := []) (st_seqo (st_for (vs := [3, 4, 5, 6, 7, 8]) (items := ks) (enc := encKL) (q := fun k => if decide (actBy (actL L) L.rest row k.1 ≠ k.2.1) = true then some (encI k.2.2) else none) (Γ1 := fun k => [.dat (encL L), .dat (.list (ks.map encKL)), .dat (.tuple g (row.map .int)), .dat (.list (k.1.map .int)), .dat (.int k.2.1), .dat (encI k.2.2), .no, .no, .no]) (wg_list (ev_var rfl)) (fun _ _ => tg_tup (tgs_cons (tg_name (by decide)) (tgs_cons (tg_name (by decide)) (tgs_cons (tg_name (by decide)) tgs_nil))) rfl)
    (fun k hk => st_weakE [3, 4, 5, 6, 7, 8] (Γ1 := [.dat (encL L), .dat (.list (ks.map encKL)), .dat (.tuple g (row.map .int)), .dat (.list (k.1.map .int)), .dat (.int k.2.1), .dat (encI k.2.2), .dat (.list ((row.filter fun n => decide (n ∈ k.1)).map .int)), .dat (.int (actBy (actL L) L.rest row k.1)), .no]) (st_seq (st_asg (ev_lc (items := row) (enc := Dat.int) (f := Dat.int) (p := fun n => decide (n ∈ k.1)) (wg_tup (ev_var rfl)) (fun _ _ => tg_name (by decide)) (fun n _ => et_test (ev_op (ev_var rfl) (ev_var rfl) og_inL)) (fun n _ _ => ev_var rfl) (by omega))) (st_seq (st_asg (ev_ixT 2 (ev_var rfl) (ev_int 2))) (st_seq (Γ1 := [.dat (encL L), .dat (.list (ks.map encKL)), .dat (.tuple g (row.map .int)), .dat (.list (k.1.map .int)), .dat (.int k.2.1), .dat (encI k.2.2), .dat (.list ((row.filter fun n => decide (n ∈ k.1)).map .int)), .dat (.int (actBy (actL L) L.rest row k.1)), .no]) ?x
      (st_if (b := decide (actBy (actL L) L.rest row k.1 ≠ k.2.1)) (EvT.is (et_test (ev_op (ev_var rfl) (ev_var rfl) og_neI)) (by rw [decide_not])) (fun h => ?y) fun h => ?z)))))) (fun _ => st_ret ev_non)) ?_
  case y =>
    rw [h]
    show Stm _ _ (some (encI k.2.2)) _
    exact st_ret (ev_var rfl)
  case z =>
    rw [h]
    show Stm _ _ none _
    exact st_next
  case x =>
    rw [actBy_head]
    have hf : ∀ n ∈ row.filter (fun n => decide (n ∈ k.1)), NumOk L n := fun n h => hrow n (List.mem_filter.mp h).1
    generalize row.filter (fun n => decide (n ∈ k.1)) = l at hf
    cases l with
    | nil => exact st_skip (et_truth (ev_var rfl) rfl fun _ z => nomatch z)
    | cons n l => exact st_if (b := true) (et_truth (ev_var rfl) rfl fun _ z => nomatch z) (fun _ => st_asgE (ev_act (hf n List.mem_cons_self) (ev_var rfl) (ev_ixL 0 (ev_var rfl) (ev_int 0)))) fun q => nomatch q
  · rw [find_some]
    unfold wrongK
    cases ks.find? fun k => decide (actBy (actL L) L.rest row k.1 ≠ k.2.1) with
    | some n => rfl
    | none => rfl
/-! the law's rows -/
def stepR (n : Nat) (rows : List (List Int)) : List (List Int) := rows.flatMap fun r => ((rg n).filter fun o => !decide (o ∈ r)).map fun o => r ++ [o]
theorem rows_len (n : Nat) (hn : n ≤ 5) : ∀ i, i ≤ n → (rowsM n i).length ≤ 5 ^ i
  | 0, _ => by simp [rowsM]
  | i + 1, h => by
    have h1 := rows_len n hn i (by omega)
    have h2 := flat_len (fun r => ((rg n).filter fun o => !decide (o ∈ r)).map fun o => r ++ [o]) 5 (rowsM n i) fun r _ => by
      rw [List.length_map]
      have := List.length_filter_le (fun o => !decide (o ∈ r)) (rg n)
      rw [rg_len] at this
      omega
    calc (rowsM n (i + 1)).length ≤ (rowsM n i).length * 5 := h2
      _ ≤ 5 ^ i * 5 := Nat.mul_le_mul_right _ h1
      _ = 5 ^ (i + 1) := (Nat.pow_succ ..).symm
theorem rows_3125 (n : Nat) (hn : n ≤ 5) (i : Nat) (hi : i ≤ n) : (rowsM n i).length ≤ 3125 := by
  have h1 := rows_len n hn i hi
  have h3 : (5 : Nat) ^ i ≤ 5 ^ 5 := Nat.pow_le_pow_right (by decide) (by omega)
  omega
abbrev sp_l_rows : Sp := spD 1 fun ds d => ∃ n : Nat, ds = [.int (n : Int)] ∧ n ≤ 5 ∧ d = .list ((rowsM n n).map encZ)
theorem encZ_snoc (c : List Int) (v : Int) : Dat.tuple true (c.map .int ++ [.int v]) = encZ (c ++ [v]) := by
  show _ = Dat.tuple true ((c ++ [v]).map .int)
  rw [List.map_append]
  rfl
theorem ok_l_rows (Z : Zs mg) (D : Own K mg "_law_rows" "_law_rows" s_l_rows) : Cal P w K mg base "_law_rows" 1 pp_l_rows sp_l_rows := by
  refine calD D sc_l_rows rfl (fun _ _ _ _ _ _ us hl => match us, hl with | [_], _ => rfl) (fun f cdv A outer s H E hr => ⟨_, (pss_cons (ps_set (i := 1) sc_l_rows.nd rfl (.inl rfl) (pe_lst (pa_cons (pe_tupZ pa_nil) pa_nil))) (pss_cons (ps_for PassesOwn.never rfl (pi_range1 (by rfl) Z.z_range (pa_cons (pv 0) pa_nil)) (pg_name (i := 2) sc_l_rows.nd rfl (.inl rfl)) (pss_cons (ps_set (i := 3) sc_l_rows.nd rfl (.inl rfl) (pe_lst pa_nil)) (pss_cons (ps_for PassesOwn.never rfl (kx_piL (K := K) (pv 1)) (pg_name (i := 4) sc_l_rows.nd rfl (.inr rfl)) (pss_one (ps_set (i := 3) sc_l_rows.nd rfl (.inl rfl) (pe_op op_cat (pv 3) (pe_lc (own := [("_law_one", 5)]) rfl sc_l_rows.nd (pi_range1 (by rfl) Z.z_range (pa_cons (pv 0) pa_nil)) (blkOk_by (own := [("_law_one", 5)]) (N := nm_l_rows) (sc := defScope s_l_rows) (by decide +kernel)) (fun _ _ _ _ _ => (pg_name (i := 5) sc_l_rows.nd rfl (.inl rfl))) (fun _ _ _ _ _ => (pts_one (pt_cmpR (kx_notIn (K := K)) (pv 5) (pv 4) (by rfl)))) (fun _ _ _ _ _ => (pe_op (kx_catZ (K := K)) (pv 4) (pe_tupZ (pa_cons (pv 5) pa_nil))))))))) (pss_one (ps_set (i := 1) sc_l_rows.nd rfl (.inl rfl) (pv 3)))))) (pss_one (ps_ret (pv 1))))), fun ds d hR => ?body⟩)
  obtain ⟨n, rfl, hn, rfl⟩ := hR
  refine .ret (Γ' := []) (st_seq (st_asg (ev_lst (ea_cons (ev_tupZ ea_nil (Nat.zero_le _)) ea_nil) (Nat.le_of_ble_eq_true rfl))) (st_seq (st_forF (vs := [2]) (items := List.range n) (enc := fun i : Nat => Dat.int (i : Int)) (S := fun i => [.dat (.int (n : Int)), .dat (.list ((rowsM n i).map encZ)), .no, .no, .no, .no]) (Γ1 := fun i x => [.dat (.int (n : Int)), .dat (.list ((rowsM n i).map encZ)), .dat (.int (x : Int)), .no, .no, .no]) (wg_rngN (ev_var rfl) (by omega)) (fun _ _ h => h) (fun i x _ => tg_name (by decide)) (fun i x hx => ?b)) (st_ret (EvG.is (ev_var rfl) ?e))))
  case e => rw [List.length_range]
  case b =>
    have hi : i < n := by have := (List.getElem?_eq_some_iff.mp hx).1; rwa [List.length_range] at this
    have h5 := rows_3125 n hn i (by omega)
    refine st_weakE [2, 3, 4, 5] (Γ1 := [.dat (.int (n : Int)), .dat (.list ((rowsM n (i + 1)).map encZ)), .dat (.int (x : Int)), .dat (.list ((stepR n ((rowsM n i).take (rowsM n i).length)).map encZ)), .no, .no])
      (st_seq (st_asg (ev_lst ea_nil (Nat.zero_le _))) (st_seq (st_forF (vs := [4]) (items := rowsM n i) (enc := encZ) (S := fun j => [.dat (.int (n : Int)), .dat (.list ((rowsM n i).map encZ)), .dat (.int (x : Int)), .dat (.list ((stepR n ((rowsM n i).take j)).map encZ)), .no, .no])
        (Γ1 := fun j r => [.dat (.int (n : Int)), .dat (.list ((rowsM n i).map encZ)), .dat (.int (x : Int)), .dat (.list ((stepR n ((rowsM n i).take j)).map encZ)), .dat (encZ r), .no]) (wg_list (ev_var rfl)) (fun _ _ h => h) (fun j r _ => tg_name (by decide)) (fun j r hr' => ?c)) (st_asgE (EvG.is (d' := .list ((rowsM n (i + 1)).map encZ)) (ev_var rfl) ?f))))
    case f =>
      rw [List.take_length]
      rfl
    case c =>
      have hrl := (rows_mem.mp (List.mem_of_getElem? hr')).1
      have hlen : ∀ r : List Int, (((rg n).filter fun o => !decide (o ∈ r)).map fun o => r ++ [o]).length ≤ 5 := fun r => by
        rw [List.length_map]
        have := List.length_filter_le (fun o => !decide (o ∈ r)) (rg n)
        rw [rg_len] at this
        omega
      have hS := flat_len (fun r => ((rg n).filter fun o => !decide (o ∈ r)).map fun o => r ++ [o]) 5 ((rowsM n i).take j) fun c _ => hlen c
      have hr5 := hlen r
      rw [List.length_take] at hS
      refine st_weakE [4] (Γ1 := [.dat (.int (n : Int)), .dat (.list ((rowsM n i).map encZ)), .dat (.int (x : Int)), .dat (.list ((stepR n ((rowsM n i).take (j + 1))).map encZ)), .dat (encZ r), .no]) (st_asgE
        (EvG.is (ev_op (ev_var rfl) (ev_lc (items := rg n) (enc := Dat.int) (p := fun o => !decide (o ∈ r)) (f := fun v => encZ (r ++ [v])) (wg_rngI (n := ((n : Nat) : Int)) (ev_var rfl) (by omega) (by omega)) (fun v _ => tg_name (by decide)) (fun v _ => et_test (ev_op (ev_var rfl) (ev_var rfl) og_inT)) (fun v _ _ => EvG.is (ev_op (ev_var rfl) (ev_tupZ (ea_cons (ev_var rfl) ea_nil) (Nat.le_of_ble_eq_true rfl)) (og_catZ ?s)) (encZ_snoc r v)) ?n) (og_catL ?o)) ?m))
      case s => rw [List.length_map]; show r.length + 1 ≤ 100000; omega
      case n => rw [rg_len]; omega
      case o =>
        rw [List.length_map] at hr5
        rw [List.length_map, List.length_map]
        unfold stepR
        omega
      case m =>
        unfold stepR
        rw [flat_take _ _ _ _ hr', List.map_append, List.map_map]
        rfl
abbrev sp_l_right_rows : Sp := spD 2 fun ds d => ∃ (L : Lst) (ks : List Kind), ds = [encL L, .list (ks.map encKL)] ∧ L.rules.length ≤ 5 ∧ d = .list ((rightsM (actL L) L.rest ks L.rules.length).map encZ)
theorem ok_l_right_rows (Z : Zs mg) (D : Own K mg "_law_right_rows" "_law_right_rows" s_l_right_rows) (C_l_rows : Cal P w K mg base "_law_rows" 1 pp_l_rows sp_l_rows) (C_l_wrong : Cal P w K mg base "_law_wrong" 1 pp_l_wrong sp_l_wrong) : Cal P w K mg base "_law_right_rows" 2 pp_l_right_rows sp_l_right_rows := by
  refine calD D sc_l_right_rows rfl (fun _ _ _ _ _ _ us hl => match us, hl with | [_, _], _ => rfl) (fun f cdv A outer s H E hr => ⟨_, (pss_one (ps_ret (pe_lc (own := [("_law_row", 2)]) rfl sc_l_right_rows.nd (kx_piL (K := K) (pe_cal C_l_rows hr (by decide) (by rfl) (pa_cons (pe_callB (kx_len (K := K)) (by rfl) Z.z_len PySem.boot_len (pa_cons (pe_ix (kx_ixT (K := K)) (pv 0) pe_int (fun _ _ => rfl)) pa_nil)) pa_nil))) (blkOk_by (own := [("_law_row", 2)]) (N := nm_l_right_rows) (sc := defScope s_l_right_rows) (by decide +kernel)) (fun _ _ _ _ _ => (pg_name (i := 2) sc_l_right_rows.nd rfl (.inl rfl))) (fun _ _ _ _ _ => (pts_one (pt_cmpR op_isN (pe_cal C_l_wrong hr (by decide) (by rfl) (pa_cons (pv 0) (pa_cons (pv 1) (pa_cons (pv 2) pa_nil)))) pe_non (nomark _)))) (fun _ _ _ _ _ => (pv 2))))), fun ds d hR => ?body⟩)
  obtain ⟨L, ks, rfl, hn, rfl⟩ := hR
  refine .ret (Γ' := []) (st_ret (ev_lc (items := rowsM L.rules.length L.rules.length) (enc := encZ) (f := encZ) (p := fun r => (wrongK (actL L) L.rest ks r).isNone) (Γ1 := fun r => [.dat (encL L), .dat (.list (ks.map encKL)), .dat (encZ r)]) (wg_list (ev_call (ea_cons (EvG.is (ev_lenT (ev_ixT 1 (ev_var rfl) (ev_int 1))) (by rw [List.length_map])) ea_nil) rfl ⟨L.rules.length, rfl, hn, rfl⟩)) (fun _ _ => tg_name (by decide))
    (fun r hr' => EvT.is (et_test (ev_op (ev_call (ea_cons (ev_var rfl) (ea_cons (ev_var rfl) (ea_cons (ev_var rfl) ea_nil))) rfl ⟨L, true, r, ks, rfl, ?m, ?l, rfl⟩) ev_non (og_isN (tn := ())))) (none_optC _)) (fun r _ _ => ev_var rfl) ?n))
  case m => exact fun n hn => mem_rg.mp ((rows_mem.mp hr').2.2 n hn)
  case l => have := (rows_mem.mp hr').1; omega
  case n => have := rows_3125 L.rules.length hn _ (Nat.le_refl _); omega
/-! distances -/
abbrev sp_l_distance : Sp := spD 2 fun ds d => ∃ row other : List Int, ds = [encZ row, encZ other] ∧ (∀ x ∈ row, x ∈ other) ∧ row.length ≤ 1000 ∧ d = .int (distL other row)
theorem ok_l_distance (Z : Zs mg) (D : Own K mg "_law_distance" "_law_distance" s_l_distance) : Cal P w K mg base "_law_distance" 1 pp_l_distance sp_l_distance := by
  refine calD D sc_l_distance rfl (fun _ _ _ _ _ _ us hl => match us, hl with | [_, _], _ => rfl) (fun f cdv A outer s H E hr => ⟨_, (pss_cons (ps_set (i := 2) sc_l_distance.nd rfl (.inl rfl) pe_int) (pss_cons (ps_for PassesOwn.never rfl (pi_range1 (by rfl) Z.z_range (pa_cons (pe_callB (kx_len (K := K)) (by rfl) Z.z_len PySem.boot_len (pa_cons (pv 0) pa_nil)) pa_nil)) (pg_name (i := 3) sc_l_distance.nd rfl (.inr rfl)) (pss_one (ps_set (i := 2) sc_l_distance.nd rfl (.inl rfl) (pe_op op_add (pv 2) (pe_callB (kx_len (K := K)) (by rfl) Z.z_len PySem.boot_len (pa_cons (pe_lc (own := [("_law_one", 4)]) rfl sc_l_distance.nd (kx_piT (K := K) (pe_slice (kx_slT (K := K)) (pv 0) (po_some (pe_op op_add (pv 3) pe_int)) po_none)) (blkOk_by (own := [("_law_one", 4)]) (N := nm_l_distance) (sc := defScope s_l_distance) (by decide +kernel)) (fun _ _ _ _ _ => (pg_name (i := 4) sc_l_distance.nd rfl (.inl rfl))) (fun _ _ _ _ _ => (pts_one (pt_cmpR op_lt (pe_bmT PySem.F.slot_tuple_index PySem.F.type_tuple_index (kx_tindex (K := K)) (pv 1) (pa_cons (pv 4) pa_nil)) (pe_bmT PySem.F.slot_tuple_index PySem.F.type_tuple_index (kx_tindex (K := K)) (pv 1) (pa_cons (pe_ix (kx_ixT (K := K)) (pv 0) (pv 3) (fun _ _ => rfl)) pa_nil)) (nomark _)))) (fun _ _ _ _ _ => (pv 4))) pa_nil)))))) (pss_one (ps_ret (pv 2))))), fun ds d hR => ?body⟩)
  obtain ⟨row, other, rfl, hm, hl, rfl⟩ := hR
  refine .ret (Γ' := []) (st_seq (st_asg (ev_int 0)) (st_seq (st_forF (vs := [3]) (items := List.range row.length) (enc := fun i : Nat => Dat.int (i : Int)) (S := fun i => [.dat (encZ row), .dat (encZ other), .dat (.int (distL other row - distL other (row.drop i))), .no, .no]) (Γ1 := fun i x => [.dat (encZ row), .dat (encZ other), .dat (.int (distL other row - distL other (row.drop i))), .dat (.int (x : Int)), .no]) (wg_rngN (EvG.is (ev_lenT (ev_var rfl)) (by rw [List.length_map])) (by omega)) (fun _ _ h => ?a) (fun i x _ => tg_name (by decide)) (fun i x hx => ?b)) (st_ret (EvG.is (ev_var rfl) ?e))))
  case a =>
    rw [List.drop_zero, Int.sub_self]
    exact h
  case e =>
    rw [List.length_range, List.drop_length]
    show Dat.int (distL other row - 0) = _
    rw [Int.sub_zero]
  case b =>
    have hi : i < row.length := by have := (List.getElem?_eq_some_iff.mp hx).1; rwa [List.length_range] at this
    have hxi : x = i := by
      rw [List.getElem?_range hi] at hx
      exact (Option.some.inj hx).symm
    subst hxi
    have hg : (row.map Dat.int)[x]? = some (.int row[x]) := by rw [List.getElem?_map, List.getElem?_eq_getElem hi]; rfl
    refine st_weakE [3, 4] (Γ1 := [.dat (encZ row), .dat (encZ other), .dat (.int (distL other row - distL other (row.drop (x + 1)))), .dat (.int (x : Int)), .no]) (st_asgE (EvG.is (ev_addI (ev_var rfl) (ev_lenL (ev_lc (items := row.drop (x + 1)) (enc := Dat.int) (f := Dat.int) (p := fun y => decide (other.idxOf y < other.idxOf row[x])) (wg_tup (f := false) (EvG.is (ev_slT (ev_var rfl) (eo_some (i := ((x + 1 : Nat) : Int)) (EvG.is (ev_addI (i := (x : Int)) (ev_var rfl) (ev_int 1)) rfl)) eo_none) ?s)) (fun _ _ => tg_name (by decide))
      (fun y hy => EvT.is (et_test (ev_op (ev_tindex (ev_var rfl) (ev_var rfl) (hm y (List.mem_of_mem_drop hy))) (ev_tindex (ev_var rfl) (ev_ixT x (ev_var rfl) (ev_var rfl) hg) (hm _ (List.getElem_mem hi))) og_IB)) ?t) (fun _ _ _ => ev_var rfl) ?n))) ?m))
    case s =>
      rw [cut_lo _ _ (by rw [List.length_map]; omega), List.map_drop]
    case t => exact decide_eq_decide.mpr Int.ofNat_lt
    case n => rw [List.length_drop]; omega
    case m =>
      rw [List.length_map, List.drop_eq_getElem_cons hi]
      show Dat.int (_ + _) = Dat.int (_ - _)
      congr 1
      show _ = _
      simp only [distL]
      omega
/-! what is equal -/
abbrev sp_l_is_integer : Sp := spD 1 fun ds d => ∃ i : Int, ds = [.int i] ∧ d = .bool true
theorem ok_l_is_integer (Z : Zs mg) (D : Own K mg "_law_is_integer" "_law_is_integer" s_l_is_integer) : Cal P w K mg base "_law_is_integer" 1 pp_l_is_integer sp_l_is_integer := by
  refine calD D sc_l_is_integer rfl (fun _ _ _ _ _ _ us hl => match us, hl with | [_], _ => rfl) (fun f cdv A outer s H E hr => ⟨_, (pss_one (ps_ret (pe_and (pe_callB (kx_isi (K := K)) (by rfl) Z.z_isinstance PyProof.Rows.boot_isinstance (pa_cons (pv 0) (pa_cons (pe_bltn (v := .ty "int") (by rfl) Z.z_int PyProof.Rows.boot_int rfl) pa_nil))) (pe_one (pe_not (pe_callB (kx_isi (K := K)) (by rfl) Z.z_isinstance PyProof.Rows.boot_isinstance (pa_cons (pv 0) (pa_cons (pe_bltn (v := .ty "bool") (by rfl) Z.z_bool PyProof.Rows.boot_bool rfl) pa_nil)))))))), fun ds d hR => ?body⟩)
  obtain ⟨i, rfl, rfl⟩ := hR
  exact .ret (Γ' := []) (st_ret (EvG.is (ev_andV (is_ii (ev_var rfl)) fun _ => ev_notV (is_ib (ev_var rfl))) rfl))
def sp_never : Sp := fun _ _ _ _ => False
theorem ok_l_equal0 (D : Own K mg "_law_equal" "_law_equal" s_l_equal) : Cal P w K mg base "_law_equal" 1 pp_l_equal sp_never :=
  calS D sc_l_equal (fun _ _ _ _ h => h.elim) (fun _ _ _ _ _ _ us hl => match us, hl with | [_, _], _ => rfl) fun _ _ _ _ _ _ _ _ _ _ h => h.elim
abbrev sp_l_equal1 : Sp := spD 2 fun ds d => ∃ i : Int, ds = [.int i, .int i] ∧ d = .bool true
theorem ok_l_equal1 (Z : Zs mg) (D : Own K mg "_law_equal" "_law_equal" s_l_equal) (C_l_is_integer : Cal P w K mg base "_law_is_integer" 1 pp_l_is_integer sp_l_is_integer) (C_l_equal : Cal P w K mg base "_law_equal" 1 pp_l_equal sp_never) : Cal P w K mg base "_law_equal" 2 pp_l_equal sp_l_equal1 := by
  refine calD D sc_l_equal rfl (fun _ _ _ _ _ _ us hl => match us, hl with | [_, _], _ => rfl) (fun f cdv A outer s H E hr => ⟨_, (pss_cons (ps_if (pt_cmpR op_isN (pv 1) pe_non (nomark _)) (pss_one (ps_ret (pe_cmpR op_isN (pv 0) pe_non (nomark _)))) pss_nil) (pss_cons (ps_if (pt_val (pe_callB (kx_isi (K := K)) (by rfl) Z.z_isinstance PyProof.Rows.boot_isinstance (pa_cons (pv 1) (pa_cons (pe_bltn (v := .ty "bool") (by rfl) Z.z_bool PyProof.Rows.boot_bool rfl) pa_nil)))) (pss_one (ps_ret (pe_and (pe_callB (kx_isi (K := K)) (by rfl) Z.z_isinstance PyProof.Rows.boot_isinstance (pa_cons (pv 0) (pa_cons (pe_bltn (v := .ty "bool") (by rfl) Z.z_bool PyProof.Rows.boot_bool rfl) pa_nil))) (pe_one (pe_cmpR op_eq (pv 0) (pv 1) (nomark _)))))) pss_nil) (pss_cons (ps_if (pt_val (pe_callB (kx_isi (K := K)) (by rfl) Z.z_isinstance PyProof.Rows.boot_isinstance (pa_cons (pv 1) (pa_cons (pe_bltn (v := .ty "int") (by rfl) Z.z_int PyProof.Rows.boot_int rfl) pa_nil)))) (pss_one (ps_ret (pe_and (pe_cal C_l_is_integer hr (by decide) (by rfl) (pa_cons (pv 0) pa_nil)) (pe_one (pe_cmpR op_eq (pv 0) (pv 1) (nomark _)))))) pss_nil) (pss_cons (ps_if (pt_val (pe_callB (kx_isi (K := K)) (by rfl) Z.z_isinstance PyProof.Rows.boot_isinstance (pa_cons (pv 1) (pa_cons (pe_bltn (v := .ty "str") (by rfl) Z.z_str PyProof.Rows.boot_str rfl) pa_nil)))) (pss_one (ps_ret (pe_and (pe_callB (kx_isi (K := K)) (by rfl) Z.z_isinstance PyProof.Rows.boot_isinstance (pa_cons (pv 0) (pa_cons (pe_bltn (v := .ty "str") (by rfl) Z.z_str PyProof.Rows.boot_str rfl) pa_nil))) (pe_one (pe_cmpR op_eq (pv 0) (pv 1) (nomark _)))))) pss_nil) (pss_cons (ps_if (PW.pt (pw_and (pt_val (pe_callB (kx_isi (K := K)) (by rfl) Z.z_isinstance PyProof.Rows.boot_isinstance (pa_cons (pv 1) (pa_cons (pe_bltn (v := .ty "tuple") (by rfl) Z.z_tuple PyProof.Rows.boot_tuple rfl) pa_nil)))) (pw_and1 (pt_not (pt_val (pe_callB (kx_isi (K := K)) (by rfl) Z.z_isinstance PyProof.Rows.boot_isinstance (pa_cons (pv 0) (pa_cons (pe_bltn (v := .ty "tuple") (by rfl) Z.z_tuple PyProof.Rows.boot_tuple rfl) pa_nil)))))))) (pss_one (ps_ret pe_bl)) pss_nil) (pss_cons (ps_if (PW.pt (pw_and (pt_val (pe_callB (kx_isi (K := K)) (by rfl) Z.z_isinstance PyProof.Rows.boot_isinstance (pa_cons (pv 1) (pa_cons (pe_bltn (v := .ty "list") (by rfl) Z.z_list PyProof.Rows.boot_list rfl) pa_nil)))) (pw_and1 (pt_not (pt_val (pe_callB (kx_isi (K := K)) (by rfl) Z.z_isinstance PyProof.Rows.boot_isinstance (pa_cons (pv 0) (pa_cons (pe_bltn (v := .ty "list") (by rfl) Z.z_list PyProof.Rows.boot_list rfl) pa_nil)))))))) (pss_one (ps_ret pe_bl)) pss_nil) (pss_cons (ps_if (pt_cmpR op_ne (pe_callB (kx_len (K := K)) (by rfl) Z.z_len PySem.boot_len (pa_cons (pv 0) pa_nil)) (pe_callB (kx_len (K := K)) (by rfl) Z.z_len PySem.boot_len (pa_cons (pv 1) pa_nil)) (nomark _)) (pss_one (ps_ret pe_bl)) pss_nil) (pss_one (ps_ret (pe_callB (kx_all (K := K) rfl) (by rfl) Z.z_all PyProof.Rows.boot_all (pa_cons (pe_lc (own := [("_law_at", 2)]) rfl sc_l_equal.nd (pi_range1 (by rfl) Z.z_range (pa_cons (pe_callB (kx_len (K := K)) (by rfl) Z.z_len PySem.boot_len (pa_cons (pv 1) pa_nil)) pa_nil)) (blkOk_by (own := [("_law_at", 2)]) (N := nm_l_equal) (sc := defScope s_l_equal) (by decide +kernel)) (fun _ _ _ _ _ => (pg_name (i := 2) sc_l_equal.nd rfl (.inl rfl))) (fun _ _ _ _ _ => pts_nil) (fun _ _ _ _ _ => (pe_cal C_l_equal hr (by decide) (by rfl) (pa_cons (pe_ix (kx_ixT (K := K)) (pv 0) (pv 2) (fun _ _ => rfl)) (pa_cons (pe_ix (kx_ixT (K := K)) (pv 1) (pv 2) (fun _ _ => rfl)) pa_nil))))) pa_nil))))))))))), fun ds d hR => ?body⟩)
  obtain ⟨i, rfl, rfl⟩ := hR
  exact .mk (Γ' := []) (st_seq (st_skip (EvT.is (et_test (ev_op (ev_var rfl) ev_non (og_isN (tn := ())))) rfl)) (st_seq (st_skip (et_B (is_ib (ev_var rfl)))) (st_seqo (o1 := some (.bool true)) (o2 := none) (Γ' := []) (Γ1 := []) (st_if (b := true) (et_B (is_ii (ev_var rfl))) (fun _ => st_ret (EvG.is (ev_andV (c := true) (ev_call (ea_cons (ev_var rfl) ea_nil) rfl ⟨i, rfl, rfl⟩) fun _ => ev_op (ev_var rfl) (ev_var rfl) og_eqI) (by simp))) fun q => nomatch q) fun q => nomatch q))) rfl
def optZ : Option (List Int) → Dat
  | some c => encZ c
  | none => .none
abbrev sp_l_equal : Sp := spD 2 fun ds d => (ds = [.none, .none] ∨ ∃ (f g : Bool) (ns : List Int), ds = [.tuple f (ns.map .int), .tuple g (ns.map .int)] ∧ ns.length ≤ 1000) ∧ d = .bool true
theorem ok_l_equal (Z : Zs mg) (D : Own K mg "_law_equal" "_law_equal" s_l_equal) (C_l_is_integer : Cal P w K mg base "_law_is_integer" 1 pp_l_is_integer sp_l_is_integer) (C_l_equal : Cal P w K mg base "_law_equal" 2 pp_l_equal sp_l_equal1) : Cal P w K mg base "_law_equal" 3 pp_l_equal sp_l_equal := by
  refine calD D sc_l_equal rfl (fun _ _ _ _ _ _ us hl => match us, hl with | [_, _], _ => rfl) (fun f cdv A outer s H E hr => ⟨_, (pss_cons (ps_if (pt_cmpR op_isN (pv 1) pe_non (nomark _)) (pss_one (ps_ret (pe_cmpR op_isN (pv 0) pe_non (nomark _)))) pss_nil) (pss_cons (ps_if (pt_val (pe_callB (kx_isi (K := K)) (by rfl) Z.z_isinstance PyProof.Rows.boot_isinstance (pa_cons (pv 1) (pa_cons (pe_bltn (v := .ty "bool") (by rfl) Z.z_bool PyProof.Rows.boot_bool rfl) pa_nil)))) (pss_one (ps_ret (pe_and (pe_callB (kx_isi (K := K)) (by rfl) Z.z_isinstance PyProof.Rows.boot_isinstance (pa_cons (pv 0) (pa_cons (pe_bltn (v := .ty "bool") (by rfl) Z.z_bool PyProof.Rows.boot_bool rfl) pa_nil))) (pe_one (pe_cmpR op_eq (pv 0) (pv 1) (nomark _)))))) pss_nil) (pss_cons (ps_if (pt_val (pe_callB (kx_isi (K := K)) (by rfl) Z.z_isinstance PyProof.Rows.boot_isinstance (pa_cons (pv 1) (pa_cons (pe_bltn (v := .ty "int") (by rfl) Z.z_int PyProof.Rows.boot_int rfl) pa_nil)))) (pss_one (ps_ret (pe_and (pe_cal C_l_is_integer hr (by decide) (by rfl) (pa_cons (pv 0) pa_nil)) (pe_one (pe_cmpR op_eq (pv 0) (pv 1) (nomark _)))))) pss_nil) (pss_cons (ps_if (pt_val (pe_callB (kx_isi (K := K)) (by rfl) Z.z_isinstance PyProof.Rows.boot_isinstance (pa_cons (pv 1) (pa_cons (pe_bltn (v := .ty "str") (by rfl) Z.z_str PyProof.Rows.boot_str rfl) pa_nil)))) (pss_one (ps_ret (pe_and (pe_callB (kx_isi (K := K)) (by rfl) Z.z_isinstance PyProof.Rows.boot_isinstance (pa_cons (pv 0) (pa_cons (pe_bltn (v := .ty "str") (by rfl) Z.z_str PyProof.Rows.boot_str rfl) pa_nil))) (pe_one (pe_cmpR op_eq (pv 0) (pv 1) (nomark _)))))) pss_nil) (pss_cons (ps_if (PW.pt (pw_and (pt_val (pe_callB (kx_isi (K := K)) (by rfl) Z.z_isinstance PyProof.Rows.boot_isinstance (pa_cons (pv 1) (pa_cons (pe_bltn (v := .ty "tuple") (by rfl) Z.z_tuple PyProof.Rows.boot_tuple rfl) pa_nil)))) (pw_and1 (pt_not (pt_val (pe_callB (kx_isi (K := K)) (by rfl) Z.z_isinstance PyProof.Rows.boot_isinstance (pa_cons (pv 0) (pa_cons (pe_bltn (v := .ty "tuple") (by rfl) Z.z_tuple PyProof.Rows.boot_tuple rfl) pa_nil)))))))) (pss_one (ps_ret pe_bl)) pss_nil) (pss_cons (ps_if (PW.pt (pw_and (pt_val (pe_callB (kx_isi (K := K)) (by rfl) Z.z_isinstance PyProof.Rows.boot_isinstance (pa_cons (pv 1) (pa_cons (pe_bltn (v := .ty "list") (by rfl) Z.z_list PyProof.Rows.boot_list rfl) pa_nil)))) (pw_and1 (pt_not (pt_val (pe_callB (kx_isi (K := K)) (by rfl) Z.z_isinstance PyProof.Rows.boot_isinstance (pa_cons (pv 0) (pa_cons (pe_bltn (v := .ty "list") (by rfl) Z.z_list PyProof.Rows.boot_list rfl) pa_nil)))))))) (pss_one (ps_ret pe_bl)) pss_nil) (pss_cons (ps_if (pt_cmpR op_ne (pe_callB (kx_len (K := K)) (by rfl) Z.z_len PySem.boot_len (pa_cons (pv 0) pa_nil)) (pe_callB (kx_len (K := K)) (by rfl) Z.z_len PySem.boot_len (pa_cons (pv 1) pa_nil)) (nomark _)) (pss_one (ps_ret pe_bl)) pss_nil) (pss_one (ps_ret (pe_callB (kx_all (K := K) rfl) (by rfl) Z.z_all PyProof.Rows.boot_all (pa_cons (pe_lc (own := [("_law_at", 2)]) rfl sc_l_equal.nd (pi_range1 (by rfl) Z.z_range (pa_cons (pe_callB (kx_len (K := K)) (by rfl) Z.z_len PySem.boot_len (pa_cons (pv 1) pa_nil)) pa_nil)) (blkOk_by (own := [("_law_at", 2)]) (N := nm_l_equal) (sc := defScope s_l_equal) (by decide +kernel)) (fun _ _ _ _ _ => (pg_name (i := 2) sc_l_equal.nd rfl (.inl rfl))) (fun _ _ _ _ _ => pts_nil) (fun _ _ _ _ _ => (pe_cal C_l_equal hr (by decide) (by rfl) (pa_cons (pe_ix (kx_ixT (K := K)) (pv 0) (pv 2) (fun _ _ => rfl)) (pa_cons (pe_ix (kx_ixT (K := K)) (pv 1) (pv 2) (fun _ _ => rfl)) pa_nil))))) pa_nil))))))))))), fun ds d hR => ?body⟩)
  obtain ⟨rfl | ⟨f, g, ns, rfl, hn⟩, rfl⟩ := hR
  · exact .mk (Γ' := []) (st_seqo (o1 := some (.bool true)) (o2 := none) (Γ' := []) (Γ1 := []) (st_if (b := true) (EvT.is (et_test (ev_op (ev_var rfl) ev_non (og_isN (tn := ())))) rfl) (fun _ => st_ret (EvG.is (ev_op (ev_var rfl) ev_non (og_isN (tn := ()))) rfl)) fun q => nomatch q) fun q => nomatch q) rfl
  · refine .ret (Γ' := []) (st_seq (st_skip (EvT.is (et_test (ev_op (ev_var rfl) ev_non (og_isN (tn := ())))) rfl)) (st_seq (st_skip (et_B (is_tb (ev_var rfl)))) (st_seq (st_skip (et_B (is_ti (ev_var rfl)))) (st_seq (st_skip (et_B (is_ts (ev_var rfl)))) (st_seq (st_skip (EvT.is (et_and (et_B (is_tt (ev_var rfl))) fun _ => et_not (et_B (is_tt (ev_var rfl)))) rfl)) (st_seq (st_skip (EvT.is (et_and (c' := true) (et_B (is_tl (ev_var rfl))) fun q => nomatch q) rfl)) (st_seq (st_skip (EvT.is (et_test (ev_op (ev_lenT (ev_var rfl)) (ev_lenT (ev_var rfl)) og_neI)) ?u))
      (st_ret (EvG.is (ev_allc (items := List.range ns.length) (enc := fun i : Nat => Dat.int (i : Int)) (p := fun _ => true) (wg_rngN (EvG.is (ev_lenT (ev_var rfl)) (by rw [List.length_map])) (by omega)) (fun _ _ => tg_name (by decide)) (fun i hi => ?e) ?n) ?_)))))))))
    case e =>
      have hi' := List.mem_range.mp hi
      have hg : (ns.map Dat.int)[i]? = some (.int ns[i]) := by rw [List.getElem?_map, List.getElem?_eq_getElem hi']; rfl
      exact ev_call (ea_cons (ev_ixT i (ev_var rfl) (ev_var rfl) hg) (ea_cons (ev_ixT i (ev_var rfl) (ev_var rfl) hg) ea_nil)) rfl ⟨_, rfl, rfl⟩
    case n => rw [List.length_range]; omega
    · simp
    · simp
end
end Nr
set_option Elab.async false
set_option linter.all false
set_option maxRecDepth 100000
set_option maxHeartbeats 4000000
/-! Dicts whose keys are nested tuples, told by their object. -/
namespace Nr
open PySem PySem.Spec PyProof.Rows L2
mutual
def kD : NestedKey → Dat
  | .none => .none
  | .num i => .int i
  | .text x => .str x
  | .tup ks => .tuple false (kDs ks)
def kDs : List NestedKey → List Dat
  | [] => []
  | k :: ks => kD k :: kDs ks
end
section
variable {P : Program} {w : World} {H : Hp} {h : Heap}
mutual
theorem nest_is (ok : HOk P w H h) : ∀ (k : NestedKey) {v : V} {u : Value}, Dt H v (kD k) → RelV v u → NestedIs h k u
  | .none, v, u, d, r => by
    rw [kD] at d
    obtain rfl := d.non_of
    obtain rfl : u = Value.none := r
    exact .none
  | .num i, v, u, d, r => by
    rw [kD] at d
    obtain rfl := d.int_of
    obtain ⟨t, rfl⟩ : ∃ t, u = Value.int i t := r
    exact .int i t
  | .text x, v, u, d, r => by
    rw [kD] at d
    obtain rfl := d.str_of
    obtain ⟨t, rfl⟩ : ∃ t, u = Value.str x t := r
    exact .text x t
  | .tup ks, v, u, d, r => by
    rw [kD] at d
    obtain ⟨a, xs, rfl, h1, h2⟩ := d.tup_of
    obtain rfl : u = Value.ref a := r
    obtain ⟨z, its, vals, o, ho, hc, n, hd⟩ := (show ObjOk P w H h a (.tup xs) from h1.1.ok ok)
    exact .tup ho hc hd (nest_all ok ks h2 (by simpa using vals))
theorem nest_all (ok : HOk P w H h) : ∀ (ks : List NestedKey) {vs : List V} {us : List Value}, DtAll H vs (kDs ks) → Vals vs us → NestedAll h ks us
  | [], vs, us, d, r => by
    rw [kDs] at d
    cases d
    cases r
    exact .nil
  | k :: ks, vs, us, d, r => by
    rw [kDs] at d
    cases d with
    | cons a t =>
      cases r with
      | cons b c => exact .cons (nest_is ok k a b) (nest_all ok ks t c)
end
end

/-! ### a dict by its object -/
abbrev XE := NestedKey × Addr × Addr
def liftX (x : XE) : NestedKey × Addr × Value := (x.1, x.2.1, .ref x.2.2)
def DX (P : Program) (w : World) (o : Obj) (xs : List XE) : Prop := o.ExactDict ∧ (∃ es ep, o.data = .dict es ep ∧ es.toList = (xs.map liftX).map (entryOfKey (nestedKind P w))) ∧ (xs.map (·.1)).Nodup ∧ xs.length ≤ 90000
def dX (d : Addr) (o : Obj) : HO := .ext fun h => h.get? d = some o
theorem dX_ok {P : Program} {w : World} {H : Hp} {h : Heap} {d : Addr} {o : Obj} (e : h.get? d = some o) : ObjOk P w H h d (dX d o) := ⟨e, ⟨o, e⟩, fun h1 h2 p k => k o p⟩
structure Dct (P : Program) (w : World) (H : Hp) (d : Addr) (o : Obj) (xs : List XE) : Prop where
  at_ : H d = some (dX d o)
  sys : (d == sysModules) = false
  ob : DX P w o xs
  keys : ∀ x ∈ xs, Dt H (.ref x.2.1) (kD x.1) ∧ x.1.depth ≤ 8
def atX (xs : List XE) (k : NestedKey) : Option (Addr × Addr) := (xs.find? fun x => decide (x.1 = k)).map (·.2)
def putX (xs : List XE) (k : NestedKey) (a v : Addr) : List XE := if (atX xs k).isSome then xs.map (fun x => if x.1 = k then (x.1, x.2.1, v) else x) else xs ++ [(k, a, v)]
theorem at_lift (k : NestedKey) : ∀ xs : List XE, atKey (xs.map liftX) k = (atX xs k).map fun p => (p.1, Value.ref p.2)
  | [] => rfl
  | x :: xs => by
    have ih := at_lift k xs
    unfold atKey atX at ih ⊢
    rw [List.map_cons, List.find?_cons, List.find?_cons]
    show Option.map _ (match decide (x.1 = k) with | true => _ | false => _) = _
    cases decide (x.1 = k) with
    | true => rfl
    | false => exact ih
theorem put_lift (xs : List XE) (k : NestedKey) (a v : Addr) : storedH (xs.map liftX) k a (.ref v) = (putX xs k a v).map liftX := by
  unfold storedH putX
  rw [at_lift, Option.isSome_map]
  split
  · rw [List.map_map, List.map_map]
    refine List.map_congr_left fun x _ => ?_
    show putAt k (.ref v) (liftX x) = liftX (if x.1 = k then (x.1, x.2.1, v) else x)
    unfold putAt
    by_cases e : x.1 = k
    · rw [if_pos e, if_pos (show (liftX x).1 = k from e)]
      rfl
    · rw [if_neg e, if_neg (show ¬ (liftX x).1 = k from e)]
  · rw [List.map_append]
    rfl
theorem putX_len (xs : List XE) (k : NestedKey) (a v : Addr) : (putX xs k a v).length ≤ xs.length + 1 := by
  unfold putX
  split
  · rw [List.length_map]; omega
  · rw [List.length_append]; exact Nat.le_refl _
section
variable {X : Cx} {pins : List (Addr × Obj)} {σ : L2.St} {H : Hp} {s : Shared} {d p : Addr} {o : Obj} {xs : List XE} {k : NestedKey}
theorem Dct.get (D : Dct X.prog X.w H d o xs) (I : Inv X pins σ H s) : s.heap.get? d = some o := (show ObjOk X.prog X.w H s.heap d (dX d o) from I.hok d _ D.at_).1
theorem key_is (I : Inv X pins σ H s) (hk : Dt H (.ref p) (kD k)) (hd : k.depth ≤ 8) : (nestedKind X.prog X.w).is s.heap k p := ⟨nest_is I.hok k hk rfl, hd⟩
theorem Dct.dict (D : Dct X.prog X.w H d o xs) (I : Inv X pins σ H s) : s.heap.DictOfH (nestedKind X.prog X.w) d (xs.map liftX) := by
  obtain ⟨h1, ⟨es, ep, h2, h3⟩, h4, h5⟩ := D.ob
  refine ⟨o, es, ep, D.get I, h1, h2, h3, fun x hx => ?_, by rw [List.map_map]; exact h4⟩
  obtain ⟨y, hy, rfl⟩ := List.mem_map.mp hx
  exact key_is I (D.keys y hy).1 (D.keys y hy).2
theorem dx_of {P : Program} {w : World} {h : Heap} (hz : xs.length ≤ 90000) (hx : h.DictOfH (nestedKind P w) d (xs.map liftX)) : ∃ o, h.get? d = some o ∧ DX P w o xs := by
  obtain ⟨o, es, ep, ho, hc, hd, he, his, hn⟩ := hx
  exact ⟨o, ho, hc, ⟨es, ep, hd, he⟩, by rw [List.map_map] at hn; exact hn, hz⟩
theorem z_ok {n : Nat} (h : n ≤ 90000) : n ≤ sizeLine := Nat.le_trans h (by decide)
end

/-! ### rules -/
def rXNotIn (P : Program) (w : World) : R2 := fun x y H Q => ∃ p d o k xs, x = .ref p ∧ y = .ref d ∧ Dt H x (kD k) ∧ k.depth ≤ 8 ∧ Dct P w H d o xs ∧ Q (.bl (!(atX xs k).isSome)) H
def rXGet (P : Program) (w : World) : R2 := fun x y H Q => ∃ p d o k xs a v, x = .ref d ∧ y = .ref p ∧ Dt H y (kD k) ∧ k.depth ≤ 8 ∧ Dct P w H d o xs ∧ atX xs k = some (a, v) ∧ Q (.ref v) H
def sXPut (P : Program) (w : World) (td ty tv : TE) : TS := fun D σ H => tv σ H fun v H1 => td σ H1 fun x H2 => ty σ H2 fun y H3 => ∃ d p vv o k xs, x = .ref d ∧ y = .ref p ∧ v = .ref vv ∧ Dt H3 y (kD k) ∧ k.depth ≤ 8 ∧ Dct P w H3 d o xs ∧ xs.length < 90000 ∧
  ∀ o', DX P w o' (putX xs k p vv) → D.nx σ (upd H3 d (dX d o'))
def tXNew (P : Program) (w : World) : TE := fun _ H Q => ∀ d o, H d = none → (d == sysModules) = false → DX P w o [] → Q (.ref d) (upd H d (dX d o))
section
variable {X : Cx} {P : Program} {w : World} {o i e value : Expr} {pos pos' tpos apos cpos : Pos} {td ty tv : TE}
theorem room1 {A : Around} (hu : A.units + 64 < cLine) : (nestedKind P w).room A.in1 := by show A.units + 1 + 8 < cLine; omega
theorem kx_xnotin (hu : X.A.units + 64 < cLine) (hP : X.prog = P := by rfl) (hw : X.w = w := by rfl) : OpR X (compareOp .NotIn) (rXNotIn P w) := by
  subst hP hw
  intro pins s σ H x y v u Q I rx ry h
  obtain ⟨p, d, o, k, xs, rfl, rfl, hk, hd, D, q⟩ := h
  obtain rfl : v = Value.ref p := rx
  obtain rfl : u = Value.ref d := ry
  show wpAny _ _ (do return Value.bool (!(← contains (.ref d) (.ref p)))) _ _ s
  refine wpAny_bind (wpAny_contains_heap (room1 hu) (key_is I hk hd) D.sys (D.dict I) (wpAny_pure ⟨.bl _, H, I.tok _, ?_, q⟩))
  rw [at_lift, Option.isSome_map]
  rfl
theorem pe_xget (hu : X.A.units + 64 < cLine) (ho : PE X o td) (hi : PE X i ty) (hs : NoSl i) (hP : X.prog = P := by rfl) (hw : X.w = w := by rfl) : PE X (.Subscript o i pos) (tOp (rXGet P w) td ty) := by
  subst hP hw
  refine ⟨fun pins s σ H Q I h => ?_⟩
  refine subD_of PySem.F.slot_dict_getitem.lookup hs (thn (ho.run pins s σ H _ I h) fun u s1 ⟨x, H1, I1, rx, q1⟩ => thn (hi.run pins s1 σ H1 _ I1 q1) fun iv s2 ⟨y, H2, I2, ry, p, d, o, k, xs, a, v, ex, ey, hk, hd, D, hv, q2⟩ => ?_)
  subst ex ey
  obtain rfl : u = Value.ref d := rx
  obtain rfl : iv = Value.ref p := ry
  refine ⟨(D.dict I2).typeIs, wpAny_getItem_heap (p := (a, Value.ref v)) (room1 hu) (key_is I2 hk hd) (D.dict I2) (by rw [at_lift, hv]; rfl) ⟨.ref v, H2, I2.tok _, rfl, q2⟩⟩
theorem ps_xput (hu : X.A.units + 64 < cLine) (ho : PE X o td) (hi : PE X i ty) (hv : PE X value tv) (hs : swapsWith value (some (.Subscript o i pos')) pos.line X.env = pure false) (hP : X.prog = P := by rfl) (hw : X.w = w := by rfl) :
    PS X (.Assign [.Subscript o i pos'] value pos) (sXPut P w td ty tv) := by
  subst hP hw
  refine ⟨fun pins s σ H D I h => ?_⟩
  refine wpAny_Assign_Subscript (thn (hv.run pins s σ H _ I h) fun r s1 ⟨v, H1, I1, rv, q1⟩ => thn (ho.run pins s1 σ H1 _ I1 q1) fun u s2 ⟨x, H2, I2, rx, q2⟩ => thn (hi.run pins s2 σ H2 _ I2 q2) fun iv s3 ⟨y, H3, I3, ry, d, p, vv, o, k, xs, ex, ey, ev, hk, hd, Dd, hz, q3⟩ => ?_) hs
  subst ex ey ev
  obtain rfl : u = Value.ref d := rx
  obtain rfl : iv = Value.ref p := ry
  obtain rfl : r = Value.ref vv := rv
  refine wpAny_setItem_heap (room1 hu) (key_is I3 hk hd) (Dd.dict I3) (fun h' hm hsb => ?_) (by rw [List.length_map]; exact z_ok (by omega))
  rw [put_lift] at hm
  obtain ⟨o', ho', hx⟩ := dx_of (by have := putX_len xs k p vv; omega) hm
  exact ⟨σ, _, d_write I3 (by rw [Dd.at_]; exact True.intro) hsb ⟨o', ho'⟩ (dX_ok ho'), q3 o' hx⟩
theorem sys_new {h : Heap} (hb : sysModules < h.objs.size) : (h.objs.size == sysModules) = false := beq_eq_false_iff_ne.mpr (Ne.symm (Nat.ne_of_lt hb))
theorem pe_xnew (hP : X.prog = P := by rfl) (hw : X.w = w := by rfl) : PE X (.Dict [] [] pos) (tXNew P w) := by
  subst hP hw
  refine ⟨fun pins s σ H Q I h => ?_⟩
  have ho := Heap.get?_push_size (h := s.heap) (o := { cls := .type "dict", data := .dict #[] }) rfl
  exact wpAny_Dict_empty ⟨.ref s.heap.objs.size, _, I.laid (a := s.heap.objs.size) (o := dX s.heap.objs.size { cls := .type "dict", data := .dict #[] }) (t' := s.toks) (fun _ _ q => Heap.get?_push_of_some _ q) (Nat.le_refl _) (dX_ok ho), rfl,
    h _ _ (I.hok.fresh (Nat.le_refl _)) (sys_new I.big) ⟨⟨rfl, rfl, rfl⟩, ⟨#[], 0, rfl, rfl⟩, List.nodup_nil, Nat.zero_le _⟩⟩
/-- {k: v} -/
def tXOne (P : Program) (w : World) (tk tv : TE) : TE := fun σ H Q => ∀ d o, H d = none → (d == sysModules) = false → tPairs [(tk, tv)] σ (upd H d (dX d o)) fun ps H2 => ∃ p v k, H2 d = some (dX d o) ∧ ps = [(.ref p, .ref v)] ∧ Dt H2 (.ref p) (kD k) ∧ k.depth ≤ 8 ∧
  ∀ o', DX P w o' [(k, p, v)] → Q (.ref d) (upd H2 d (dX d o'))
theorem dict_one {prog : Program} {w : World} {K : Type} [DecidableEq K] {knd : HeapKind prog w K} {A : Around} {E : Value → Shared → Prop} {s : Shared} {env : PySem.Env} {keys : List (Option Expr)} {values : List Expr} {pos : Pos} {pairs : List (Sem Value × Sem Value)} {Q : Value → Shared → Prop} (hu : knd.room A)
    (hshape : (evalEachOpt keys env).zip ((evalEach values env).map fun v => do let x ← v; standAt pos; pure x) = pairs.map fun p => (some p.1, p.2)) (h0 : pairs ≠ []) (hlen : pairs.length ≤ 15)
    (h : wpAny (model prog w) A (evalPairs pairs) (fun vs s₁ => ∃ ps, CarriesH knd s₁.heap vs ps ∧ s₁.heap.DictOfH knd s.heap.objs.size [] ∧
      ∀ h' tk, h'.DictOfH knd s.heap.objs.size (storedAllH [] ps) → Heap.SameBut s.heap.objs.size s₁.heap h' → Q (.ref s.heap.objs.size) { s₁ with heap := h', toks := tk }) E
      { s with heap := s.heap.push { cls := .type "dict", data := .dict #[] } }) :
    wpAny (model prog w) A (eval (.Dict keys values pos) env) Q E s := by
  rw [arm_eval_Dict, hshape, dictDisplay_pairs pairs h0 (by omega)]
  exact wpAny_bind (wpAny_standAt (wpAny_bind (wpAny_subDictH (knd := knd) (Q := fun d s' => wpAny (model prog w) A (pure (Value.ref d)) Q E s') hu hlen
    (wpAny_mono h (fun vs s₁ h₁ => by obtain ⟨ps, hc, hm, hq⟩ := h₁; exact ⟨ps, hc, hm, fun h' tk a b => wpAny_pure (hq h' tk a b)⟩) fun _ _ e => e))))
theorem pe_xone {k v : Expr} {tk : TE} (hu : X.A.units + 64 < cLine) (hk : PE X k tk) (hv : PE X v tv) (hP : X.prog = P := by rfl) (hw : X.w = w := by rfl) : PE X (.Dict [some k] [v] pos) (tXOne P w tk tv) := by
  subst hP hw
  refine ⟨fun pins s σ H Q I q => ?_⟩
  have hn := I.hok.fresh (Nat.le_refl s.heap.objs.size)
  have ho := Heap.get?_push_size (h := s.heap) (o := { cls := .type "dict", data := .dict #[] }) rfl
  have I1 := I.laid (a := s.heap.objs.size) (o := dX s.heap.objs.size { cls := .type "dict", data := .dict #[] }) (h' := s.heap.push { cls := .type "dict", data := .dict #[] }) (t' := s.toks) (fun _ _ q => Heap.get?_push_of_some _ q) (Nat.le_refl _) (dX_ok ho)
  have hp : PPs X pos [some k] [v] [(tk, tv)] := pps_cons hk hv pps_nil
  refine dict_one (knd := nestedKind X.prog X.w) (pairs := pairTrees [some k] [v] X.env pos) (show X.A.units + 8 < cLine by omega) rfl (fun z => nomatch z) (Nat.le_of_ble_eq_true rfl) ?_
  refine thn (hp.run pins _ σ _ _ I1 (q s.heap.objs.size { cls := .type "dict", data := .dict #[] } hn (sys_new I.big))) fun ws s2 ⟨ps, H2, I2, rel, p, v, k, e, eps, dk, hd, q2⟩ => ?_
  subst eps
  obtain ⟨⟨a, b⟩, rfl, ra, rb⟩ : ∃ ab, ws = [ab] ∧ RelV (.ref p) ab.1 ∧ RelV (.ref v) ab.2 := by
    cases rel with
    | cons h t =>
      cases t
      exact ⟨_, rfl, h.1, h.2⟩
  obtain rfl : a = Value.ref p := ra
  obtain rfl : b = Value.ref v := rb
  have hg : s2.heap.get? s.heap.objs.size = some { cls := .type "dict", data := .dict #[] } := (show ObjOk X.prog X.w H2 s2.heap s.heap.objs.size (dX s.heap.objs.size _) from I2.hok _ _ e).1
  refine ⟨[(k, p, .ref v)], ⟨rfl, rfl, key_is I2 dk hd, True.intro⟩, ⟨_, #[], 0, hg, ⟨rfl, rfl, rfl⟩, rfl, rfl, ⟨fun _ hx => absurd hx List.not_mem_nil, List.nodup_nil⟩⟩, fun h' tk hm hs => ?_⟩
  obtain ⟨o', ho', hx⟩ := dx_of (xs := [(k, p, v)]) (Nat.le_of_ble_eq_true rfl) hm
  exact ⟨.ref s.heap.objs.size, _, d_write I2 (by rw [e]; exact True.intro) hs ⟨o', ho'⟩ (dX_ok ho'), rfl, q2 o' hx⟩

/-! ### walks -/
def Itx (d : Addr) (o : Obj) (xs : List XE) : It :=
  ⟨fun i H => H d = some (dX d o) ∧ i < xs.length, fun i H x H' => H' = H ∧ ∃ k p v, xs[i]? = some (k, p, v) ∧ x = .ref p, fun i H => H d = some (dX d o) ∧ xs.length ≤ i⟩
theorem turn_x {P : Program} {w : World} {K : PySem.W.Frag} {tg : Expr} {d : Addr} {o : Obj} {xs : List XE} {es : Array DictEntry} {ep : Nat} (it : Addr) (hod : o.data = .dict es ep) (he : es.toList = (xs.map liftX).map (entryOfKey (nestedKind P w))) :
    Turn P w K tg (Itx d o xs) [it] it (fun i h => h.IsKeyIter it d i xs.length ep) where
  mem := by simp
  obj := fun i h st b hb => by
    have e : b = it := by simpa using hb
    subst e
    obtain ⟨oi, e, c, dd⟩ := st
    exact ⟨oi, e, fun v z => by rw [dd] at z; cases z⟩
  keep := fun i h h' st k => st.at fun oi e => k it (by simp) oi e
  item := by
    intro X hP hw hK hc i pins s σ H E I hf st hg
    subst hP hw hK
    obtain ⟨hd, hi⟩ := hg
    obtain ⟨f0, f1, f2, f3, f4, f5⟩ := hf it (by simp)
    have hgd : s.heap.get? d = some o := (show ObjOk X.prog X.w H s.heap d (dX d o) from I.hok d _ hd).1
    have hsz : es.size = xs.length := by rw [size_of_entries he, List.length_map]
    obtain ⟨⟨k, p, v⟩, hx⟩ : ∃ q, xs[i]? = some q := ⟨xs[i], List.getElem?_eq_getElem hi⟩
    have hen : es[i]? = some (entryOfKey (nestedKind X.prog X.w) (liftX (k, p, v))) := by rw [entry_at he, List.getElem?_map, hx]; rfl
    refine next_key_item st hgd hod hsz hen fun h' st' sb => ?_
    have I1 : Inv X pins σ H { s with heap := h' } := I.turned (t' := s.toks) (fun b ob hb e => (sb.2 b hb).trans e) f0 f1 f3 f4 f5
    obtain ⟨oi, e, c, dd⟩ := id st'
    exact ⟨Value.ref p, rfl, go_of (s := { s with heap := h' }) e c dd (by decide) ⟨.ref p, H, I1, rfl, ⟨rfl, k, p, v, hx, rfl⟩, st', fun b hb => (hf b hb).1⟩⟩
  done := by
    intro X hP hw hK hc i pins s σ H E I hf st hg
    subst hP hw hK
    obtain ⟨hd, hi⟩ := hg
    obtain ⟨f0, f1, f2, f3, f4, f5⟩ := hf it (by simp)
    have hgd : s.heap.get? d = some o := (show ObjOk X.prog X.w H s.heap d (dX d o) from I.hok d _ hd).1
    have hsz : es.size = xs.length := by rw [size_of_entries he, List.length_map]
    exact next_key_end (I.ok.hd hc) st hgd hod hsz hi fun h' eb => ⟨rfl, I.turned (t' := s.toks) (fun b ob hb e => eb b ob hb e) f0 f1 f3 f4 f5⟩
  self := fun A i s Q E st h => by
    refine wpAny_pyIter_slot st.typeIs F.slot_dict_keyiterator_iter (wpAny_call_entry F.slot_dict_keyiterator_iter st.typeIs F.entry_dict_keyiterator_iter ?_ (F.args_dict_keyiterator_iter_1 _))
    show wpAny _ _ (ret (.ref it)) _ _ s
    exact wpAny_pure ⟨_, rfl, "dict_keyiterator", _, st.typeIs, F.slot_dict_keyiterator_next.lookup, h⟩
def iX (P : Program) (w : World) (td : TE) : TI := fun σ H R => td σ H fun x H1 => ∃ d o xs, x = .ref d ∧ Dct P w H1 d o xs ∧ R (Itx d o xs) H1
theorem kx_piX {tg : Expr} (he : PE X e td) (hP : X.prog = P := by rfl) (hw : X.w = w := by rfl) : PI X tg e (iX P w td) := by
  subst hP hw
  refine ⟨fun pins s σ H R I h => ?_⟩
  refine thn (he.run pins s σ H _ I h) fun u s1 ⟨x, H1, I1, rx, d, o, xs, ex, D, q⟩ => ?_
  subst ex
  obtain rfl : u = Value.ref d := rx
  obtain ⟨h1, ⟨es, ep, h2, h3⟩, h4, h5⟩ := id D.ob
  refine iter_keys D.sys (D.get I1) h1 h2 (pi_one (tk := s1.toks) I1 _ (turn_x _ h2 h3) ⟨_, Heap.get?_push_size _ rfl, rfl, ?_⟩ q)
  rw [size_of_entries h3, List.length_map]
  rfl

/-! ### list(d.values()) -/
def vX (v d : Addr) : HO := .ext fun h => h.IsValuesView v d
def tXVals (P : Program) (w : World) (td : TE) : TE := fun σ H Q => td σ H fun x H1 => ∃ d o xs, x = .ref d ∧ Dct P w H1 d o xs ∧ ∀ v, H1 v = none → Q (.ref v) (upd H1 v (vX v d))
theorem pe_xvals (he : PE X e td) (hbase : attributeBase e "values" X.env (eval e X.env) = eval e X.env := by rfl) (hline : (apos.endLine == cpos.line) = true := by rfl) (hP : X.prog = P := by rfl) (hw : X.w = w := by rfl) : PE X (.Call (.Attribute e "values" apos) [] [] cpos) (tXVals P w td) := by
  subst hP hw
  refine ⟨fun pins s σ H R I h => ?_⟩
  refine wpAny_Call_method (T := "dict") (id := "dict.values") hbase rfl hline F.plainAttrs_dict F.slot_dict_values F.type_dict_values (thn (he.run pins s σ H _ I h) fun u s1 ⟨x, H1, I1, rx, d, o, xs, ex, D, q⟩ => ?_)
  subst ex
  obtain rfl : u = Value.ref d := rx
  obtain ⟨h1, ⟨es, ep, h2, h3⟩, h4, h5⟩ := id D.ob
  have hr : s1.heap.DictRaw d es ep := ⟨o, D.get I1, h1, h2⟩
  refine ⟨hr.typeIs, fun a z => by cases z; exact ⟨o, D.get I1, h1.2.1⟩, ?_⟩
  have hn := I1.hok.fresh (Nat.le_refl s1.heap.objs.size)
  have hv : Heap.IsValuesView (s1.heap.push { cls := .type "dict_values", data := .fields #[.ref d] }) s1.heap.objs.size d := ⟨_, Heap.get?_push_size _ rfl, rfl, rfl⟩
  refine method_meetsIn F.slot_dict_values F.entry_dict_values rfl (PySem.evalArgs_none ⟨rfl, hr.typeIs, F.args_dict_values_1 _, _, meets_dict_values_raw d D.sys, ⟨es, ep, hr⟩, ?_⟩)
  exact ⟨.ref s1.heap.objs.size, _, I1.laid (t' := s1.toks) (o := vX s1.heap.objs.size d) (fun b ob q => Heap.get?_push_of_some _ q) (Nat.le_refl _) ⟨hv, ⟨_, hv.choose_spec.1⟩, fun h1 h2 ⟨ov, z1, z2⟩ k => ⟨ov, k _ z1, z2⟩⟩, rfl, q _ hn⟩
def rXList (P : Program) (w : World) : List V → Hp → VK → Prop := fun vs H Q => ∃ v d o xs, vs = [.ref v] ∧ H v = some (vX v d) ∧ Dct P w H d o xs ∧ ∀ q, H q = none → Q (.ref q) (upd H q (.lst (xs.map fun x => .ref x.2.2)))
theorem kx_xlist (hc : X.calm = true) (hP : X.prog = P := by rfl) (hw : X.w = w := by rfl) : CallR X (.type "list") (rXList P w) := by
  subst hP hw
  intro pins s σ H xs us Q I r h
  obtain ⟨v, d, o, xs, rfl, hv, D, q⟩ := h
  obtain ⟨u, rfl, rx⟩ := r.one
  obtain rfl : u = Value.ref v := rx
  obtain ⟨h1, ⟨es, ep, h2, h3⟩, h4, h5⟩ := id D.ob
  have hvv : s.heap.IsValuesView v d := (show ObjOk X.prog X.w H s.heap v (vX v d) from I.hok _ _ hv).1
  have hsz : es.size = xs.length := by rw [size_of_entries h3, List.length_map]
  refine PySem.W.kdl_call (KdlSrc.rawValues (r := v) (d := d) (es := es) (ep := ep)) (I.ok.hd hc) ⟨hvv, ⟨o, D.get I, h1, h2⟩⟩ (by rw [hsz]; exact z_ok h5) fun h' tk acc' c' kp e it => ?_
  have ea : acc'.toList = xs.map fun x => Value.ref x.2.2 := by
    have hl : acc'.toList.length = xs.length := by rw [Array.length_toList, it.1]; exact hsz
    refine List.ext_getElem? fun j => ?_
    rw [List.getElem?_map]
    cases hj : acc'.toList[j]? with
    | none =>
      have z1 := List.getElem?_eq_none_iff.mp hj
      rw [List.getElem?_eq_none (by omega)]
      rfl
    | some u =>
      obtain ⟨hi, hu⟩ := it.2 j u (by rw [← Array.getElem?_toList]; exact hj)
      have qe := entry_at h3 j
      rw [Array.getElem?_eq_getElem hi, List.getElem?_map] at qe
      cases hb : xs[j]? with
      | none =>
        rw [hb] at qe
        exact nomatch (show some _ = none from qe)
      | some b =>
        rw [hb] at qe
        have e2 : es[j] = entryOfKey (nestedKind X.prog X.w) (liftX b) := Option.some.inj qe
        rw [hu, e2]
        rfl
  have rv : Vals ((xs.map fun x => x.2.2).map V.ref) acc'.toList := by
    have eb : acc'.toList = (xs.map fun x => x.2.2).map Value.ref := by rw [ea, List.map_map]; rfl
    rw [eb]; exact vals_refs _
  have hz : ((xs.map fun x => x.2.2).map V.ref).length ≤ sizeLine := by rw [List.length_map, List.length_map]; exact z_ok h5
  have em : (xs.map fun x => V.ref x.2.2) = (xs.map fun x => x.2.2).map V.ref := by rw [List.map_map]; rfl
  rw [em] at q
  refine ⟨.ref s.heap.objs.size, _, I.laid (t' := tk) (o := .lst ((xs.map fun x => x.2.2).map V.ref)) kp (Nat.le_refl _) ?_, rfl, q _ (I.hok.fresh (Nat.le_refl _))⟩
  exact ⟨hz, acc'.toList, c', rv, by rw [Array.toArray_toList]; exact e⟩
end
end Nr
set_option Elab.async false
set_option linter.all false
set_option maxRecDepth 100000
set_option maxHeartbeats 4000000
/-! Defs that write: lists of their own, the stream. -/
namespace Nr
open PySem PySem.Spec PyProof.Rows L2
/-- what the stream holds -/
def SrcD (ds : List Dat) : Prop := ∃ (cells : List Int) (cell k : Int), ds = [.list (cells.map .int), .int cell, .int k] ∧ 0 ≤ k
def HoldL (H : Hp) (L : List Addr) (a : Addr) (ds : List Dat) : Prop := ∃ xs, H a = some (.lst xs) ∧ DtAll (hide H L) xs ds
/-- what is one's own -/
def ow (so : Option Addr) (l : List (Addr × List Dat)) : List Addr := so.toList ++ l.map (·.1)
structure Stt (so : Option Addr) (H0 : Hp) (L0 L : List Addr) (H : Hp) (σ : L2.St) (Γ : Gam) (l : List (Addr × List Dat)) : Prop where
  lv : Live L H
  env : Env (hide H L) σ Γ
  fr : Same (hide H0 L0) H
  own : ∀ a ∈ ow so l, a ∈ L0 ∨ H0 a = none
  hold : ∀ e ∈ l, e.1 ∈ L ∧ HoldL H L e.1 e.2
  nd : (l.map (·.1)).Nodup
  src : ∀ s, so = some s → s ∈ L ∧ s ∉ l.map (·.1) ∧ ∃ ds, SrcD ds ∧ HoldL H L s ds
section
variable {so : Option Addr} {H0 H H' : Hp} {L0 L : List Addr} {σ : L2.St} {Γ Γ' : Gam} {l : List (Addr × List Dat)} {D : Ends}
theorem HoldL.same {a : Addr} {ds : List Dat} (h : HoldL H L a ds) (e : Same H H') : HoldL H' L a ds := let ⟨xs, h1, h2⟩ := h; ⟨xs, e _ _ h1, h2.mono (hide_same e)⟩
theorem Stt.same (S : Stt so H0 L0 L H σ Γ l) (e : Same H H') : Stt so H0 L0 L H' σ Γ l where
  lv := live_mono S.lv e
  env := S.env.mono (hide_same e)
  fr := S.fr.trans e
  own := S.own
  hold := fun x hx => ⟨(S.hold x hx).1, (S.hold x hx).2.same e⟩
  nd := S.nd
  src := fun s h => let ⟨h1, h2, ds, h3, h4⟩ := S.src s h; ⟨h1, h2, ds, h3, h4.same e⟩
theorem Stt.at_ (S : Stt so H0 L0 L H σ Γ l) {σ' : L2.St} (he : Env (hide H L) σ' Γ') : Stt so H0 L0 L H σ' Γ' l := ⟨S.lv, he, S.fr, S.own, S.hold, S.nd, S.src⟩
theorem Stt.setD (S : Stt so H0 L0 L H σ Γ l) {i : Nat} {v : V} {d : Dat} (h : Dt (hide H L) v d) : Stt so H0 L0 L H (σ.set i (some v)) (Γ.set i (.dat d)) l := S.at_ (S.env.setD h)
theorem Stt.blank (S : Stt so H0 L0 L H σ Γ l) (vs : List Nat) : Stt so H0 L0 L H σ (Nr.blank Γ vs) l := S.at_ (S.env.blank vs)
/-- a write to what is hidden -/
theorem fr_upd (S : Stt so H0 L0 L H σ Γ l) {a : Addr} {o : HO} (ha : a ∈ ow so l) : Same (hide H0 L0) (upd H a o) := fun b u q => by
  obtain ⟨h1, h2⟩ := hide_some q
  have hb : b ≠ a := fun z => by
    subst z
    rcases S.own b ha with w | w
    · exact h1 w
    · rw [w] at h2; cases h2
  rw [upd_ne hb]
  exact S.fr b u q
theorem live_upd {a : Addr} {o : HO} (h : Live L H) : Live L (upd H a o) := fun x hx => by
  by_cases e : x = a
  · subst e; rw [upd_same]; exact fun z => nomatch z
  · rw [upd_ne e]; exact h x hx
theorem HoldL.other {a b : Addr} {o : HO} {ds : List Dat} (ha : a ∈ L) (h : HoldL H L b ds) (hb : b ≠ a) : HoldL (upd H a o) L b ds := let ⟨xs, h1, h2⟩ := h; ⟨xs, by rw [upd_ne hb]; exact h1, by rw [hide_upd ha]; exact h2⟩
/-- a list of one's own is written -/
theorem Stt.put (S : Stt so H0 L0 L H σ Γ l) {i : Nat} {a : Addr} {ds ds' : List Dat} {xs : List V} (hi : l[i]? = some (a, ds)) (hx : DtAll (hide H L) xs ds') : Stt so H0 L0 L (upd H a (.lst xs)) σ Γ (l.set i (a, ds')) := by
  have hm := List.mem_of_getElem? hi
  have ha := (S.hold _ hm).1
  have hmap : (l.set i (a, ds')).map (·.1) = l.map (·.1) := by
    refine List.ext_getElem? fun j => ?_
    rw [List.getElem?_map, List.getElem?_map, List.getElem?_set]
    by_cases e : i = j
    · subst e
      rw [if_pos rfl, hi]
      by_cases hl : i < l.length
      · rw [if_pos hl]; rfl
      · rw [List.getElem?_eq_none (by omega)] at hi; cases hi
    · rw [if_neg e]
  have how : a ∈ ow so l := List.mem_append_right _ (List.mem_map.mpr ⟨_, hm, rfl⟩)
  refine ⟨live_upd S.lv, by rw [hide_upd ha]; exact S.env, fr_upd S how, by unfold ow; rw [hmap]; exact S.own, fun e he => ?_, by rw [hmap]; exact S.nd, fun s h => ?_⟩
  · obtain ⟨j, hj, rfl⟩ := List.mem_iff_getElem.mp he
    have hj2 : j < l.length := by rwa [List.length_set] at hj
    have ej : (l.set i (a, ds'))[j]? = some (l.set i (a, ds'))[j] := List.getElem?_eq_getElem hj
    by_cases e : i = j
    · subst e
      rw [List.getElem_set_self]
      exact ⟨ha, xs, upd_same, by rw [hide_upd ha]; exact hx⟩
    · rw [List.getElem_set_ne e]
      have hm2 : l[j] ∈ l := List.getElem_mem hj2
      refine ⟨(S.hold _ hm2).1, (S.hold _ hm2).2.other ha fun z => e ?_⟩
      have n1 : (l.map (·.1))[i]? = some a := by rw [List.getElem?_map, hi]; rfl
      have n2 : (l.map (·.1))[j]? = some a := by rw [List.getElem?_map, List.getElem?_eq_getElem hj2, ← z]; rfl
      exact (List.getElem?_inj (List.getElem?_eq_some_iff.mp n1).1 S.nd).mp (n1.trans n2.symm)
  · obtain ⟨h1, h2, ds, h3, h4⟩ := S.src s h
    exact ⟨h1, by rw [hmap]; exact h2, ds, h3, h4.other ha fun z => h2 (by rw [z]; exact List.mem_map.mpr ⟨_, hm, rfl⟩)⟩
/-- a new list of one's own -/
theorem Stt.new (S : Stt so H0 L0 L H σ Γ l) {p : Addr} {xs : List V} {ds : List Dat} (hp : H p = none) (hx : DtAll (hide H L) xs ds) : Stt so H0 L0 (p :: L) (upd H p (.lst xs)) σ Γ ((p, ds) :: l) := by
  have e := same_new hp (.lst xs)
  have hpL := live_new S.lv hp
  have hm := hide_more (L := L) e hp
  refine ⟨live_cons (live_mono S.lv e) upd_same, S.env.mono hm, S.fr.trans e, fun a ha => ?_, fun x hx' => ?_, ?_, fun s h => ?_⟩
  · have ha' : a = p ∨ a ∈ ow so l := by
      unfold ow at ha ⊢
      rcases List.mem_append.mp ha with q | q
      · exact .inr (List.mem_append_left _ q)
      · rcases List.mem_cons.mp (by rw [List.map_cons] at q; exact q) with q | q
        · exact .inl q
        · exact .inr (List.mem_append_right _ q)
    rcases ha' with rfl | ha
    · by_cases z : a ∈ L0
      · exact .inl z
      · refine .inr ?_
        cases q : H0 a with
        | none => rfl
        | some o =>
          have := S.fr a o (by rw [hide_out z]; exact q)
          rw [hp] at this; cases this
    · exact S.own a ha
  · rcases List.mem_cons.mp hx' with rfl | hx'
    · exact ⟨List.mem_cons_self, xs, upd_same, hx.mono hm⟩
    · obtain ⟨h1, ys, h2, h3⟩ := S.hold x hx'
      exact ⟨List.mem_cons_of_mem _ h1, ys, e _ _ h2, h3.mono hm⟩
  · rw [List.map_cons]
    refine List.nodup_cons.mpr ⟨fun z => ?_, S.nd⟩
    obtain ⟨x, hx', ex⟩ := List.mem_map.mp z
    exact hpL (by rw [show p = x.1 from ex.symm]; exact (S.hold x hx').1)
  · obtain ⟨h1, h2, ds, h3, ys, h4, h5⟩ := S.src s h
    refine ⟨List.mem_cons_of_mem _ h1, fun z => ?_, ds, h3, ys, e _ _ h4, h5.mono hm⟩
    rcases List.mem_cons.mp (by rw [List.map_cons] at z; exact z) with z | z
    · exact hpL (by rw [show p = s from z.symm]; exact h1)
    · exact h2 z
theorem Stt.setV (S : Stt so H0 L0 L H σ Γ l) {i : Nat} (v : V) : Stt so H0 L0 L H (σ.set i (some v)) (Γ.set i (.val v)) l := S.at_ (S.env.setV v)
/-- a slot told otherwise -/
theorem Env.tell {H : Hp} {σ : L2.St} {Γ : Gam} (h : Env H σ Γ) {i : Nat} {v : V} {d : Dat} (hi : Γ[i]? = some (.val v)) (hd : Dt H v d) : Env H σ (Γ.set i (.dat d)) := by
  have := h.setD (i := i) hd
  have e : σ.set i (some v) = σ := by
    have h1 := h.val hi
    refine List.ext_getElem? fun j => ?_
    rw [List.getElem?_set]
    by_cases z : i = j
    · subst z
      rw [if_pos rfl, if_pos (List.getElem?_eq_some_iff.mp h1).1, h1]
    · rw [if_neg z]
  rwa [e] at this
/-- the newest list is let go: plain data from here -/
theorem Stt.let_ {p : Addr} {ds : List Dat} (S : Stt so H0 L0 (p :: L) H σ Γ ((p, ds) :: l)) (hpL : p ∉ L) (hs : so ≠ some p) {i : Nat} (hi : Γ[i]? = some (.val (.ref p))) : Stt so H0 L0 L H σ (Γ.set i (.dat (.list ds))) l := by
  obtain ⟨_, xs, h1, h2⟩ := S.hold _ List.mem_cons_self
  have hd := List.nodup_cons.mp S.nd
  have hg : ∀ x ∈ l, x.1 ∈ L := fun x hx => by
    rcases List.mem_cons.mp (S.hold x (List.mem_cons_of_mem _ hx)).1 with z | z
    · exact absurd (List.mem_map.mpr ⟨x, hx, z⟩) hd.1
    · exact z
  refine ⟨fun a ha => S.lv a (List.mem_cons_of_mem _ ha), (S.env.mono hide_less).tell hi (.lst (xs := xs) (by rw [hide_out hpL]; exact h1) (h2.mono hide_less)), S.fr, fun a ha => S.own a ?_, fun x hx => ?_, hd.2, fun s h => ?_⟩
  · unfold ow at ha ⊢
    rcases List.mem_append.mp ha with q | q
    · exact List.mem_append_left _ q
    · exact List.mem_append_right _ (List.mem_cons_of_mem _ q)
  · obtain ⟨_, ys, h3, h4⟩ := S.hold x (List.mem_cons_of_mem _ hx)
    exact ⟨hg x hx, ys, h3, h4.mono hide_less⟩
  · obtain ⟨h3, h4, es, h5, ys, h6, h7⟩ := S.src s h
    refine ⟨?_, fun z => h4 (List.mem_cons_of_mem _ z), es, h5, ys, h6, h7.mono hide_less⟩
    rcases List.mem_cons.mp h3 with z | z
    · exact absurd (z ▸ h) hs
    · exact z
/-- for a while it is read as plain data -/
theorem Stt.view (S : Stt so H0 L0 L H σ Γ l) {a : Addr} {ds : List Dat} (ha : (a, ds) ∈ l) {i : Nat} (hi : Γ[i]? = some (.val (.ref a))) : Live (L.filter fun b => decide (b ≠ a)) H ∧ Env (hide H (L.filter fun b => decide (b ≠ a))) σ (Γ.set i (.dat (.list ds))) := by
  obtain ⟨h0, xs, h1, h2⟩ := S.hold _ ha
  have e : Same (hide H L) (hide H (L.filter fun b => decide (b ≠ a))) := fun b o q => by
    obtain ⟨h3, h4⟩ := hide_some q
    rw [hide_out fun z => h3 (List.mem_filter.mp z).1]
    exact h4
  refine ⟨fun b hb => S.lv b (List.mem_filter.mp hb).1, (S.env.mono e).tell hi (.lst (xs := xs) ?_ (h2.mono e))⟩
  rw [hide_out fun z => by have := (List.mem_filter.mp z).2; simp at this]
  exact h1
theorem Stt.ow_in (S : Stt so H0 L0 L H σ Γ l) : ∀ a ∈ ow so l, a ∈ L := fun a ha => by
  rcases List.mem_append.mp ha with q | q
  · cases so with
    | none => exact absurd q List.not_mem_nil
    | some s => rw [List.mem_singleton.mp q]; exact (S.src s rfl).1
  · obtain ⟨x, hx, rfl⟩ := List.mem_map.mp q
    exact (S.hold x hx).1
/-- inside a loop: from its start on -/
theorem Stt.base (S : Stt so H0 L0 L H σ Γ l) : Stt so H (ow so l) L H σ Γ l := ⟨S.lv, S.env, hide_sub, fun a ha => .inl ha, S.hold, S.nd, S.src⟩
theorem Stt.back {H1 : Hp} {σ1 : L2.St} {Γ1 : Gam} {l1 : List (Addr × List Dat)} (S : Stt so H0 L0 L H σ Γ l) (hl : ∀ a ∈ ow so l1, a ∈ ow so l) (T : Stt so H (ow so l) L H1 σ1 Γ1 l1) : Stt so H0 L0 L H1 σ1 Γ1 l1 := by
  refine ⟨T.lv, T.env, fun a o q => ?_, fun a ha => S.own a (hl a ha), T.hold, T.nd, T.src⟩
  have h1 := S.fr a o q
  obtain ⟨h2, h3⟩ := hide_some q
  refine T.fr a o ?_
  rw [hide_out fun z => (S.own a z).elim h2 fun w => by rw [w] at h3; cases h3]
  exact h1
theorem Stt.samex {l1 : List (Addr × List Dat)} (S : Stt so H L0 L H' σ Γ l) (hL : ∀ a ∈ L0, a ∈ L) : SameX L H H' := fun a o q => by
  obtain ⟨h1, h2⟩ := hide_some q
  rw [hide_out h1]
  exact S.fr a o (by rw [hide_out fun z => h1 (hL a z)]; exact h2)

/-! ### steps -/
theorem im_ret {te : TE} (h : te σ H D.rt) : tRet te D σ H := h
theorem im_op {r : R2} {ta tb : TE} {Q : VK} (h : ta σ H fun x H1 => tb σ H1 fun y H2 => r x y H2 Q) : tOp r ta tb σ H Q := h
theorem im_seq {ts tu : TS} (h : ts { D with nx := tu D } σ H) : tSeq ts tu D σ H := h
theorem im_cons {ta : TE} {tr : TA} {Q : List V → Hp → Prop} (h : ta σ H fun x H1 => tr σ H1 fun xs H2 => Q (x :: xs) H2) : tCons ta tr σ H Q := h
theorem im_asg {te : TE} {i : Nat} (h : te σ H fun x H1 => D.nx (σ.set i (some x)) H1) : tAsg te (gName i) D σ H := h
theorem im_if {c : TT} {t u : TS} (h : c σ H fun b H1 => if b = true then t D σ H1 else u D σ H1) : tIfS c t u D σ H := h
theorem im_e {te : TE} {d : Dat} {Q : VK} (S : Stt so H0 L0 L H σ Γ l) (h : EvG te Γ d) (k : ∀ v H', Stt so H0 L0 L H' σ Γ l → Same H H' → Dt (hide H' L) v d → Q v H') : te σ H Q := h L σ H Q S.lv S.env fun v H' e dv => k v H' (S.same e) e dv
theorem im_t {tt : TT} {b : Bool} {Q : Bool → Hp → Prop} (S : Stt so H0 L0 L H σ Γ l) (h : EvT tt Γ b) (k : ∀ H', Stt so H0 L0 L H' σ Γ l → Same H H' → Q b H') : tt σ H Q := h L σ H Q S.lv S.env fun H' e => k H' (S.same e) e
theorem im_s {ts : TS} (S : Stt so H0 L0 L H σ Γ l) (h : Stm ts Γ none Γ') (k : ∀ σ' H', Stt so H0 L0 L H' σ' Γ' l → Same H H' → D.nx σ' H') : ts D σ H :=
  h L σ H D S.lv S.env (fun _ q => nomatch q) fun _ σ' H' e he => k σ' H' ((S.same e).at_ he) e
/-- x = [] -/
theorem im_nil {i : Nat} (S : Stt so H0 L0 L H σ Γ l) (k : ∀ p, p ∉ L → so ≠ some p → Stt so H0 L0 (p :: L) (upd H p (.lst [])) (σ.set i (some (.ref p))) (Γ.set i (.val (.ref p))) ((p, []) :: l) → D.nx (σ.set i (some (.ref p))) (upd H p (.lst []))) : tAsg (tLst tNil) (gName i) D σ H :=
  ⟨Nat.zero_le _, fun p hp => k p (live_new S.lv hp) (fun z => live_new S.lv hp (S.src p z).1) ((S.new (xs := []) hp .nil).setV _)⟩
/-- a list laid, to be one's own -/
theorem im_lst {i : Nat} {te : TE} {ds : List Dat} (S : Stt so H0 L0 L H σ Γ l) (h : ∀ Q : VK, (∀ p xs H1, Same H H1 → H1 p = none → DtAll (hide H1 L) xs ds → Q (.ref p) (upd H1 p (.lst xs))) → te σ H Q)
    (k : ∀ p xs H1, p ∉ L → so ≠ some p → Stt so H0 L0 (p :: L) (upd H1 p (.lst xs)) (σ.set i (some (.ref p))) (Γ.set i (.val (.ref p))) ((p, ds) :: l) → D.nx (σ.set i (some (.ref p))) (upd H1 p (.lst xs))) : tAsg te (gName i) D σ H :=
  h _ fun p xs H1 e hp dx => k p xs H1 (live_new (live_mono S.lv e) hp) (fun z => live_new (live_mono S.lv e) hp (S.src p z).1) (((S.same e).new (xs := xs) hp dx).setV _)
/-- x.append(e) -/
theorem im_append {i j : Nat} {te : TE} {a : Addr} {ds : List Dat} {K : PySem.W.Frag} (Pd : Dat → List (Addr × List Dat) → Prop) (S : Stt so H0 L0 L H σ Γ l) (hi : Γ[i]? = some (.val (.ref a))) (hj : l[j]? = some (a, ds)) (hz : ds.length < 100000)
    (he : ∀ Q : VK, (∀ v d l2 H1, Pd d l2 → l2[j]? = some (a, ds) → Stt so H0 L0 L H1 σ Γ l2 → Dt (hide H1 L) v d → Q v H1) → te σ H Q)
    (k : ∀ d l2 H1, Pd d l2 → Stt so H0 L0 L H1 σ Γ (l2.set j (a, ds ++ [d])) → D.nx σ H1) : tDrop (tBM K "list" rAppend (tVar i) (tCons te tNil)) D σ H := by
  obtain ⟨h0, xs, h1, h2⟩ := S.hold _ (List.mem_of_getElem? hj)
  refine ⟨.ref a, S.env.val hi, .inl ⟨rfl, xs, .of h1⟩, he _ fun v d l2 H1 hp hj2 S1 dv => ?_⟩
  obtain ⟨h0, ys, h3, h4⟩ := S1.hold _ (List.mem_of_getElem? hj2)
  refine ⟨a, ys, v, rfl, rfl, h3, by rw [show ys.length = ds.length from h4.len]; exact Nat.lt_of_lt_of_le hz (by decide), k d l2 _ hp (S1.put hj2 (h4.append (.one dv)))⟩
/-- the value is plain -/
theorem im_app {i j : Nat} {te : TE} {a : Addr} {ds : List Dat} {d : Dat} {K : PySem.W.Frag} (S : Stt so H0 L0 L H σ Γ l) (hi : Γ[i]? = some (.val (.ref a))) (hj : l[j]? = some (a, ds)) (hz : ds.length < 100000) (he : EvG te Γ d)
    (k : ∀ H1, Stt so H0 L0 L H1 σ Γ (l.set j (a, ds ++ [d])) → D.nx σ H1) : tDrop (tBM K "list" rAppend (tVar i) (tCons te tNil)) D σ H :=
  im_append (fun d' l' => d' = d ∧ l' = l) S hi hj hz (fun Q kk => im_e S he fun v H1 S1 e1 dv => kk v d l H1 ⟨rfl, rfl⟩ hj S1 dv) fun d' l2 H1 ⟨e1, e2⟩ S1 => by subst e1 e2; exact k H1 S1
/-- x.pop(e) -/
theorem im_pop {i j m : Nat} {a : Addr} {ds : List Dat} {d : Dat} {Q : VK} (S : Stt so H0 L0 L H σ Γ l) (hi : Γ[i]? = some (.val (.ref a))) (hj : l[j]? = some (a, ds)) (hd : ds[m]? = some d) (hz : ds.length ≤ 100000) {H1 : Hp} (S1 : Stt so H0 L0 L H1 σ Γ l)
    (k : ∀ v H1, Stt so H0 L0 L H1 σ Γ (l.set j (a, ds.eraseIdx m)) → Dt (hide H1 L) v d → Q v H1) : rPopAt (.ref a) [.int (m : Int)] H1 Q := by
  obtain ⟨h0, xs, h1, h2⟩ := S1.hold _ (List.mem_of_getElem? hj)
  have hl : xs.length = ds.length := h2.len
  have hm : m < ds.length := (List.getElem?_eq_some_iff.mp hd).1
  obtain ⟨v, h3, h4⟩ := h2.get hd
  have hn := (List.mem_of_getElem? hj)
  refine ⟨a, xs, (m : Int), m, v, rfl, rfl, h1, by omega, by omega, ?_, h3, k _ _ (S1.put hj (h2.eraseIdx m)) (by rw [hide_upd h0]; exact h4)⟩
  refine (ixN_seq (j := m) ?_).1
  unfold ixN
  rw [if_pos (by omega), if_pos (by omega), Int.toNat_natCast]
/-- a tuple of what is there -/
theorem im_mkT {vs : List V} {ds : List Dat} {Q : VK} (S : Stt so H0 L0 L H σ Γ l) (dv : DtAll (hide H L) vs ds) (hz : ds.length ≤ 100000) (k : ∀ v H', Stt so H0 L0 L H' σ Γ l → Same H H' → Dt (hide H' L) v (.tuple false ds) → Q v H') : vs.length ≤ sizeLine ∧ ∀ p, H p = none → Q (.ref p) (upd H p (.tup vs)) :=
  ⟨by rw [dv.len]; exact Nat.le_trans hz (by decide), fun p hp => k _ _ (S.same (same_new hp _)) (same_new hp _) (.tup (xs := vs) (rdt_new (live_new S.lv hp)) (dv.mono (hide_same (same_new hp _))))⟩
/-- a for -/
theorem im_for {α : Type} {wi : TI} {g : TG} {tb : TS} {items : List α} {enc : α → Dat} (S : Stt so H0 L0 L H σ Γ l) (hw : WalkG wi Γ (items.map enc)) (J : Nat → Gam → List (Addr × List Dat) → Prop) (h0 : J 0 Γ l) (hl : ∀ i Γ' l', J i Γ' l' → l'.map (·.1) = l.map (·.1))
    (hb : ∀ i x Γ' l' H1 σ' H' v, items[i]? = some x → J i Γ' l' → Stt so H1 (ow so l) L H' σ' Γ' l' → Dt (hide H' L) v (enc x) → g v σ' H' fun σ2 H2 => tb { D with nx := fun σ3 H3 => ∃ Γ3 l3, J (i + 1) Γ3 l3 ∧ Stt so H1 (ow so l) L H3 σ3 Γ3 l3, ct := fun σ3 H3 => ∃ Γ3 l3, J (i + 1) Γ3 l3 ∧ Stt so H1 (ow so l) L H3 σ3 Γ3 l3, bk := D.nx } σ2 H2)
    (he : ∀ Γ' l' σ' H', J items.length Γ' l' → Stt so H0 L0 L H' σ' Γ' l' → D.nx σ' H') : tFor wi g tb D σ H := hw L σ H _ S.lv S.env fun C H1 e1 G => by
  have S1 := S.same e1
  refine ⟨fun i m σ' H' => m = items.length - i ∧ i ≤ items.length ∧ ∃ Γ' l', J i Γ' l' ∧ Stt so H1 (ow so l) L H' σ' Γ' l', ⟨_, rfl, Nat.zero_le _, Γ, l, h0, S1.base⟩, ?_⟩
  rintro i m σ' H' ⟨rfl, hi, Γ', l', hJ, T⟩
  have eX := T.samex (l1 := l) S1.ow_in
  by_cases hlt : i < items.length
  · have hx : items[i]? = some items[i] := List.getElem?_eq_getElem hlt
    have hd : (items.map enc)[i]? = some (enc items[i]) := by rw [List.getElem?_map, hx]; rfl
    refine .inr ⟨G.goes i H' (by rw [List.length_map]; exact hlt) eX, fun σ3 H3 => ∃ Γ3 l3, J (i + 1) Γ3 l3 ∧ Stt so H1 (ow so l) L H3 σ3 Γ3 l3, fun σ3 H3 h => ⟨_, by omega, rfl, hlt, h⟩, fun x H2 y => ?_⟩
    obtain ⟨e2, dx⟩ := G.yields i H' x H2 L _ hd eX y (fun a ha => .inl ha) T.lv
    exact hb i _ Γ' l' H1 σ' H2 x hx hJ (T.same e2) dx
  · have ei : i = items.length := by omega
    subst ei
    refine .inl ⟨?_, he Γ' l' σ' H' hJ (S1.back (fun a ha => by unfold ow at ha ⊢; rwa [hl _ _ _ hJ] at ha) T)⟩
    have := G.stops H' eX
    rw [List.length_map] at this
    exact this

/-- for i in range(e), e of any kind -/
theorem im_forR {g : TG} {tb : TS} {te : TE} (Pn : Nat → Prop) (S : Stt so H0 L0 L H σ Γ l) (he0 : ∀ Q : VK, (∀ (n : Nat) H1, n ≤ 100000 → Pn n → Stt so H0 L0 L H1 σ Γ l → Q (.int (n : Int)) H1) → te σ H Q) (J : Nat → Nat → Gam → List (Addr × List Dat) → Prop) (h0 : ∀ n, Pn n → J n 0 Γ l) (hl : ∀ n i Γ' l', J n i Γ' l' → l'.map (·.1) = l.map (·.1))
    (hb : ∀ n i Γ' l' H1 σ' H' v, i < n → Pn n → J n i Γ' l' → Stt so H1 (ow so l) L H' σ' Γ' l' → Dt (hide H' L) v (.int (i : Int)) → g v σ' H' fun σ2 H2 => tb { D with nx := fun σ3 H3 => ∃ Γ3 l3, J n (i + 1) Γ3 l3 ∧ Stt so H1 (ow so l) L H3 σ3 Γ3 l3, ct := fun σ3 H3 => ∃ Γ3 l3, J n (i + 1) Γ3 l3 ∧ Stt so H1 (ow so l) L H3 σ3 Γ3 l3, bk := D.nx } σ2 H2)
    (he : ∀ n Γ' l' σ' H', Pn n → J n n Γ' l' → Stt so H0 L0 L H' σ' Γ' l' → D.nx σ' H') : tFor (iRng1 (tCons te tNil)) g tb D σ H := he0 _ fun n H1 hn hp S1 => ⟨(n : Int), rfl, by omega, by omega, by
  rw [Int.toNat_natCast]
  refine ⟨fun i m σ' H' => m = n - i ∧ i ≤ n ∧ ∃ Γ' l', J n i Γ' l' ∧ Stt so H1 (ow so l) L H' σ' Γ' l', ⟨_, rfl, Nat.zero_le _, Γ, l, h0 n hp, S1.base⟩, ?_⟩
  rintro i m σ' H' ⟨rfl, hi, Γ', l', hJ, T⟩
  by_cases hlt : i < n
  · refine .inr ⟨hlt, fun σ3 H3 => ∃ Γ3 l3, J n (i + 1) Γ3 l3 ∧ Stt so H1 (ow so l) L H3 σ3 Γ3 l3, fun σ3 H3 h => ⟨_, by omega, rfl, hlt, h⟩, fun x H2 y => ?_⟩
    have y' : H2 = H' ∧ x = .int (0 + (i : Int)) := y
    obtain ⟨rfl, rfl⟩ := y'
    refine hb n i Γ' l' H1 σ' _ _ hlt hp hJ T ?_
    rw [Int.zero_add]
    exact .int _
  · have ei : i = n := by omega
    subst ei
    exact .inl ⟨Nat.le_refl _, he i Γ' l' σ' H' hp hJ (S1.back (fun a ha => by unfold ow at ha ⊢; rwa [hl _ _ _ _ hJ] at ha) T)⟩⟩

/-! ### defs that draw from the stream -/
def But (s : Addr) (H H' : Hp) : Prop := ∀ a o, a ≠ s → H a = some o → H' a = some o
def spS (n : Nat) (Pre : List Dat → Prop) (R : List Dat → Dat → Prop) : Sp := fun vs H Q _ => ∃ (L : List Addr) (s : Addr) (us : List V) (ds dsr : List Dat), vs = .ref s :: us ∧ ds.length = n ∧ Live L H ∧ s ∈ L ∧ SrcD dsr ∧ HoldL H L s dsr ∧ DtAll (hide H L) us ds ∧ Pre ds ∧
  ∀ v d dsr' H', R ds d → SrcD dsr' → But s H H' → HoldL H' L s dsr' → Dt (hide H' L) v d → Q v H'
theorem spS_len {n : Nat} {Pre : List Dat → Prop} {R : List Dat → Dat → Prop} : ∀ vs H Q E, spS n Pre R vs H Q E → vs.length = n + 1 := fun vs H Q E ⟨L, s, us, ds, dsr, e, hn, _, _, _, _, hd, _⟩ => by rw [e, List.length_cons, hd.len, hn]
theorem but_x {s : Addr} (b : But s H H') (hs : s ∈ L) : SameX L H H' := fun a o q => by
  obtain ⟨h1, h2⟩ := hide_some q
  rw [hide_out h1]
  exact b a o (fun z => h1 (z ▸ hs)) h2
theorem Stt.drawn {s : Addr} (S : Stt (some s) H0 L0 L H σ Γ l) (b : But s H H') {ds : List Dat} (h1 : SrcD ds) (h2 : HoldL H' L s ds) : Stt (some s) H0 L0 L H' σ Γ l := by
  obtain ⟨hs, hn, _⟩ := S.src s rfl
  have e := but_x b hs
  refine ⟨fun a ha => ?_, S.env.mono e, fun a o q => ?_, S.own, fun x hx => ?_, S.nd, fun t h => ?_⟩
  · by_cases z : a = s
    · obtain ⟨xs, h3, _⟩ := h2
      rw [z, h3]; exact fun z => nomatch z
    · cases q : H a with
      | none => exact absurd q (S.lv a ha)
      | some o => rw [b a o z q]; exact fun z => nomatch z
  · obtain ⟨h3, h4⟩ := hide_some q
    refine b a o (fun z => ?_) (S.fr a o q)
    subst z
    rcases S.own a (List.mem_append_left _ (List.mem_singleton_self _)) with w | w
    · exact h3 w
    · rw [w] at h4; cases h4
  · obtain ⟨h3, xs, h4, h5⟩ := S.hold x hx
    exact ⟨h3, xs, b _ _ (fun z => hn (List.mem_map.mpr ⟨x, hx, z⟩)) h4, h5.mono e⟩
  · cases h
    exact ⟨hs, hn, ds, h1, h2⟩
/-- a call that draws -/
theorem im_drawG {s : Addr} {n j : Nat} {Pre : List Dat → Prop} {R : List Dat → Dat → Prop} {ta : TA} {ds : List Dat} {E : XK} {Q : VK} (S : Stt (some s) H0 L0 L H σ Γ l) (hj : Γ[j]? = some (.val (.ref s))) (ha : ∀ Q : List V → Hp → Prop, (∀ us H1, Same H H1 → DtAll (hide H1 L) us ds → Q us H1) → ta σ H Q) (hn : ds.length = n) (hp : Pre ds)
    (k : ∀ v d H', R ds d → Stt (some s) H0 L0 L H' σ Γ l → SameX L H H' → Dt (hide H' L) v d → Q v H') : tCall (spS n Pre R) [] E (tCons (tVar j) ta) σ H Q :=
  ⟨.ref s, S.env.val hj, ha _ fun us H1 e1 du => by
    have S1 := S.same e1
    obtain ⟨h1, h2, dsr, h3, h4⟩ := S1.src s rfl
    refine ⟨L, s, us, ds, dsr, by rw [List.append_nil], hn, S1.lv, h1, h3, h4, du, hp, fun v d dsr' H' hR hs b hh dv => k v d H' hR (S1.drawn b hs hh) (fun a o q => but_x b h1 a o (hide_same e1 a o q)) dv⟩⟩
theorem im_draw {s : Addr} {n j : Nat} {Pre : List Dat → Prop} {R : List Dat → Dat → Prop} {ta : TA} {ds : List Dat} {E : XK} {Q : VK} (S : Stt (some s) H0 L0 L H σ Γ l) (hj : Γ[j]? = some (.val (.ref s))) (ha : EvA ta Γ ds) (hn : ds.length = n) (hp : Pre ds)
    (k : ∀ v d H', R ds d → Stt (some s) H0 L0 L H' σ Γ l → SameX L H H' → Dt (hide H' L) v d → Q v H') : tCall (spS n Pre R) [] E (tCons (tVar j) ta) σ H Q :=
  im_drawG S hj (fun Q kk => ha L σ H _ S.lv S.env kk) hn hp k
/-- how a def that draws begins -/
theorem Stt.start {s : Addr} {us : List V} {ds dsr : List Dat} {N : List Str} (lv : Live L H) (hs : s ∈ L) (h1 : SrcD dsr) (h2 : HoldL H L s dsr) (hd : DtAll (hide H L) us ds) :
    Stt (some s) H [s] L H (L2.start N (.ref s :: us)) (.val (.ref s) :: (ds.map Slot.dat ++ List.replicate (N.length - (ds.length + 1)) .no)) [] := by
  have hl := hd.len
  refine ⟨lv, ?_, hide_sub, fun a ha => .inl ha, fun x hx => absurd hx List.not_mem_nil, List.nodup_nil, fun t h => ?_⟩
  · have e0 := env_start (N := N.tail) hd
    refine ⟨by simp [L2.start, hl], fun i t ei => ?_⟩
    cases i with
    | zero =>
      cases ei
      exact ⟨some (.ref s), rfl, rfl⟩
    | succ i =>
      have ei' : (ds.map Slot.dat ++ List.replicate (N.length - (ds.length + 1)) .no)[i]? = some t := ei
      have g : gam N.tail ds = ds.map Slot.dat ++ List.replicate (N.length - (ds.length + 1)) .no := by
        unfold gam
        rw [List.length_tail, Nat.sub_sub, Nat.add_comm 1]
      rw [← g] at ei'
      obtain ⟨x, h5, h6⟩ := e0.2 i t ei'
      refine ⟨x, ?_, h6⟩
      rw [← h5]
      unfold L2.start
      rw [List.map_cons, List.cons_append, List.getElem?_cons_succ, List.length_cons, List.length_tail, Nat.sub_sub, Nat.add_comm 1]
  · cases h
    exact ⟨hs, List.not_mem_nil, dsr, h1, h2⟩
/-- how it ends -/
theorem Stt.but {s : Addr} (S : Stt (some s) H [s] L H' σ Γ l) : But s H H' := fun a o ha q => S.fr a o (by rw [hide_out fun z => ha (List.mem_singleton.mp z)]; exact q)
theorem DtAll.set {H : Hp} {v : V} {d : Dat} : ∀ {vs : List V} {ds : List Dat} (m : Nat), DtAll H vs ds → Dt H v d → DtAll H (vs.set m v) (ds.set m d)
  | _, _, _, .nil, _ => .nil
  | _, _, 0, .cons _ t, h => .cons h t
  | _, _, m + 1, .cons a t, h => .cons a (DtAll.set m t h)
/-- the same, the stream as one's own list -/
theorem Stt.startL {s : Addr} {us : List V} {ds dsr : List Dat} {N : List Str} (lv : Live L H) (hs : s ∈ L) (h2 : HoldL H L s dsr) (hd : DtAll (hide H L) us ds) :
    Stt none H [s] L H (L2.start N (.ref s :: us)) (.val (.ref s) :: (ds.map Slot.dat ++ List.replicate (N.length - (ds.length + 1)) .no)) [(s, dsr)] := by
  have hl := hd.len
  refine ⟨lv, ?_, hide_sub, fun a ha => .inl ha, fun x hx => ?_, ?_, fun t h => nomatch h⟩
  · have e0 := env_start (N := N.tail) hd
    refine ⟨by simp [L2.start, hl], fun i t ei => ?_⟩
    cases i with
    | zero =>
      cases ei
      exact ⟨some (.ref s), rfl, rfl⟩
    | succ i =>
      have ei' : (ds.map Slot.dat ++ List.replicate (N.length - (ds.length + 1)) .no)[i]? = some t := ei
      have g : gam N.tail ds = ds.map Slot.dat ++ List.replicate (N.length - (ds.length + 1)) .no := by
        unfold gam
        rw [List.length_tail, Nat.sub_sub, Nat.add_comm 1]
      rw [← g] at ei'
      obtain ⟨x, h5, h6⟩ := e0.2 i t ei'
      refine ⟨x, ?_, h6⟩
      rw [← h5]
      unfold L2.start
      rw [List.map_cons, List.cons_append, List.getElem?_cons_succ, List.length_cons, List.length_tail, Nat.sub_sub, Nat.add_comm 1]
  · rw [List.mem_singleton.mp hx]
    exact ⟨hs, h2⟩
  · exact List.nodup_cons.mpr ⟨List.not_mem_nil, List.nodup_nil⟩
/-- an int out of an expression that reads a list of one's own -/
theorem im_ev {i j : Nat} {te : TE} {a : Addr} {ds : List Dat} {n : Int} {Q : VK} (S : Stt so H0 L0 L H σ Γ l) (hj : l[j]? = some (a, ds)) (hi : Γ[i]? = some (.val (.ref a))) (h : EvG te (Γ.set i (.dat (.list ds))) (.int n))
    (k : ∀ H', Stt so H0 L0 L H' σ Γ l → Same H H' → Q (.int n) H') : te σ H Q := by
  obtain ⟨lv, env⟩ := S.view (List.mem_of_getElem? hj) hi
  exact h _ σ H Q lv env fun v H' e dv => by rw [dv.int_of]; exact k H' (S.same e) e
theorem im_tv {i j : Nat} {tt : TT} {a : Addr} {ds : List Dat} {b : Bool} {Q : Bool → Hp → Prop} (S : Stt so H0 L0 L H σ Γ l) (hj : l[j]? = some (a, ds)) (hi : Γ[i]? = some (.val (.ref a))) (h : EvT tt (Γ.set i (.dat (.list ds))) b)
    (k : ∀ H', Stt so H0 L0 L H' σ Γ l → Same H H' → Q b H') : tt σ H Q := by
  obtain ⟨lv, env⟩ := S.view (List.mem_of_getElem? hj) hi
  exact h _ σ H Q lv env fun H' e => k H' (S.same e) e
/-- x[m] = an int -/
theorem im_set {i j m : Nat} {te : TE} {a : Addr} {ds : List Dat} {n : Int} (S : Stt so H0 L0 L H σ Γ l) (hj : l[j]? = some (a, ds)) (hi : Γ[i]? = some (.val (.ref a))) (hm : m < ds.length) (h : EvG te (Γ.set i (.dat (.list ds))) (.int n))
    (k : ∀ H', Stt so H0 L0 L H' σ Γ (l.set j (a, ds.set m (.int n))) → D.nx σ H') : tAsg te (gSub (tVar i) (tC (.int (m : Int))) rSetL) D σ H :=
  im_ev S hj hi h fun H1 S1 e1 => by
    obtain ⟨h0, xs, h1, h2⟩ := S1.hold _ (List.mem_of_getElem? hj)
    refine ⟨.ref a, S1.env.val hi, a, xs, (m : Int), m, rfl, rfl, h1, ?_, k _ (S1.put hj (h2.set m (.int n)))⟩
    rw [show xs.length = ds.length from h2.len]
    unfold ixN
    rw [if_pos (by omega), if_pos (by omega), Int.toNat_natCast]
/-- the end of a def that draws -/
theorem Stt.done {s : Addr} {d : Dat} {v : V} {Q : VK} {R : Dat → Prop} (S : Stt (some s) H [s] L H' σ Γ l) (kQ : ∀ v d dsr' H', R d → SrcD dsr' → But s H H' → HoldL H' L s dsr' → Dt (hide H' L) v d → Q v H') (hR : R d) (dv : Dt (hide H' L) v d) : Q v H' := by
  obtain ⟨h1, h2, dsr, h3, h4⟩ := S.src s rfl
  exact kQ v d dsr H' hR h3 S.but h4 dv
theorem cut_lo' (ds : List Dat) (j : Nat) : cutD ds (some (j : Int)) none = ds.drop j := by
  unfold cutD
  rw [HT.sIx_nat, HT.sIx_none]
  by_cases h : j ≤ ds.length
  · rw [Nat.min_eq_left h, List.take_of_length_le (by rw [List.length_drop]; exact Nat.le_refl _)]
  · rw [Nat.min_eq_right (by omega), Nat.sub_self, List.take_zero, List.drop_eq_nil_of_le (by omega)]
theorem cut_hi' (ds : List Dat) (j : Nat) : cutD ds none (some (j : Int)) = ds.take j := by
  unfold cutD
  rw [HT.sIx_nat, HT.sIx_none, Nat.sub_zero, List.drop_zero]
  by_cases h : j ≤ ds.length
  · rw [Nat.min_eq_left h]
  · rw [Nat.min_eq_right (by omega), List.take_of_length_le (Nat.le_refl _), List.take_of_length_le (by omega)]
end
end Nr
set_option Elab.async false
set_option linter.all false
set_option maxRecDepth 100000
set_option maxHeartbeats 4000000
/-! The stream and what is drawn from it. -/
namespace Nr
open PySem PySem.Spec PyProof.Rows L2
section
variable {P : Program} {w : World} {K : PySem.W.Frag} {mg : Str → Option Value} {base : Heap}
abbrev sp_l_stream : Sp := spD 1 fun ds d => ∃ cells : List Int, ds = [.list (cells.map .int)] ∧ d = .list [.list (cells.map .int), .int 0, .int 0]
theorem cg_listL {ds : List Dat} : CallG (rLstK K) [.list ds] (.list ds) := fun L vs H Q lv dv k => by
  cases dv with
  | cons h t =>
    cases t
    obtain ⟨p, xs, rfl, h1, h2⟩ := h.lst_of
    refine ⟨p, xs, rfl, .inl (.of (hide_some h1).2), fun l hl => ?_⟩
    have e := same_new hl (.lst xs)
    exact k _ _ e (.lst (by rw [hide_out (live_new lv hl), upd_same]) (h2.mono (hide_same e)))
theorem ok_l_stream (Z : Zs mg) (D : Own K mg "_law_stream" "_law_stream" s_l_stream) : Cal P w K mg base "_law_stream" 1 pp_l_stream sp_l_stream := by
  refine calD D sc_l_stream rfl (fun _ _ _ _ _ _ us hl => match us, hl with | [_], _ => rfl) (fun f cdv A outer s H E hr => ⟨_, (pss_one (ps_ret (pe_lst (pa_cons (pe_callTy (kx_list (K := K)) (by rfl) Z.z_list PyProof.Rows.boot_list (pa_cons (pv 0) pa_nil)) (pa_cons pe_int (pa_cons pe_int pa_nil)))))), fun ds d hR => ?body⟩)
  obtain ⟨cells, rfl, rfl⟩ := hR
  exact .ret (Γ' := []) (st_ret (ev_lst (ea_cons (ev_cb (ea_cons (ev_var rfl) ea_nil) cg_listL) (ea_cons (ev_int 0) (ea_cons (ev_int 0) ea_nil))) (Nat.le_of_ble_eq_true rfl)))
abbrev sp_l_next : Sp := spS 1 (fun ds => ∃ m : Int, ds = [.int m] ∧ 0 < m ∧ m < 1073741824) (fun ds d => ∃ m i : Int, ds = [.int m] ∧ d = .int i ∧ 0 ≤ i ∧ i < m)
theorem ev_mul {Γ : Gam} {ta : TE} {i j : Int} (ha : EvG ta Γ (.int i)) (hj : -(2 ^ 64) < j ∧ j < 2 ^ 64) : EvG (tOp (rI CMul fun i j => .int (i * j)) ta (tC (.int j))) Γ (.int (i * j)) := ev_op ha (ev_int j) (og_IC (.inr hj))
theorem ev_mod {Γ : Gam} {ta : TE} {i j : Int} (ha : EvG ta Γ (.int i)) (hj : 0 < j) : EvG (tOp (rI (fun _ j => 0 < j) fun i j => .int (i % j)) ta (tC (.int j))) Γ (.int (i % j)) := ev_op ha (ev_int j) (og_IC hj)
def rInt1 : List V → Hp → VK → Prop := fun xs H Q => (∃ i, xs = [.int i] ∧ Q (.int i) H) ∨ ∃ k, xs = [.bl k] ∧ Q (.int (if k then 1 else 0)) H
abbrev rMod : R2 := rI (fun _ j => 0 < j) fun i j => .int (i % j)
abbrev rMul : R2 := rI CMul fun i j => .int (i * j)
abbrev rAdd : R2 := rI0 fun i j => .int (i + j)
abbrev tS (K : PySem.W.Frag) (j : Int) : TE := tOp (rIxL K) (tVar 0) (tC (.int j))
theorem next_tail {D : Ends} {H H' : Hp} {L : List Addr} {s' : Addr} {σ' : L2.St} {cells : List Int} {c' k' m : Int} (hm1 : 0 < m) (hm2 : m < 1073741824) (hk' : 0 ≤ k') (S' : Stt none H [s'] L H' σ' [.val (.ref s'), .dat (.int m), .no, .no, .no] [(s', [.list (cells.map .int), .int c', .int k'])])
    (kQ : ∀ v d dsr' H', (∃ i : Int, d = .int i ∧ 0 ≤ i ∧ i < m) → SrcD dsr' → But s' H H' → HoldL H' L s' dsr' → Dt (hide H' L) v d → D.rt v H') :
    tSeq (tAsg (tOp rMod (tCB rInt1 (tCons (tS K 1) tNil)) (tVar 1)) (gName 4)) (tSeq (tAsg (tOp (rI CDiv fun i j => .int (i / j)) (tS K 1) (tVar 1)) (gSub (tVar 0) (tC (.int 1)) rSetL)) (tRet (tVar 4))) D σ' H' :=
  im_ev (j := 0) (i := 0) S' rfl rfl (ev_op (ev_cb (ea_cons (ev_ixL 1 (ev_var rfl) (ev_int 1)) ea_nil) cg_intI) (ev_var rfl) (og_IC hm1)) fun H1 S1 _ =>
    im_set (j := 0) (i := 0) (m := 1) (S1.setD (i := 4) (.int _)) rfl rfl (Nat.le_of_ble_eq_true rfl) (ev_op (ev_ixL 1 (ev_var rfl) (ev_int 1)) (ev_var rfl) (og_IC ⟨hm1, hm2⟩)) fun H2 S2 =>
      im_e S2 (ev_var rfl) fun v H3 S3 _ dv => kQ v _ _ H3 ⟨c' % m, rfl, Int.emod_nonneg _ (by omega), Int.emod_lt_of_pos _ hm1⟩ ⟨cells, c' / m, k', rfl, hk'⟩ (fun a o ha q => S3.fr a o (by rw [hide_out fun z => ha (List.mem_singleton.mp z)]; exact q)) (S3.hold _ (List.mem_singleton_self _)).2 dv
/-- the two stores -/
theorem next_put {D : Ends} {H H' : Hp} {L : List Addr} {s' : Addr} {σ' : L2.St} {cells : List Int} {c c' k m : Int} (S' : Stt none H [s'] L H' σ' [.val (.ref s'), .dat (.int m), .dat (.int k), .dat (.int c'), .no] [(s', [.list (cells.map .int), .int c, .int k])])
    (kQ : ∀ σ2 H2, Stt none H [s'] L H2 σ2 [.val (.ref s'), .dat (.int m), .no, .no, .no] [(s', [.list (cells.map .int), .int c', .int (k + 1)])] → D.nx σ2 H2) :
    tSeq (tAsg (tVar 3) (gSub (tVar 0) (tC (.int 1)) rSetL)) (tAsg (tOp rAdd (tVar 2) (tC (.int 1))) (gSub (tVar 0) (tC (.int 2)) rSetL)) D σ' H' :=
  im_set (j := 0) (i := 0) (m := 1) S' rfl rfl (Nat.le_of_ble_eq_true rfl) (ev_var rfl) fun H2 S2 =>
    im_set (j := 0) (i := 0) (m := 2) S2 rfl rfl (Nat.le_of_ble_eq_true rfl) (ev_addI (ev_var rfl) (ev_int 1)) fun H3 S3 => kQ _ _ (S3.blank [2, 3])
theorem ok_l_next (Z : Zs mg) (D : Own K mg "_law_next" "_law_next" s_l_next) : Cal P w K mg base "_law_next" 1 pp_l_next sp_l_next := by
  refine calS D sc_l_next ?hl (fun _ _ _ _ _ _ us hl => match us, hl with | [_, _], _ => rfl) (fun f cdv A outer s H vs Q E hr h => ⟨_, (pss_cons (ps_if (pt_cmpR op_eq (pe_ix (kx_ixL (K := K)) (pv 0) pe_int (fun _ _ => rfl)) pe_int (nomark _)) (pss_cons (ps_set (i := 2) sc_l_next.nd rfl (.inl rfl) (pe_ix (kx_ixL (K := K)) (pv 0) pe_int (fun _ _ => rfl))) (pss_cons (ps_set (i := 3) sc_l_next.nd rfl (.inl rfl) (pe_op op_add pe_int (pv 2))) (pss_cons (ps_if (pt_cmpR op_lt (pv 2) (pe_callB (kx_len (K := K)) (by rfl) Z.z_len PySem.boot_len (pa_cons (pe_ix (kx_ixL (K := K)) (pv 0) pe_int (fun _ _ => rfl)) pa_nil)) (nomark _)) (pss_one (ps_set (i := 3) sc_l_next.nd rfl (.inl rfl) (pe_callB call_abs (by rfl) Z.z_abs PyProof.Rows.boot_abs (pa_cons (pe_ix (kx_ixL (K := K)) (pe_ix (kx_ixL (K := K)) (pv 0) pe_int (fun _ _ => rfl)) (pv 2) (fun _ _ => rfl)) pa_nil)))) pss_nil) (pss_cons (ps_if (pt_cmpR op_lt (pv 3) (pe_op op_pow pe_int pe_int) (nomark _)) (pss_cons (ps_set (i := 3) sc_l_next.nd rfl (.inl rfl) (pe_op op_mod (pe_callTy call_int1 (by rfl) Z.z_int PyProof.Rows.boot_int (pa_cons (pe_op op_add (pe_op op_add (pe_op op_mul (pv 3) pe_int) (pe_op op_mul (pv 2) pe_int)) pe_int) pa_nil)) pe_int)) (pss_one (ps_set (i := 3) sc_l_next.nd rfl (.inl rfl) (pe_op op_add (pe_op op_mul (pe_op op_mod (pe_callTy call_int1 (by rfl) Z.z_int PyProof.Rows.boot_int (pa_cons (pe_op op_add (pe_op op_mul (pv 3) pe_int) pe_int) pa_nil)) pe_int) pe_int) (pv 3))))) pss_nil) (pss_cons (ps_asg (pv 3) (pg_sub (pv 0) pe_int set_list)) (pss_one (ps_asg (pe_op op_add (pv 2) pe_int) (pg_sub (pv 0) pe_int set_list)))))))) pss_nil) (pss_cons (ps_set (i := 4) sc_l_next.nd rfl (.inl rfl) (pe_op op_mod (pe_callTy call_int1 (by rfl) Z.z_int PyProof.Rows.boot_int (pa_cons (pe_ix (kx_ixL (K := K)) (pv 0) pe_int (fun _ _ => rfl)) pa_nil)) (pv 1))) (pss_cons (ps_asg (pe_op op_fdiv (pe_ix (kx_ixL (K := K)) (pv 0) pe_int (fun _ _ => rfl)) (pv 1)) (pg_sub (pv 0) pe_int set_list)) (pss_one (ps_ret (pv 4)))))), ?body⟩)
  case hl => exact spS_len
  case body =>
    obtain ⟨L, s', us, ds, dsr, rfl, hn, lv, hs, ⟨cells, cell, k, rfl, hk⟩, hh, hd, ⟨m, rfl, hm1, hm2⟩, kQ⟩ := h
    have S := Stt.startL (N := nm_l_next) lv hs hh hd
    have kT : ∀ v d dsr' H', (∃ i : Int, d = .int i ∧ 0 ≤ i ∧ i < m) → SrcD dsr' → But s' H H' → HoldL H' L s' dsr' → Dt (hide H' L) v d → Q v H' := fun v d dsr' H' ⟨i, e1, e2, e3⟩ h1 h2 h3 h4 => kQ v d dsr' H' ⟨m, i, rfl, e1, e2, e3⟩ h1 h2 h3 h4
    refine im_tv (j := 0) (i := 0) (b := decide (cell = 0)) S rfl rfl (et_test (ev_op (ev_ixL 1 (ev_var rfl) (ev_int 1)) (ev_int 0) og_eqI)) fun H1 S1 _ => ?_
    by_cases hc : cell = 0
    · rw [decide_eq_true hc, if_pos rfl]
      refine im_ev (j := 0) (i := 0) S1 rfl rfl (ev_ixL 2 (ev_var rfl) (ev_int 2)) fun H2 S2 _ => ?_
      show tSeq _ _ _ _ _
      refine im_s (ts := tAsg _ _) (S2.setD (i := 2) (.int k)) (st_asg (ev_addI (ev_int 7) (ev_var rfl))) fun σ3 H3 S3 _ => ?_
      show tSeq _ _ _ _ _
      refine im_tv (j := 0) (i := 0) (b := decide (k < (cells.length : Int))) S3 rfl rfl (et_test (ev_op (ev_var rfl) (EvG.is (ev_lenL (ev_ixL 0 (ev_var rfl) (ev_int 0))) (by rw [List.length_map])) og_IB)) fun H4 S4 _ => ?_
      have mid : ∀ c3 σ5 H5, Stt none H [s'] L H5 σ5 [.val (.ref s'), .dat (.int m), .dat (.int k), .dat (.int c3), .no] [(s', [.list (cells.map .int), .int cell, .int k])] →
          tSeq (tIfS (tTest (tOp (rI0 fun i j => .bl (decide (i < j))) (tVar 3) (tOp (rI CPow fun i j => .int (i ^ j.toNat)) (tC (.int 10)) (tC (.int 18))))) (tSeq (tAsg (tOp rMod (tCB rInt1 (tCons (tOp rAdd (tOp rAdd (tOp rMul (tVar 3) (tC (.int 48271))) (tOp rMul (tVar 2) (tC (.int 69621)))) (tC (.int 11))) tNil)) (tC (.int 2147483647))) (gName 3))
            (tAsg (tOp rAdd (tOp rMul (tOp rMod (tCB rInt1 (tCons (tOp rAdd (tOp rMul (tVar 3) (tC (.int 16807))) (tC (.int 13))) tNil)) (tC (.int 2147483647))) (tC (.int 65537))) (tVar 3)) (gName 3))) tNext)
            (tSeq (tAsg (tVar 3) (gSub (tVar 0) (tC (.int 1)) rSetL)) (tAsg (tOp rAdd (tVar 2) (tC (.int 1))) (gSub (tVar 0) (tC (.int 2)) rSetL)))
            { nx := tSeq (tAsg (tOp rMod (tCB rInt1 (tCons (tS K 1) tNil)) (tVar 1)) (gName 4)) (tSeq (tAsg (tOp (rI CDiv fun i j => .int (i / j)) (tS K 1) (tVar 1)) (gSub (tVar 0) (tC (.int 1)) rSetL)) (tRet (tVar 4))) { nx := fun _ H' => Q .non H', rt := Q }, rt := Q } σ5 H5 := by
        intro c3 σ5 H5 S5
        refine im_t (b := decide (c3 < 10 ^ (18 : Int).toNat)) S5 (et_test (ev_op (ev_var rfl) (ev_op (ev_int 10) (ev_int 18) (og_IC (f := fun i j => i ^ j.toNat) ⟨by decide, by decide, by decide⟩)) og_IB)) fun H6 S6 _ => ?_
        by_cases hz : c3 < 10 ^ (18 : Int).toNat
        · rw [decide_eq_true hz, if_pos rfl]
          refine im_s S6 (st_seq (st_asg (ev_mod (ev_cb (ea_cons (ev_addI (ev_addI (ev_mul (ev_var rfl) ⟨by decide, by decide⟩) (ev_mul (ev_var rfl) ⟨by decide, by decide⟩)) (ev_int 11)) ea_nil) cg_intI) (by decide))) (st_asg (ev_addI (ev_mul (ev_mod (ev_cb (ea_cons (ev_addI (ev_mul (ev_var rfl) ⟨by decide, by decide⟩) (ev_int 13)) ea_nil) cg_intI) (by decide)) ⟨by decide, by decide⟩) (ev_var rfl)))) fun σ7 H7 S7 _ => ?_
          exact next_put S7 fun σ8 H8 S8 => next_tail hm1 hm2 (by omega) S8 kT
        · rw [decide_eq_false hz, if_neg (by decide)]
          exact next_put S6 fun σ8 H8 S8 => next_tail hm1 hm2 (by omega) S8 kT
      by_cases hl : k < (cells.length : Int)
      · rw [decide_eq_true hl, if_pos rfl]
        have hg : (cells.map Dat.int)[k.toNat]? = some (.int cells[k.toNat]) := by rw [List.getElem?_map, List.getElem?_eq_getElem (by omega)]; rfl
        refine im_ev (j := 0) (i := 0) S4 rfl rfl (ev_cb (ea_cons (ev_ixL k.toNat (ev_ixL 0 (ev_var rfl) (ev_int 0)) (by rw [Int.toNat_of_nonneg hk]; exact ev_var rfl) hg) ea_nil) cg_abs) fun H5 S5 _ => ?_
        exact mid _ _ _ (S5.setD (i := 3) (.int _))
      · rw [decide_eq_false hl, if_neg (by decide)]
        exact mid _ _ _ S4
    · rw [decide_eq_false hc, if_neg (by decide)]
      exact next_tail hm1 hm2 hk S1 kT
end
end Nr
set_option Elab.async false
set_option linter.all false
set_option maxRecDepth 100000
set_option maxHeartbeats 4000000
/-! Widths, orders, lists that are drawn. -/
namespace Nr
open PySem PySem.Spec PyProof.Rows L2
section
variable {P : Program} {w : World} {K : PySem.W.Frag} {mg : Str → Option Value} {base : Heap}
def wsets : List (List Int) := [[4], [6], [3, 3], [8], [2, 4], [2, 2, 2]]
theorem wsets_ok : ∀ ws ∈ wsets, WsOk ws := by
  intro ws h
  simp only [wsets, List.mem_cons, List.not_mem_nil, or_false] at h
  rcases h with rfl | rfl | rfl | rfl | rfl | rfl <;> refine ⟨by decide, by decide, fun w hw => ?_⟩ <;> simp at hw <;> omega
abbrev sp_l_widths : Sp := spS 0 (fun _ => True) fun ds d => ∃ ws, WsOk ws ∧ d = encI ws
theorem ok_l_widths (Z : Zs mg) (D : Own K mg "_law_widths" "_law_widths" s_l_widths) (C_l_next : Cal P w K mg base "_law_next" 1 pp_l_next sp_l_next) : Cal P w K mg base "_law_widths" 2 pp_l_widths sp_l_widths := by
  refine calS D sc_l_widths ?hl (fun _ _ _ _ _ _ us hl => match us, hl with | [_], _ => rfl) (fun f cdv A outer s H vs Q E hr h => ⟨_, (pss_one (ps_ret (pe_ix (kx_ixL (K := K)) (pe_lst (pa_cons (pe_tup (pa_cons pe_int pa_nil)) (pa_cons (pe_tup (pa_cons pe_int pa_nil)) (pa_cons (pe_tup (pa_cons pe_int (pa_cons pe_int pa_nil))) (pa_cons (pe_tup (pa_cons pe_int pa_nil)) (pa_cons (pe_tup (pa_cons pe_int (pa_cons pe_int pa_nil))) (pa_cons (pe_tup (pa_cons pe_int (pa_cons pe_int (pa_cons pe_int pa_nil)))) pa_nil))))))) (pe_cal C_l_next hr (by decide) (by rfl) (pa_cons (pv 0) (pa_cons pe_int pa_nil))) (fun _ _ => rfl)))), ?body⟩)
  case hl => exact spS_len
  case body =>
    obtain ⟨L, s', us, ds, dsr, rfl, hn, lv, hs, hsr, hh, hd, _, kQ⟩ := h
    obtain rfl := List.length_eq_zero_iff.mp hn
    have S := Stt.start (N := nm_l_widths) lv hs hsr hh hd
    refine im_ret (im_op (im_e S (EvG.is (d' := .list (wsets.map encI)) (ev_lst (ea_cons (ev_tup (ea_cons (ev_int 4) ea_nil) (Nat.le_of_ble_eq_true rfl)) (ea_cons (ev_tup (ea_cons (ev_int 6) ea_nil) (Nat.le_of_ble_eq_true rfl)) (ea_cons (ev_tup (ea_cons (ev_int 3) (ea_cons (ev_int 3) ea_nil)) (Nat.le_of_ble_eq_true rfl)) (ea_cons (ev_tup (ea_cons (ev_int 8) ea_nil) (Nat.le_of_ble_eq_true rfl)) (ea_cons (ev_tup (ea_cons (ev_int 2) (ea_cons (ev_int 4) ea_nil)) (Nat.le_of_ble_eq_true rfl)) (ea_cons (ev_tup (ea_cons (ev_int 2) (ea_cons (ev_int 2) (ea_cons (ev_int 2) ea_nil))) (Nat.le_of_ble_eq_true rfl)) ea_nil)))))) (Nat.le_of_ble_eq_true rfl)) rfl) fun v1 H1 S1 _ dv1 => ?_))
    refine im_draw (j := 0) S1 rfl (ea_cons (ev_int 6) ea_nil) rfl ⟨6, rfl, by decide, by decide⟩ fun v2 d2 H2 hR S2 hx dv2 => ?_
    obtain ⟨m, i, em, rfl, hi1, hi2⟩ := hR
    cases em
    have hl : i.toNat < wsets.length := by show i.toNat < 6; omega
    refine og_ixL (i := i) (j := i.toNat) (d := encI wsets[i.toNat]) (by omega) (by rw [List.getElem?_map, List.getElem?_eq_getElem hl]; rfl) L v1 v2 H2 _ S2.lv (dv1.mono hx) dv2 fun v3 H3 e3 dv3 => ?_
    exact (S2.same e3).done kQ ⟨_, wsets_ok _ (List.getElem_mem hl), rfl⟩ dv3
theorem erase_map {α β : Type} (f : α → β) : ∀ (l : List α) (i : Nat), (l.map f).eraseIdx i = (l.eraseIdx i).map f
  | [], _ => rfl
  | _ :: _, 0 => rfl
  | a :: l, i + 1 => by
    show f a :: (l.map f).eraseIdx i = f a :: (l.eraseIdx i).map f
    rw [erase_map f l i]
/-! an order of the rules -/
abbrev sp_l_shuffled : Sp := spS 1 (fun ds => ∃ n : Nat, ds = [.int (n : Int)] ∧ n ≤ 1000) fun ds d => ∃ (n : Nat) (row : List Int), ds = [.int (n : Int)] ∧ d = encI row ∧ row.length = n ∧ ∀ x ∈ row, 0 ≤ x ∧ x < (n : Int)
theorem ok_l_shuffled (Z : Zs mg) (D : Own K mg "_law_shuffled" "_law_shuffled" s_l_shuffled) (C_l_next : Cal P w K mg base "_law_next" 1 pp_l_next sp_l_next) : Cal P w K mg base "_law_shuffled" 2 pp_l_shuffled sp_l_shuffled := by
  refine calS D sc_l_shuffled ?hl (fun _ _ _ _ _ _ us hl => match us, hl with | [_, _], _ => rfl) (fun f cdv A outer s H vs Q E hr h => ⟨_, (pss_cons (ps_set (i := 2) sc_l_shuffled.nd rfl (.inl rfl) (pe_listRg rfl (by rfl) Z.z_list (prg_1 (by rfl) Z.z_range (pv 1)))) (pss_cons (ps_set (i := 3) sc_l_shuffled.nd rfl (.inl rfl) (pe_lst pa_nil)) (pss_cons (ps_for PassesOwn.never rfl (pi_range1 (by rfl) Z.z_range (pa_cons (pv 1) pa_nil)) (pg_name (i := 4) sc_l_shuffled.nd rfl (.inl rfl)) (pss_one (ps_expr (pe_bm PySem.F.plainAttrs_list PySem.F.slot_list_append PySem.F.type_list_append mt_append (pv 3) (pa_cons (pe_bm PySem.F.plainAttrs_list PySem.F.slot_list_pop PySem.F.type_list_pop mt_popAt (pv 2) (pa_cons (pe_cal C_l_next hr (by decide) (by rfl) (pa_cons (pv 0) (pa_cons (pe_callB (kx_len (K := K)) (by rfl) Z.z_len PySem.boot_len (pa_cons (pv 2) pa_nil)) pa_nil))) pa_nil)) pa_nil))))) (pss_one (ps_ret (pe_callTy (kx_tuple (K := K)) (by rfl) Z.z_tuple PyProof.Rows.boot_tuple (pa_cons (pv 3) pa_nil))))))), ?body⟩)
  case hl => exact spS_len
  case body =>
    obtain ⟨L, s', us, ds, dsr, rfl, hn, lv, hs, hsr, hh, hd, ⟨n, rfl, hz⟩, kQ⟩ := h
    have S := Stt.start (N := nm_l_shuffled) lv hs hsr hh hd
    refine im_lst (i := 2) (ds := (rg n).map .int) S (fun Q kk => ?_) fun pl xs H1 hpl hsl S1 => ?_
    · refine S.env.dat (i := 1) rfl |>.elim fun v hv => ⟨v, hv.1, (n : Int), hv.2.int_of, RgOk.of_le (by omega) (by omega) (by omega) (by omega), fun q hq => kk q (rgV 0 (n : Int)) H (Same.refl H) hq ?_⟩
      rw [ints_rg]
      exact ints_dt _
    show tSeq _ _ _ _ _
    refine im_nil (i := 3) S1 fun pf hpf hsf S2 => ?_
    show tSeq _ _ _ _ _
    refine im_for (items := List.range n) (enc := fun i : Nat => Dat.int (i : Int)) S2 (wg_rngN (ev_var rfl) (by omega)) (fun i Γ' l' => ∃ left found : List Int, left.length + i = n ∧ found.length = i ∧ (∀ x ∈ left, 0 ≤ x ∧ x < (n : Int)) ∧ (∀ x ∈ found, 0 ≤ x ∧ x < (n : Int)) ∧
        Γ' = [.val (.ref s'), .dat (.int (n : Int)), .val (.ref pl), .val (.ref pf), .no] ∧ l' = [(pf, found.map .int), (pl, left.map .int)]) ⟨rg n, [], by rw [rg_len]; rfl, rfl, fun x hx => mem_rg.mp hx, fun x hx => absurd hx List.not_mem_nil, rfl, rfl⟩
      (fun i Γ' l' ⟨_, _, _, _, _, _, _, e⟩ => by rw [e]; rfl) (fun i x Γ' l' Hb σ' H' v hx ⟨left, found, h1, h2, h3, h4, eΓ, el⟩ T dv => ?_) fun Γ' l' σ' H' ⟨left, found, h1, h2, h3, h4, eΓ, el⟩ T => ?_
    · have hi : i < n := by have := (List.getElem?_eq_some_iff.mp hx).1; rwa [List.length_range] at this
      subst eΓ el
      have T1 := T.setD (i := 4) dv
      refine im_append (i := 3) (j := 0) (fun d l2 => ∃ (m : Nat) (y : Int), left[m]? = some y ∧ d = .int y ∧ l2 = [(pf, found.map .int), (pl, (left.eraseIdx m).map .int)]) T1 rfl rfl (by rw [List.length_map]; omega) (fun Q kk => ?_) fun d l2 H1 ⟨m, y, hy, ed, el⟩ S3 => ?_
      · obtain ⟨hl0, ys, hl1, hl2⟩ := T1.hold (pl, left.map .int) (List.mem_cons_of_mem _ List.mem_cons_self)
        refine ⟨.ref pl, T1.env.val rfl, .inl ⟨rfl, ys, .of hl1⟩, ?_⟩
        refine im_drawG (j := 0) (ds := [.int (left.length : Int)]) T1 rfl (fun Q2 k2 => ?_) rfl ⟨(left.length : Int), rfl, by omega, by omega⟩ fun v2 d2 H2 hR S2 hx2 dv2 => ?_
        · refine im_ev (i := 2) (j := 1) T1 rfl rfl (EvG.is (ev_lenL (ev_var rfl)) (by rw [List.length_map])) fun H3 S3 e3 => k2 [_] H3 e3 (.one (.int _))
        obtain ⟨m, i2, em, rfl, hi1, hi2⟩ := hR
        cases em
        have hm : i2.toNat < left.length := by omega
        obtain rfl := dv2.int_of
        have ei : i2 = ((i2.toNat : Nat) : Int) := by omega
        rw [ei]
        refine im_pop (i := 2) (j := 1) (d := .int left[i2.toNat]) T1 rfl rfl (by rw [List.getElem?_map, List.getElem?_eq_getElem hm]; rfl) (by rw [List.length_map]; omega) S2 fun v3 H3 S3 dv3 => ?_
        refine kk v3 _ _ H3 ⟨i2.toNat, left[i2.toNat], List.getElem?_eq_getElem hm, rfl, ?_⟩ rfl S3 dv3
        show [(pf, found.map Dat.int), (pl, (left.map Dat.int).eraseIdx i2.toNat)] = _
        rw [erase_map]
      · subst ed el
        have hm : m < left.length := (List.getElem?_eq_some_iff.mp hy).1
        refine ⟨_, _, ⟨left.eraseIdx m, found ++ [y], ?_, ?_, fun x hx => h3 x (List.mem_of_mem_eraseIdx hx), fun x hx => ?_, rfl, ?_⟩, S3.blank [4]⟩
        · rw [List.length_eraseIdx_of_lt hm]; omega
        · rw [List.length_append, h2]; rfl
        · rcases List.mem_append.mp hx with hx | hx
          · exact h4 x hx
          · rw [List.mem_singleton.mp hx]; exact h3 y (List.mem_of_getElem? hy)
        · rw [List.map_append]; rfl
    · rw [List.length_range] at h1 h2
      subst eΓ el
      have T1 := T.let_ hpf hsf (i := 3) rfl
      refine im_e (T1.let_ hpl hsl (i := 2) rfl) (ev_tupleL (ev_var rfl)) fun v H3 S3 _ dv => ?_
      exact S3.done kQ ⟨n, found, rfl, rfl, h2, h4⟩ dv
/-! a list of rules -/
abbrev sp_l_list : Sp := spS 3 (fun ds => ∃ (ws : List Int) (lo hi : Int), ds = [encI ws, .int lo, .int hi] ∧ WsOk ws ∧ 0 ≤ lo ∧ lo ≤ hi ∧ hi ≤ 5) fun _ d => ∃ L : Lst, d = encL L ∧ LOk L ∧ L.rules.length ≤ 5
theorem ok_l_list (Z : Zs mg) (D : Own K mg "_law_list" "_law_list" s_l_list) (C_l_next : Cal P w K mg base "_law_next" 1 pp_l_next sp_l_next) : Cal P w K mg base "_law_list" 2 pp_l_list sp_l_list := by
  refine calS D sc_l_list ?hl (fun _ _ _ _ _ _ us hl => match us, hl with | [_, _, _, _], _ => rfl) (fun f cdv A outer s H vs Q E hr h => ⟨_, (pss_cons (ps_set (i := 4) sc_l_list.nd rfl (.inl rfl) (pe_lst pa_nil)) (pss_cons (ps_for PassesOwn.never rfl (pi_range1 (by rfl) Z.z_range (pa_cons (pe_op op_add (pv 2) (pe_cal C_l_next hr (by decide) (by rfl) (pa_cons (pv 0) (pa_cons (pe_op op_add (pe_op op_sub (pv 3) (pv 2)) pe_int) pa_nil)))) pa_nil)) (pg_name (i := 5) sc_l_list.nd rfl (.inl rfl)) (pss_cons (ps_set (i := 6) sc_l_list.nd rfl (.inl rfl) (pe_lst pa_nil)) (pss_cons (ps_for PassesOwn.never rfl (kx_piT (K := K) (pv 1)) (pg_name (i := 7) sc_l_list.nd rfl (.inl rfl)) (pss_cons (ps_set (i := 8) sc_l_list.nd rfl (.inl rfl) (pe_cal C_l_next hr (by decide) (by rfl) (pa_cons (pv 0) (pa_cons (pv 7) pa_nil)))) (pss_cons (ps_set (i := 9) sc_l_list.nd rfl (.inl rfl) (pe_cal C_l_next hr (by decide) (by rfl) (pa_cons (pv 0) (pa_cons (pv 7) pa_nil)))) (pss_one (ps_expr (pe_bm PySem.F.plainAttrs_list PySem.F.slot_list_append PySem.F.type_list_append mt_append (pv 6) (pa_cons (pe_tup (pa_cons (pe_callB (call_min2 rfl) (by rfl) Z.z_min PyProof.Rows.boot_min (pa_cons (pv 8) (pa_cons (pv 9) pa_nil))) (pa_cons (pe_callB (call_max2 rfl) (by rfl) Z.z_max PyProof.Rows.boot_max (pa_cons (pv 8) (pa_cons (pv 9) pa_nil))) pa_nil))) pa_nil))))))) (pss_one (ps_expr (pe_bm PySem.F.plainAttrs_list PySem.F.slot_list_append PySem.F.type_list_append mt_append (pv 4) (pa_cons (pe_tup (pa_cons (pe_cal C_l_next hr (by decide) (by rfl) (pa_cons (pv 0) (pa_cons pe_int pa_nil))) (pa_cons (pe_callTy (kx_tuple (K := K)) (by rfl) Z.z_tuple PyProof.Rows.boot_tuple (pa_cons (pv 6) pa_nil)) pa_nil))) pa_nil))))))) (pss_one (ps_ret (pe_tup (pa_cons (pv 1) (pa_cons (pe_callTy (kx_tuple (K := K)) (by rfl) Z.z_tuple PyProof.Rows.boot_tuple (pa_cons (pv 4) pa_nil)) (pa_cons (pe_cal C_l_next hr (by decide) (by rfl) (pa_cons (pv 0) (pa_cons pe_int pa_nil))) pa_nil)))))))), ?body⟩)
  case hl => exact spS_len
  case body =>
    obtain ⟨L, s', us, ds, dsr, rfl, hn, lv, hs, hsr, hh, hd, ⟨ws, lo, hi, rfl, hw, hlo, hlh, hhi⟩, kQ⟩ := h
    have S := Stt.start (N := nm_l_list) lv hs hsr hh hd
    refine im_seq (im_nil (i := 4) S fun p hp hsp S1 => im_seq ?_)
    refine im_forR (fun n => n ≤ 5) S1 (fun Q kk => im_op (im_e S1 (ev_var (i := 2) rfl) fun v2 H2 S2 _ dv2 => im_draw (j := 0) S2 rfl (ea_cons (ev_addI (ev_subI (ev_var rfl) (ev_var rfl)) (ev_int 1)) ea_nil) rfl ⟨hi - lo + 1, rfl, by omega, by omega⟩ fun v3 d3 H3 ⟨m, i, em, ed, h1, h2⟩ S3 hx dv3 => ?_))
      (fun n i Γ' l' => ∃ rules : List (Int × List (Int × Int)), rules.length = i ∧ (∀ r ∈ rules, RuleOk ws r) ∧ Γ' = [.val (.ref s'), .dat (encI ws), .dat (.int lo), .dat (.int hi), .val (.ref p), .no, .no, .no, .no, .no] ∧ l' = [(p, rules.map encRule)]) (fun n hn => ⟨[], rfl, fun r hr => absurd hr List.not_mem_nil, rfl, rfl⟩) (fun n i Γ' l' ⟨_, _, _, _, e⟩ => by rw [e]; rfl)
      (fun n i Γ' l' Hb σ' H' v hi5 hn5 ⟨rules, hr1, hr2, eΓ, el⟩ T dv => ?_) fun n Γ' l' σ' H' hn5 ⟨rules, hr1, hr2, eΓ, el⟩ T => ?_
    · subst ed
      cases em
      obtain rfl := dv3.int_of
      obtain rfl := dv2.int_of
      refine ⟨lo, i, rfl, rfl, ?_⟩
      have e : lo + i = ((lo + i).toNat : Int) := by omega
      show Q (.int (lo + i)) H3
      rw [e]
      exact kk (lo + i).toNat H3 (by omega) (by omega) S3
    · subst eΓ el
      have T1 := T.setD (i := 5) dv
      refine im_seq (im_nil (i := 6) T1 fun p2 hp2 hsp2 S2 => im_seq ?_)
      refine im_for (items := ws) (enc := Dat.int) S2 (wg_tup (ev_var rfl)) (fun j Γ' l' => ∃ rs : List (Int × Int), rs.length = j ∧ (∀ (q : Nat) (g : Int × Int) (x : Int), rs[q]? = some g → ws[q]? = some x → 0 ≤ g.1 ∧ g.1 ≤ g.2 ∧ g.2 ≤ x - 1) ∧
          Γ' = [.val (.ref s'), .dat (encI ws), .dat (.int lo), .dat (.int hi), .val (.ref p), .dat (.int (i : Int)), .val (.ref p2), .no, .no, .no] ∧ l' = [(p2, rs.map encR), (p, rules.map encRule)]) ⟨[], rfl, fun q g x h => by simp at h, rfl, rfl⟩ (fun j Γ' l' ⟨_, _, _, _, e⟩ => by rw [e]; rfl)
        (fun j x Γ' l' Hc σ2 H2 v2 hx ⟨rs, h1, h2, eΓ, el⟩ U dv2 => ?_) fun Γ' l' σ2 H2 ⟨rs, h1, h2, eΓ, el⟩ U => ?_
      · subst eΓ el
        have hj : j < ws.length := (List.getElem?_eq_some_iff.mp hx).1
        have hw8 := hw.2.2 x (List.mem_of_getElem? hx)
        have hw3 := hw.2.1
        refine im_seq (im_asg (im_draw (j := 0) (U.setD (i := 7) dv2) rfl (ea_cons (ev_var rfl) ea_nil) rfl ⟨x, rfl, by omega, by omega⟩ fun v4 d4 H4 ⟨m4, a, em4, ed4, a1, a2⟩ U4 _ dv4 => ?_))
        subst ed4
        cases em4
        refine im_seq (im_asg (im_draw (j := 0) (U4.setD (i := 8) dv4) rfl (ea_cons (ev_var rfl) ea_nil) rfl ⟨x, rfl, by omega, by omega⟩ fun v5 d5 H5 ⟨m5, b, em5, ed5, b1, b2⟩ U5 _ dv5 => ?_))
        subst ed5
        cases em5
        refine im_app (i := 6) (j := 0) (d := encR (if b < a then b else a, if b > a then b else a)) (U5.setD (i := 9) dv5) rfl rfl (by rw [List.length_map]; omega) (ev_tup (ea_cons (ev_cb (ea_cons (ev_var rfl) (ea_cons (ev_var rfl) ea_nil)) cg_min) (ea_cons (ev_cb (ea_cons (ev_var rfl) (ea_cons (ev_var rfl) ea_nil)) cg_max) ea_nil)) (Nat.le_of_ble_eq_true rfl)) fun H6 U6 => ?_
        refine ⟨_, _, ⟨rs ++ [(if b < a then b else a, if b > a then b else a)], by rw [List.length_append, h1]; rfl, fun q g x' hq hx' => ?_, rfl, ?_⟩, U6.blank [7, 8, 9]⟩
        · by_cases z : q < rs.length
          · rw [List.getElem?_append_left z] at hq
            exact h2 q g x' hq hx'
          · have hq2 : q < rs.length + 1 := by
              have := (List.getElem?_eq_some_iff.mp hq).1
              rwa [List.length_append] at this
            have eq : q = rs.length := by omega
            subst eq
            rw [List.getElem?_append_right (Nat.le_refl _), Nat.sub_self] at hq
            cases hq
            rw [h1, hx] at hx'
            cases hx'
            dsimp only
            split <;> split <;> omega
        · rw [List.map_append]; rfl
      · subst eΓ el
        have U1 := U.let_ hp2 hsp2 (i := 6) rfl
        have hwl := hw.2.1
        refine im_append (i := 4) (j := 0) (fun d l2 => ∃ a : Int, 0 ≤ a ∧ a < 3 ∧ d = encRule (a, rs) ∧ l2 = [(p, rules.map encRule)]) U1 rfl rfl (by rw [List.length_map]; omega) (fun Q kk => ?_) fun d l2 H3 ⟨a, a1, a2, ed, el⟩ U3 => ?_
        · refine im_cons (im_draw (j := 0) U1 rfl (ea_cons (ev_int 3) ea_nil) rfl ⟨3, rfl, by omega, by omega⟩ fun v3 d3 H3 ⟨m3, a, em3, ed3, a1, a2⟩ U3 _ dv3 => ?_)
          subst ed3
          cases em3
          refine im_cons (im_e U3 (ev_tupleL (ev_var (i := 6) rfl)) fun v4 H4 U4 e4 dv4 => ?_)
          exact im_mkT U4 (.cons (dv3.mono (hide_same e4)) (.cons dv4 .nil)) (Nat.le_of_ble_eq_true rfl) fun v5 H5 U5 _ dv5 => kk v5 _ _ H5 ⟨a, a1, a2, rfl, rfl⟩ rfl U5 dv5
        · subst ed el
          refine ⟨_, _, ⟨rules ++ [(a, rs)], by rw [List.length_append, hr1]; rfl, fun r hr => ?_, rfl, ?_⟩, U3.blank [5, 6, 7, 8, 9]⟩
          · rcases List.mem_append.mp hr with hr | hr
            · exact hr2 r hr
            · rw [List.mem_singleton.mp hr]
              exact ⟨a1, by show a ≤ 5; omega, h1, h2⟩
          · rw [List.map_append]; rfl
    · subst eΓ el
      have T1 := T.let_ hp hsp (i := 4) rfl
      dsimp only
      refine im_ret (im_cons (im_e T1 (ev_var (i := 1) rfl) fun v1 H1 T2 _ dv1 => im_cons (im_e T2 (ev_tupleL (ev_var (i := 4) rfl)) fun v2 H2 T3 e2 dv2 => im_cons (im_draw (j := 0) T3 rfl (ea_cons (ev_int 3) ea_nil) rfl ⟨3, rfl, by omega, by omega⟩ fun v3 d3 H3 ⟨m3, a, em3, ed3, a1, a2⟩ T4 hx dv3 => ?_))))
      subst ed3
      cases em3
      refine im_mkT T4 (.cons ((dv1.mono (hide_same e2)).mono hx) (.cons (dv2.mono hx) (.cons dv3 .nil))) (Nat.le_of_ble_eq_true rfl) fun v5 H5 U5 _ dv5 => U5.done kQ ⟨⟨ws, rules, a⟩, rfl, ⟨hw, by show rules.length ≤ 7; omega, ⟨a1, by show a ≤ 5; omega⟩, hr2⟩, by show rules.length ≤ 5; omega⟩ dv5
end
end Nr
set_option Elab.async false
set_option linter.all false
set_option maxRecDepth 100000
set_option maxHeartbeats 4000000
/-! The law's kinds; what is wanted, drawn. -/
namespace Nr
open PySem PySem.Spec PyProof.Rows L2
theorem room65 {k : Nat} {A : Around} (r : Room k A) : A.units + 65 < cLine := by have := r.un; omega
/-! ### cases in their order -/
theorem lexI_app : ∀ (a b : List Int) (x y : Int), a.length = b.length → lexI a b = true → lexI (a ++ [x]) (b ++ [y]) = true
  | [], [], _, _, _, h => by simp [lexI] at h
  | [], _ :: _, _, _, e, _ => by simp at e
  | _ :: _, [], _, _, e, _ => by simp at e
  | u :: us, v :: vs, x, y, e, h => by
    show lexI (u :: (us ++ [x])) (v :: (vs ++ [y])) = true
    unfold lexI at h ⊢
    by_cases q : u = v
    · subst q
      rw [if_pos rfl] at h ⊢
      exact lexI_app us vs x y (by simpa using e) h
    · rw [if_neg q] at h ⊢
      exact h
theorem lexI_same : ∀ (a : List Int) (x y : Int), x < y → lexI (a ++ [x]) (a ++ [y]) = true
  | [], x, y, h => by
    show lexI [x] [y] = true
    unfold lexI
    rw [if_neg (by omega)]
    exact decide_eq_true h
  | u :: us, x, y, h => by
    show lexI (u :: (us ++ [x])) (u :: (us ++ [y])) = true
    unfold lexI
    rw [if_pos rfl]
    exact lexI_same us x y h
theorem rg_pw (n : Nat) : (rg n).Pairwise (· < ·) := by
  unfold rg
  rw [List.pairwise_map]
  exact List.pairwise_lt_range.imp fun h => by omega
theorem stepC_pw {found : List (List Int)} {x : Int} {m : Nat} (hl : ∀ c ∈ found, c.length = m) (hp : found.Pairwise fun a b => lexI a b = true) : (stepC found x).Pairwise fun a b => lexI a b = true := by
  unfold stepC
  rw [List.pairwise_flatMap]
  refine ⟨fun c _ => ?_, ?_⟩
  · rw [List.pairwise_map]
    exact (rg_pw x.toNat).imp fun h => lexI_same c _ _ h
  · refine hp.imp_of_mem fun {a b} ha hb h p hp q hq => ?_
    obtain ⟨v, _, rfl⟩ := List.mem_map.mp hp
    obtain ⟨u, _, rfl⟩ := List.mem_map.mp hq
    exact lexI_app a b v u ((hl a ha).trans (hl b hb).symm) h
theorem cases_pwi {ws : List Int} : ∀ i, i ≤ ws.length → (casesOf (ws.take i)).Pairwise fun a b => lexI a b = true
  | 0, _ => by
    rw [List.take_zero]
    show [[]].Pairwise _
    exact List.pairwise_singleton _ _
  | i + 1, h => by
    rw [casesOf_take ws i _ (List.getElem?_eq_getElem (show i < ws.length by omega))]
    exact stepC_pw (casesOf_mem i (by omega)) (cases_pwi i (by omega))
theorem cases_pw (ws : List Int) : (casesOf ws).Pairwise fun a b => lexI a b = true := by
  have := cases_pwi (ws := ws) ws.length (Nat.le_refl _)
  rwa [List.take_length] at this
/-- each case is in the widths -/
theorem cases_in {ws : List Int} : ∀ i, i ≤ ws.length → ∀ c ∈ casesOf (ws.take i), ∀ (j : Nat) (x w : Int), c[j]? = some x → ws[j]? = some w → 0 ≤ x ∧ x ≤ w - 1
  | 0, _ => fun c hc j x w h => by
    rw [List.take_zero] at hc
    have : c = [] := by simpa [casesOf] using hc
    subst this
    simp at h
  | i + 1, hi => fun c hc j x w h hw => by
    have hx := List.getElem?_eq_getElem (show i < ws.length by omega)
    rw [casesOf_take ws i _ hx] at hc
    obtain ⟨c0, h0, hc⟩ := List.mem_flatMap.mp hc
    obtain ⟨v, hv, rfl⟩ := List.mem_map.mp hc
    have hl := casesOf_mem i (by omega) c0 h0
    by_cases z : j < c0.length
    · rw [List.getElem?_append_left z] at h
      exact cases_in i (by omega) c0 h0 j x w h hw
    · have hj : j < c0.length + 1 := by
        have := (List.getElem?_eq_some_iff.mp h).1
        rwa [List.length_append] at this
      have ej : j = c0.length := by omega
      subst ej
      rw [List.getElem?_append_right (Nat.le_refl _), Nat.sub_self] at h
      cases h
      rw [hl, hx] at hw
      cases hw
      have := mem_rg.mp hv
      omega
theorem case_ok {ws : List Int} {c : List Int} (h : c ∈ casesOf ws) : CaseOk ws c := by
  have := cases_in (ws := ws) ws.length (Nat.le_refl _) c (by rw [List.take_length]; exact h)
  exact ⟨case_len c h, this⟩
theorem decA_ok {L : Lst} (hL : LOk L) {row c : List Int} (hr : ∀ n ∈ row, NumOk L n) : 0 ≤ decA L row c ∧ decA L row c ≤ 5 := by
  unfold decA
  cases h : decN L row c with
  | none => exact hL.2.2.1
  | some n =>
    have hn := hr n (List.mem_of_find?_eq_some h)
    have h1 := hL.2.2.2 _ (List.mem_of_getElem? (num_at hn).1)
    exact ⟨h1.1, h1.2.1⟩
/-! ### kinds -/
def mtL (L : Lst) (c : List Int) : List Int := (rg L.rules.length).filter fun n => mtch L n c
def hasK (ks : List Kind) (m : List Int) (a : Int) : Bool := ks.any fun k => decide (k.1 = m) && decide (k.2.1 = a)
def addK (L : Lst) (ks : List Kind) (p : List Int × Int) : List Kind := if hasK ks (mtL L p.1) p.2 = true then ks else ks ++ [(mtL L p.1, p.2, p.1)]
def kindsM (L : Lst) (ps : List (List Int × Int)) : List Kind := ps.foldl (addK L) []
theorem kinds_take (L : Lst) (ps : List (List Int × Int)) (i : Nat) (x : List Int × Int) (h : ps[i]? = some x) : kindsM L (ps.take (i + 1)) = addK L (kindsM L (ps.take i)) x := by
  unfold kindsM
  rw [List.take_add_one, h, List.foldl_append]
  rfl
theorem addK_len (L : Lst) (ks : List Kind) (p : List Int × Int) : (addK L ks p).length ≤ ks.length + 1 := by
  unfold addK
  split
  · omega
  · rw [List.length_append]; exact Nat.le_refl _
theorem kinds_len (L : Lst) (ps : List (List Int × Int)) : (kindsM L ps).length ≤ ps.length := by
  have : ∀ (ps : List (List Int × Int)) (ks : List Kind), (ps.foldl (addK L) ks).length ≤ ks.length + ps.length := by
    intro ps
    induction ps with
    | nil => intro ks; exact Nat.le_refl _
    | cons p ps ih =>
      intro ks
      have h1 := ih (addK L ks p)
      have h2 := addK_len L ks p
      show (ps.foldl (addK L) (addK L ks p)).length ≤ _
      rw [List.length_cons]
      omega
  have := this ps []
  rw [List.length_nil, Nat.zero_add] at this
  exact this
theorem mtL_num {L : Lst} {c : List Int} : ∀ n ∈ mtL L c, NumOk L n := fun n h => mem_rg.mp (List.mem_filter.mp h).1
def pk (p : List Int × Int) : PyData := .tuple [.list (p.1.map .int), .int p.2]
theorem pk_lay (p : List Int × Int) : (pk p).canLay0 = true := by simp [pk, PyData.canLay0, PyData.canLayAll0, lay_ints]
theorem pks_lay : ∀ l : List (List Int × Int), PyData.canLayAll0 (l.map pk) = true
  | [] => by simp [PyData.canLayAll0]
  | p :: l => by
    rw [List.map_cons, PyData.canLayAll0, pk_lay, pks_lay l]
    rfl
theorem pk_depth (p : List Int × Int) : (pk p).depth = 2 := by simp [pk, PyData.depth, PyData.depthAll, PySem.W.depth_ints]
theorem pks_depth : ∀ l : List (List Int × Int), PyData.depthAll (l.map pk) ≤ 2
  | [] => by simp [PyData.depthAll]
  | p :: l => by
    rw [List.map_cons, PyData.depthAll, pk_depth]
    have := pks_depth l
    omega
theorem pk_shaped (p : List Int × Int) : SeqAt.shaped (pk p) = true := by
  unfold SeqAt.shaped
  rw [pk_lay, pk_depth]
  rfl
theorem pks_shaped (l : List (List Int × Int)) : SeqAt.shaped (.list (l.map pk)) = true := by
  unfold SeqAt.shaped
  rw [show PyData.canLay0 (.list (l.map pk)) = true by simp [PyData.canLay0, pks_lay], show PyData.depth (.list (l.map pk)) = PyData.depthAll (l.map pk) + 1 by simp [PyData.depth]]
  have := pks_depth l
  rw [decide_eq_true (by omega)]
  rfl
theorem pk_eqv (p q : List Int × Int) : PyData.eqv (pk p) (pk q) = (decide (p.1 = q.1) && decide (p.2 = q.2)) := by
  unfold pk
  rw [eqv_tuple]
  have h : PyData.eqv (.list (p.1.map .int)) (.list (q.1.map .int)) = decide (p.1 = q.1) := by rw [PyData.eqv, eqv_ints]
  simp only [PyData.eqvAll, h, Bool.and_true]
  congr 1
abbrev encQ (p : List Int × Int) : Dat := .tuple false [.list (p.1.map .int), .int p.2]
theorem encQ_py (p : List Int × Int) : (encQ p).py = pk p := by
  show PyData.tuple [.list (Dat.pys (p.1.map .int)), .int p.2] = _
  rw [pys_map]
  rfl
theorem encQ_pys : ∀ l : List (List Int × Int), Dat.pys (l.map encQ) = l.map pk
  | [] => rfl
  | p :: l => by
    rw [List.map_cons, List.map_cons, ← encQ_pys l, ← encQ_py]
    rfl
theorem og_notInQ {K : PySem.W.Frag} {p : List Int × Int} {l : List (List Int × Int)} : OpG (rNotInD K) (encQ p) (.list (l.map encQ)) (.bool (!(l.any fun q => decide (q.1 = p.1) && decide (q.2 = p.2)))) := fun L x y H Q lv d1 d2 k => by
  have e1 := d1.up.dp (K := K)
  have e2 := d2.up.dp (K := K)
  rw [encQ_py] at e1
  have e2' : Dp K H y (.list (l.map pk)) := by rw [← encQ_pys]; exact e2
  refine ⟨_, _, e1, e2', pk_shaped p, pks_shaped l, ?_⟩
  rw [List.any_map]
  have : (l.any ((fun z => PyData.eqv z (pk p)) ∘ pk)) = l.any fun q => decide (q.1 = p.1) && decide (q.2 = p.2) := by
    congr 1
    funext q
    exact pk_eqv q p
  rw [this]
  exact k _ H (Same.refl H) (.bl _)
theorem og_notInK {K : PySem.W.Frag} {ks : List Kind} {m : List Int} {a : Int} : OpG (rNotInD K) (.tuple false [.list (m.map .int), .int a]) (.list (ks.map fun k => encQ (k.1, k.2.1))) (.bool (!hasK ks m a)) := by
  have := og_notInQ (K := K) (p := (m, a)) (l := ks.map fun k => (k.1, k.2.1))
  rw [List.map_map, List.any_map] at this
  exact this
section
variable {P : Program} {w : World} {K : PySem.W.Frag} {mg : Str → Option Value} {base : Heap}
variable {so : Option Addr} {H0 H H' : Hp} {L0 L : List Addr} {σ : L2.St} {Γ Γ' : Gam} {l : List (Addr × List Dat)}
theorem Stt.pure_ (lv : Live L H) (env : Env (hide H L) σ Γ) : Stt none H [] L H σ Γ [] := ⟨lv, env, hide_sub, fun a ha => absurd ha List.not_mem_nil, fun x hx => absurd hx List.not_mem_nil, List.nodup_nil, fun _ h => nomatch h⟩
theorem Stt.same0 (S : Stt none H [] L H' σ Γ l) : Same H H' := by
  have := S.fr
  rwa [hide_nil] at this
theorem im_tg {g : TG} {vs : List Nat} {d : Dat} {v : V} {Q : L2.St → Hp → Prop} (S : Stt so H0 L0 L H σ Γ l) (h : TgG g vs Γ d Γ') (dv : Dt (hide H L) v d) (k : ∀ σ', Stt so H0 L0 L H σ' Γ' l → Q σ' H) : g v σ H Q := h L σ H v Q S.env dv fun σ' e _ => k σ' (S.at_ e)
abbrev sp_l_kinds : Sp := spD 2 fun ds d => ∃ (L : Lst) (ps : List (List Int × Int)), ds = [encL L, .list (ps.map encP)] ∧ LOk L ∧ (∀ p ∈ ps, p.1.length = L.ws.length) ∧ ps.length ≤ 1000 ∧ d = .list ((kindsM L ps).map encKL)
theorem encKL_snoc (ks : List Kind) (k : Kind) : ks.map encKL ++ [encKL k] = (ks ++ [k]).map encKL := by rw [List.map_append]; rfl
theorem ok_l_kinds (Z : Zs mg) (D : Own K mg "_law_kinds" "_law_kinds" s_l_kinds) (C_l_matches : Cal P w K mg base "_law_matches" 1 pp_l_matches sp_l_matches) : Cal P w K mg base "_law_kinds" 2 pp_l_kinds sp_l_kinds := by
  refine calD D sc_l_kinds rfl (fun _ _ _ _ _ _ us hl => match us, hl with | [_, _], _ => rfl) (fun f cdv A outer s H E hr => ⟨_, (pss_cons (ps_set (i := 2) sc_l_kinds.nd rfl (.inl rfl) (pe_lst pa_nil)) (pss_cons (ps_for PassesOwn.never rfl (kx_piL (K := K) (pv 1)) (kx_pgT (K := K) (n := 2) rfl (pgs_cons (pg_name (i := 3) sc_l_kinds.nd rfl (.inr rfl)) (pgs_cons (pg_name (i := 4) sc_l_kinds.nd rfl (.inl rfl)) pgs_nil))) (pss_cons (ps_setLc (i := 5) (own := [("_law_number", 6)]) rfl sc_l_kinds.nd rfl rfl (sw_true rfl rfl rfl (by decide +kernel)) (pi_range1 (by rfl) Z.z_range (pa_cons (pe_callB (kx_len (K := K)) (by rfl) Z.z_len PySem.boot_len (pa_cons (pe_ix (kx_ixT (K := K)) (pv 0) pe_int (fun _ _ => rfl)) pa_nil)) pa_nil)) (blkOk_by (own := [("_law_number", 6)]) (N := nm_l_kinds) (sc := defScope s_l_kinds) (by decide +kernel)) (fun _ _ _ _ _ => (pg_name (i := 6) sc_l_kinds.nd rfl (.inl rfl))) (fun _ _ _ _ _ => (pts_one (pt_val (pe_cal C_l_matches hr (by decide) (by rfl) (pa_cons (pv 0) (pa_cons (pv 6) (pa_cons (pv 3) pa_nil))))))) (fun _ _ _ _ _ => (pv 6))) (pss_one (ps_if (pt_cmpR (kx_notInD (K := K) (room65 hr)) (pe_tup (pa_cons (pv 5) (pa_cons (pv 4) pa_nil))) (pe_lc (own := [("_law_one", 7), ("_law_told", 8), ("_law_first", 9)]) rfl sc_l_kinds.nd (kx_piL (K := K) (pv 2)) (blkOk_by (own := [("_law_one", 7), ("_law_told", 8), ("_law_first", 9)]) (N := nm_l_kinds) (sc := defScope s_l_kinds) (by decide +kernel)) (fun _ _ _ _ _ => (kx_pgT (K := K) (n := 3) rfl (pgs_cons (pg_name (i := 7) sc_l_kinds.nd rfl (.inl rfl)) (pgs_cons (pg_name (i := 8) sc_l_kinds.nd rfl (.inl rfl)) (pgs_cons (pg_name (i := 9) sc_l_kinds.nd rfl (.inl rfl)) pgs_nil))))) (fun _ _ _ _ _ => pts_nil) (fun _ _ _ _ _ => (pe_tup (pa_cons (pv 7) (pa_cons (pv 8) pa_nil))))) (by rfl)) (pss_one (ps_expr (pe_bm PySem.F.plainAttrs_list PySem.F.slot_list_append PySem.F.type_list_append mt_append (pv 2) (pa_cons (pe_tup (pa_cons (pv 5) (pa_cons (pv 4) (pa_cons (pv 3) pa_nil)))) pa_nil)))) pss_nil)))) (pss_one (ps_ret (pv 2))))), fun ds d hR => ?body⟩)
  obtain ⟨M, ps, rfl, hM, hps, hpl, rfl⟩ := hR
  refine ⟨some _, [], fun L σ H D lv env k1 _ => ?_, rfl⟩
  have S := Stt.pure_ lv env
  refine im_seq (im_nil (i := 2) S fun p hp hsp S1 => im_seq ?_)
  refine im_for (items := ps) (enc := encP) S1 (wg_list (ev_var rfl)) (fun i Γ' l' => Γ' = [.dat (encL M), .dat (.list (ps.map encP)), .val (.ref p), .no, .no, .no, .no, .no, .no, .no] ∧ l' = [(p, (kindsM M (ps.take i)).map encKL)]) ⟨rfl, rfl⟩ (fun i Γ' l' ⟨_, e⟩ => by rw [e]; rfl)
    (fun i x Γ' l' Hb σ' H' v hx ⟨eΓ, el⟩ T dv => ?_) fun Γ' l' σ' H' ⟨eΓ, el⟩ T => ?_
  · subst eΓ el
    have hxl := hps x (List.mem_of_getElem? hx)
    have hi : i < ps.length := (List.getElem?_eq_some_iff.mp hx).1
    have hn7 := hM.2.1
    have hkl := kinds_len M (ps.take i)
    rw [List.length_take] at hkl
    refine im_tg (vs := [3, 4]) T (tg_tup (tgs_cons (tg_name (by decide)) (tgs_cons (tg_name (by decide)) tgs_nil)) rfl) dv fun σ2 T1 => im_seq ?_
    refine im_s (ts := tAsg _ _) T1 (st_asg (i := 5) (ev_lc (items := rg M.rules.length) (enc := Dat.int) (f := Dat.int) (p := fun n => mtch M n x.1) (vs := [6]) (wg_rngI (n := ((M.rules.length : Nat) : Int)) (ev_rgL hM (ev_var rfl)) (by omega) (by omega)) (fun _ _ => tg_name (by decide)) (fun n hn => et_B (ev_mtch hM (mem_rg.mp hn) hxl (ev_var rfl) (ev_var rfl) (ev_var rfl))) (fun _ _ _ => ev_var rfl) (by rw [rg_len]; omega))) fun σ3 H3 T2 _ => ?_
    dsimp only
    refine im_if (im_tv (i := 2) (j := 0) (b := !hasK (kindsM M (ps.take i)) (mtL M x.1) x.2) T2 rfl rfl (et_test (ev_op (ev_tup (ea_cons (ev_var rfl) (ea_cons (ev_var rfl) ea_nil)) (Nat.le_of_ble_eq_true rfl)) (ev_lc0 (items := kindsM M (ps.take i)) (enc := encKL) (f := fun k => encQ (k.1, k.2.1)) (vs := [7, 8, 9]) (wg_list (ev_var rfl)) (fun _ _ => tg_tup (tgs_cons (tg_name (by decide)) (tgs_cons (tg_name (by decide)) (tgs_cons (tg_name (by decide)) tgs_nil))) rfl) (fun k _ => ev_tup (ea_cons (ev_var rfl) (ea_cons (ev_var rfl) ea_nil)) (Nat.le_of_ble_eq_true rfl)) (by omega)) og_notInK)) fun H4 T3 _ => ?_)
    cases hk : hasK (kindsM M (ps.take i)) (mtL M x.1) x.2 with
    | true =>
      rw [if_neg (by decide)]
      refine ⟨_, _, ⟨rfl, ?_⟩, T3.blank [3, 4, 5]⟩
      rw [kinds_take M ps i x hx]
      unfold addK
      rw [if_pos hk]
    | false =>
      rw [if_pos (show (!false) = true from rfl)]
      refine im_app (i := 2) (j := 0) (d := encKL (mtL M x.1, x.2, x.1)) T3 rfl rfl (by rw [List.length_map]; omega) (ev_tup (ea_cons (ev_var rfl) (ea_cons (ev_var rfl) (ea_cons (ev_var rfl) ea_nil))) (Nat.le_of_ble_eq_true rfl)) fun H5 T4 => ?_
      refine ⟨_, _, ⟨rfl, ?_⟩, T4.blank [3, 4, 5]⟩
      rw [kinds_take M ps i x hx]
      unfold addK
      rw [if_neg (by rw [hk]; decide), ← encKL_snoc]
      rfl
  · subst eΓ el
    rw [List.take_length] at T
    refine im_ret (im_e (T.let_ hp hsp (i := 2) rfl) (ev_var rfl) fun v H3 S3 _ dv => ?_)
    exact k1 _ rfl v H3 S3.same0 dv
end
end Nr
set_option Elab.async false
set_option linter.all false
set_option maxRecDepth 100000
set_option maxHeartbeats 4000000
/-! What is wanted, drawn. -/
namespace Nr
open PySem PySem.Spec PyProof.Rows L2
section
variable {P : Program} {w : World} {K : PySem.W.Frag} {mg : Str → Option Value} {base : Heap}
abbrev sp_l_wanted : Sp := spS 1 (fun ds => ∃ L : Lst, ds = [encL L] ∧ LOk L) fun ds d => ∃ (L : Lst) (W : Wnt), ds = [encL L] ∧ d = encW W ∧ WOk L W
theorem pairs_snoc {L : Lst} {ps : List (List Int × Int)} {c : List Int} {a : Int} (h : PairsOk L ps) (h12 : ps.length < 12) (hc : CaseOk L.ws c) (ha : 0 ≤ a ∧ a ≤ 5) (hl : ∀ p ∈ ps, lexI p.1 c = true) : PairsOk L (ps ++ [(c, a)]) := by
  obtain ⟨h1, h2, h3⟩ := h
  refine ⟨by rw [List.length_append]; show ps.length + 1 ≤ 12; omega, fun p hp => ?_, fun i p q hp hq => ?_⟩
  · rcases List.mem_append.mp hp with hp | hp
    · exact h2 p hp
    · rw [List.mem_singleton.mp hp]; exact ⟨hc, ha⟩
  · have hi : i + 1 < ps.length + 1 := by
      have := (List.getElem?_eq_some_iff.mp hq).1
      rwa [List.length_append] at this
    rw [List.getElem?_append_left (by omega)] at hp
    by_cases z : i + 1 < ps.length
    · rw [List.getElem?_append_left z] at hq
      exact h3 i p q hp hq
    · have ez : i + 1 = ps.length := by omega
      rw [ez, List.getElem?_append_right (Nat.le_refl _), Nat.sub_self] at hq
      cases hq
      exact hl p (List.mem_of_getElem? hp)
variable {so : Option Addr} {H0 H H' : Hp} {L0 L : List Addr} {σ : L2.St} {Γ Γ' : Gam} {l : List (Addr × List Dat)}
theorem im_mkL {vs : List V} {ds : List Dat} {Q : VK} (S : Stt so H0 L0 L H σ Γ l) (dv : DtAll (hide H L) vs ds) (hz : ds.length ≤ 100000) (k : ∀ v H', Stt so H0 L0 L H' σ Γ l → Same H H' → Dt (hide H' L) v (.list ds) → Q v H') : vs.length ≤ sizeLine ∧ ∀ p, H p = none → Q (.ref p) (upd H p (.lst vs)) :=
  ⟨by rw [dv.len]; exact Nat.le_trans hz (by decide), fun p hp => k _ _ (S.same (same_new hp _)) (same_new hp _) (.lst (xs := vs) (by rw [hide_out (live_new S.lv hp), upd_same]) (dv.mono (hide_same (same_new hp _))))⟩
theorem im_drawEq {s : Addr} {m j : Int} {E : XK} {Q : Bool → Hp → Prop} (S : Stt (some s) H0 L0 L H σ Γ l) (h0 : Γ[0]? = some (.val (.ref s))) (h1 : 0 < m) (h2 : m < 1073741824) (k : ∀ i H', 0 ≤ i → i < m → Stt (some s) H0 L0 L H' σ Γ l → Q (decide (i = j)) H') :
    tTest (tOp rEq (tCall sp_l_next [] E (tCons (tVar 0) (tCons (tC (.int m)) tNil))) (tC (.int j))) σ H Q := by
  refine im_op (im_draw (j := 0) S h0 (ea_cons (ev_int m) ea_nil) rfl ⟨m, rfl, h1, h2⟩ fun v d H1 ⟨m', i, em, ed, a, b⟩ S1 _ dv => ?_)
  subst ed
  cases em
  exact og_eqI L v (.int j) H1 (fun x H' => ∃ k, x = .bl k ∧ Q k H') S1.lv dv (.int j) fun w H2 e dw => ⟨_, dw.bl_of, k i H2 a b (S1.same e)⟩
/-- the two that an action is picked of -/
theorem im_two {s : Addr} {M : Lst} {oth c : List Int} {E1 E2 : XK} {Q : VK} (S : Stt (some s) H0 L0 L H σ Γ l) (hM : LOk M) (q2 : ∀ n ∈ oth, NumOk M n) (hcl : c.length = M.ws.length) (g0 : Γ[0]? = some (.val (.ref s))) (g1 : Γ[1]? = some (.dat (encL M))) (g8 : Γ[8]? = some (.dat (encI oth))) (g10 : Γ[10]? = some (.dat (encI c)))
    (k : ∀ b v H', 0 ≤ b → b < 3 → Stt (some s) H0 L0 L H' σ Γ l → Dt (hide H' L) v (.list [.int (decA M oth c), .int b]) → Q v H') :
    tLst (tCons (tCall sp_l_decides [] E1 (tCons (tVar 1) (tCons (tVar 8) (tCons (tVar 10) tNil)))) (tCons (tCall sp_l_next [] E2 (tCons (tVar 0) (tCons (tC (.int 3)) tNil))) tNil)) σ H Q := by
  refine im_cons (im_e S (ev_decl (.inl ⟨false, rfl⟩) hM q2 hcl (ev_var g1) (ev_var g8) (ev_var g10)) fun va Ha Ta _ dva => im_cons (im_draw (j := 0) Ta g0 (ea_cons (ev_int 3) ea_nil) rfl ⟨3, rfl, by decide, by decide⟩ fun vb db Hb ⟨mb, b, emb, edb, c1, c2⟩ Tb hx dvb => ?_))
  subst edb
  cases emb
  exact im_mkL Tb (.cons (dva.mono hx) (.cons dvb .nil)) (Nat.le_of_ble_eq_true rfl) fun vl Hl Tl _ dvl => k b vl Hl c1 c2 Tl dvl
theorem rules_at {L : Lst} {n : Int} (h : NumOk L n) : (actL L n, rgs L n) ∈ L.rules := List.mem_of_getElem? (num_at h).1
theorem ok_l_wanted (Z : Zs mg) (D : Own K mg "_law_wanted" "_law_wanted" s_l_wanted) (C_l_next : Cal P w K mg base "_law_next" 1 pp_l_next sp_l_next) (C_l_shuffled : Cal P w K mg base "_law_shuffled" 2 pp_l_shuffled sp_l_shuffled) (C_l_cases : Cal P w K mg base "_law_cases" 1 pp_l_cases sp_l_cases) (C_l_decides : Cal P w K mg base "_law_decides" 2 pp_l_decides sp_l_decides) : Cal P w K mg base "_law_wanted" 3 pp_l_wanted sp_l_wanted := by
  refine calS D sc_l_wanted ?hl (fun _ _ _ _ _ _ us hl => match us, hl with | [_, _], _ => rfl) (fun f cdv A outer s H vs Q E hr h => ⟨_, (pss_cons (ps_set (i := 2) sc_l_wanted.nd rfl (.inl rfl) (pe_cal C_l_next hr (by decide) (by rfl) (pa_cons (pv 0) (pa_cons pe_int pa_nil)))) (pss_cons (ps_set (i := 3) sc_l_wanted.nd rfl (.inl rfl) (pe_callB (kx_len (K := K)) (by rfl) Z.z_len PySem.boot_len (pa_cons (pe_ix (kx_ixT (K := K)) (pv 1) pe_int (fun _ _ => rfl)) pa_nil))) (pss_cons (ps_if (pt_cmpR op_eq (pv 2) pe_int (nomark _)) (pss_one (ps_ret (pe_tup (pa_cons pe_str pa_nil)))) pss_nil) (pss_cons (ps_if (pt_cmpR op_eq (pv 2) pe_int (nomark _)) (pss_cons (ps_set (i := 4) sc_l_wanted.nd rfl (.inl rfl) (pe_cal C_l_shuffled hr (by decide) (by rfl) (pa_cons (pv 0) (pa_cons (pv 3) pa_nil)))) (pss_cons (ps_setLc (i := 5) (own := [("_law_number", 12)]) rfl sc_l_wanted.nd rfl rfl (sw_true rfl rfl rfl (by decide +kernel)) (kx_piT (K := K) (pv 4)) (blkOk_by (own := [("_law_number", 12)]) (N := nm_l_wanted) (sc := defScope s_l_wanted) (by decide +kernel)) (fun _ _ _ _ _ => (pg_name (i := 12) sc_l_wanted.nd rfl (.inl rfl))) (fun _ _ _ _ _ => pts_nil) (fun _ _ _ _ _ => (pe_ix (kx_ixT (K := K)) (pe_ix (kx_ixT (K := K)) (pv 1) pe_int (fun _ _ => rfl)) (pv 12) (fun _ _ => rfl)))) (pss_cons (ps_for PassesOwn.never rfl (pi_range1 (by rfl) Z.z_range (pa_cons (pe_cal C_l_next hr (by decide) (by rfl) (pa_cons (pv 0) (pa_cons pe_int pa_nil))) pa_nil)) (pg_name (i := 6) sc_l_wanted.nd rfl (.inl rfl)) (pss_one (ps_set (i := 5) sc_l_wanted.nd rfl (.inl rfl) (pe_op op_cat (pe_slice (kx_slL (K := K)) (pv 5) po_none (po_some pe_int)) (pe_slice (kx_slL (K := K)) (pv 5) (po_some pe_int) po_none))))) (pss_one (ps_ret (pe_tup (pa_cons pe_str (pa_cons (pe_tup (pa_cons (pe_ix (kx_ixT (K := K)) (pv 1) pe_int (fun _ _ => rfl)) (pa_cons (pe_callTy (kx_tuple (K := K)) (by rfl) Z.z_tuple PyProof.Rows.boot_tuple (pa_cons (pv 5) pa_nil)) (pa_cons (pe_ix (kx_ixT (K := K)) (pv 1) pe_int (fun _ _ => rfl)) pa_nil)))) pa_nil)))))))) pss_nil) (pss_cons (ps_set (i := 7) sc_l_wanted.nd rfl (.inl rfl) (pe_cal C_l_shuffled hr (by decide) (by rfl) (pa_cons (pv 0) (pa_cons (pv 3) pa_nil)))) (pss_cons (ps_set (i := 8) sc_l_wanted.nd rfl (.inl rfl) (pe_cal C_l_shuffled hr (by decide) (by rfl) (pa_cons (pv 0) (pa_cons (pv 3) pa_nil)))) (pss_cons (ps_set (i := 9) sc_l_wanted.nd rfl (.inl rfl) (pe_lst pa_nil)) (pss_cons (ps_for PassesOwn.never rfl (kx_piL (K := K) (pe_cal C_l_cases hr (by decide) (by rfl) (pa_cons (pe_ix (kx_ixT (K := K)) (pv 1) pe_int (fun _ _ => rfl)) pa_nil))) (pg_name (i := 10) sc_l_wanted.nd rfl (.inl rfl)) (pss_one (ps_if (PW.pt (pw_and (pt_cmpR op_lt (pe_callB (kx_len (K := K)) (by rfl) Z.z_len PySem.boot_len (pa_cons (pv 9) pa_nil)) pe_int (nomark _)) (pw_and1 (pt_cmpR op_eq (pe_cal C_l_next hr (by decide) (by rfl) (pa_cons (pv 0) (pa_cons pe_int pa_nil))) pe_int (nomark _))))) (pss_cons (ps_set (i := 11) sc_l_wanted.nd rfl (.inl rfl) (pe_cal C_l_decides hr (by decide) (by rfl) (pa_cons (pv 1) (pa_cons (pv 7) (pa_cons (pv 10) pa_nil))))) (pss_cons (ps_if (pt_cmpR op_eq (pe_cal C_l_next hr (by decide) (by rfl) (pa_cons (pv 0) (pa_cons pe_int pa_nil))) pe_int (nomark _)) (pss_one (ps_set (i := 11) sc_l_wanted.nd rfl (.inl rfl) (pe_ix (kx_ixL (K := K)) (pe_lst (pa_cons (pe_cal C_l_decides hr (by decide) (by rfl) (pa_cons (pv 1) (pa_cons (pv 8) (pa_cons (pv 10) pa_nil)))) (pa_cons (pe_cal C_l_next hr (by decide) (by rfl) (pa_cons (pv 0) (pa_cons pe_int pa_nil))) pa_nil))) (pe_callTy call_int1 (by rfl) Z.z_int PyProof.Rows.boot_int (pa_cons (pe_cmpR op_eq (pv 2) pe_int (nomark _)) pa_nil)) (fun _ _ => rfl)))) pss_nil) (pss_one (ps_expr (pe_bm PySem.F.plainAttrs_list PySem.F.slot_list_append PySem.F.type_list_append mt_append (pv 9) (pa_cons (pe_tup (pa_cons (pv 10) (pa_cons (pv 11) pa_nil))) pa_nil)))))) pss_nil))) (pss_one (ps_ret (pe_tup (pa_cons pe_str (pa_cons (pe_callTy (kx_tuple (K := K)) (by rfl) Z.z_tuple PyProof.Rows.boot_tuple (pa_cons (pv 9) pa_nil)) pa_nil))))))))))))), ?body⟩)
  case hl => exact spS_len
  case body =>
    obtain ⟨L, s', us, ds, dsr, rfl, hn, lv, hs, hsr, hh, hd, ⟨M, rfl, hM⟩, kQ⟩ := h
    have S := Stt.start (N := nm_l_wanted) lv hs hsr hh hd
    have hn7 := hM.2.1
    refine im_seq (im_asg (im_draw (j := 0) S rfl (ea_cons (ev_int 4) ea_nil) rfl ⟨4, rfl, by decide, by decide⟩ fun v1 d1 H1 ⟨m1, pick, em1, ed1, k1, k2⟩ S1 _ dv1 => ?_))
    subst ed1
    cases em1
    refine im_seq (im_s (ts := tAsg _ _) (S1.setD (i := 2) dv1) (st_asg (i := 3) (ev_rgL hM (ev_var rfl))) fun σ2 H2 S2 _ => im_seq (im_if (im_t (b := decide (pick = 0)) S2 (et_test (ev_op (ev_var rfl) (ev_int 0) og_eqI)) fun H3 S3 _ => ?_)))
    by_cases h0 : pick = 0
    · rw [decide_eq_true h0, if_pos rfl]
      exact im_ret (im_e S3 (ev_tup (ea_cons (ev_str "self") ea_nil) (Nat.le_of_ble_eq_true rfl)) fun v H4 S4 _ dv => S4.done kQ ⟨M, .self, rfl, rfl, True.intro⟩ dv)
    rw [decide_eq_false h0, if_neg (by decide)]
    refine im_seq (im_if (im_t (b := decide (pick = 1)) S3 (et_test (ev_op (ev_var rfl) (ev_int 1) og_eqI)) fun H4 S4 _ => ?_))
    by_cases h1 : pick = 1
    · rw [decide_eq_true h1, if_pos rfl]
      refine im_seq (im_asg (im_draw (j := 0) S4 rfl (ea_cons (ev_var (i := 3) rfl) ea_nil) rfl ⟨M.rules.length, rfl, by omega⟩ fun v5 d5 H5 ⟨n5, order, en5, ed5, o1, o2⟩ S5 _ dv5 => ?_))
      subst ed5
      have en5' : M.rules.length = n5 := by
        have := List.head_eq_of_cons_eq en5
        injection this with this
        exact Int.ofNat.inj this
      subst en5'
      refine im_seq (im_s (ts := tAsg _ _) (S5.setD (i := 4) dv5) (st_asg (i := 5) (EvG.is (d' := .list ((order.map fun n => (actL M n, rgs M n)).map encRule)) (ev_lc0 (items := order) (enc := Dat.int) (f := fun n => encRule (actL M n, rgs M n)) (vs := [12]) (wg_tup (ev_var rfl)) (fun _ _ => tg_name (by decide)) (fun n hn => ev_rule (o2 n hn) (ev_var rfl) (ev_var rfl)) (by omega)) (by rw [List.map_map]; rfl))) fun σ6 H6 S6 _ => im_seq ?_)
      refine im_forR (fun n => True) S6 (fun Q kk => im_draw (j := 0) S6 rfl (ea_cons (ev_int 2) ea_nil) rfl ⟨2, rfl, by decide, by decide⟩ fun v7 d7 H7 ⟨m7, i7, em7, ed7, a7, b7⟩ S7 _ dv7 => ?ga)
        (fun n i Γ' l' => ∃ rs : List (Int × List (Int × Int)), rs.length ≤ 7 ∧ (∀ r ∈ rs, RuleOk M.ws r) ∧ Γ' = [.val (.ref s'), .dat (encL M), .dat (.int pick), .dat (.int (M.rules.length : Int)), .dat (encI order), .dat (.list (rs.map encRule)), .no, .no, .no, .no, .no, .no, .no] ∧ l' = []) (fun n _ => ⟨order.map fun n => (actL M n, rgs M n), by rw [List.length_map]; omega, fun r hr => ?gb, rfl, rfl⟩) (fun n i Γ' l' ⟨_, _, _, _, e⟩ => by rw [e])
        (fun n i Γ' l' Hb σ' H' v hi _ ⟨rs, r1, r2, eΓ, el⟩ T dv => ?gc) fun n Γ' l' σ' H' _ ⟨rs, r1, r2, eΓ, el⟩ T => ?gd
      case ga =>
        subst ed7
        cases em7
        obtain rfl := dv7.int_of
        have e : i7 = ((i7.toNat : Nat) : Int) := by omega
        rw [e]
        exact kk i7.toNat H7 (by omega) True.intro S7
      case gb =>
        obtain ⟨n, hn, rfl⟩ := List.mem_map.mp hr
        exact hM.2.2.2 _ (rules_at (o2 n hn))
      case gc =>
        subst eΓ el
        refine im_s (ts := tAsg _ _) (T.setD (i := 6) dv) (st_asg (i := 5) (ev_op (ev_slL (ev_var rfl) eo_none (eo_some (ev_int ((1 : Nat) : Int)))) (ev_slL (ev_var rfl) (eo_some (ev_int ((2 : Nat) : Int))) eo_none) (og_catL ?_))) fun σ8 H8 S8 _ => ?_
        · rw [cut_hi', cut_lo', List.length_take, List.length_drop, List.length_map]; omega
        · refine ⟨_, _, ⟨rs.take 1 ++ rs.drop 2, by rw [List.length_append, List.length_take, List.length_drop]; omega, fun r hr => ?_, ?_, rfl⟩, S8.blank [6]⟩
          · rcases List.mem_append.mp hr with hr | hr
            · exact r2 r (List.mem_of_mem_take hr)
            · exact r2 r (List.mem_of_mem_drop hr)
          · rw [cut_hi', cut_lo', List.map_append, List.map_take, List.map_drop]
            rfl
      case gd =>
        subst eΓ el
        dsimp only
        refine im_ret (im_e T (ev_tup (ea_cons (ev_str "list") (ea_cons (ev_tup (ea_cons (ev_ixT 0 (ev_var rfl) (ev_int 0)) (ea_cons (ev_tupleL (ev_var rfl)) (ea_cons (ev_ixT 2 (ev_var rfl) (ev_int 2)) ea_nil))) (Nat.le_of_ble_eq_true rfl)) ea_nil)) (Nat.le_of_ble_eq_true rfl)) fun v H9 S9 _ dv => S9.done kQ ⟨M, .list ⟨M.ws, rs, M.rest⟩, rfl, rfl, ⟨hM.1, r1, hM.2.2.1, r2⟩, rfl⟩ dv)
    rw [decide_eq_false h1, if_neg (by decide)]
    refine im_seq (im_asg (im_draw (j := 0) S4 rfl (ea_cons (ev_var (i := 3) rfl) ea_nil) rfl ⟨M.rules.length, rfl, by omega⟩ fun v5 d5 H5 ⟨n5, row, en5, ed5, o1, o2⟩ S5 _ dv5 => ?_))
    subst ed5
    have en5' : M.rules.length = n5 := by
      have := List.head_eq_of_cons_eq en5
      injection this with this
      exact Int.ofNat.inj this
    subst en5'
    refine im_seq (im_asg (im_draw (j := 0) (S5.setD (i := 7) dv5) rfl (ea_cons (ev_var (i := 3) rfl) ea_nil) rfl ⟨M.rules.length, rfl, by omega⟩ fun v6 d6 H6 ⟨n6, oth, en6, ed6, q1, q2⟩ S6 _ dv6 => ?_))
    subst ed6
    have en6' : M.rules.length = n6 := by
      have := List.head_eq_of_cons_eq en6
      injection this with this
      exact Int.ofNat.inj this
    subst en6'
    refine im_seq (im_nil (i := 9) (S6.setD (i := 8) dv6) fun p hp hsp S7 => im_seq ?_)
    refine im_for (items := casesOf M.ws) (enc := encI) S7 (wg_list (ev_call (ea_cons (ev_ixT 0 (ev_var rfl) (ev_int 0)) ea_nil) rfl ⟨M.ws, rfl, hM.1, rfl⟩)) (fun i Γ' l' => ∃ ps : List (List Int × Int), PairsOk M ps ∧ (∀ q ∈ ps, q.1 ∈ (casesOf M.ws).take i) ∧ Γ' = [.val (.ref s'), .dat (encL M), .dat (.int pick), .dat (.int (M.rules.length : Int)), .no, .no, .no, .dat (encI row), .dat (encI oth), .val (.ref p), .no, .no, .no] ∧ l' = [(p, ps.map encP)])
      ⟨[], ⟨Nat.zero_le _, fun q hq => absurd hq List.not_mem_nil, fun i a b h => by simp at h⟩, fun q hq => absurd hq List.not_mem_nil, rfl, rfl⟩ (fun i Γ' l' ⟨_, _, _, _, e⟩ => by rw [e]; rfl)
      (fun i c Γ' l' Hb σ' H' v hc ⟨ps, p1, p2, eΓ, el⟩ T dv => ?_) fun Γ' l' σ' H' ⟨ps, p1, p2, eΓ, el⟩ T => ?_
    · subst eΓ el
      have hcm := List.mem_of_getElem? hc
      have hi : i < (casesOf M.ws).length := (List.getElem?_eq_some_iff.mp hc).1
      have hcl := case_len c hcm
      have hp12 := p1.1
      have T1 := T.setD (i := 10) dv
      have up : ∀ q ∈ ps, q.1 ∈ (casesOf M.ws).take (i + 1) := fun q hq => by
        rw [List.take_add_one]
        exact List.mem_append_left _ (p2 q hq)
      refine im_if (im_tv (i := 9) (j := 0) (b := decide ((ps.length : Int) < 12)) (tt := tTest _) (Q := fun b H1 => _) T1 rfl rfl (et_test (ev_op (EvG.is (ev_lenL (ev_var rfl)) (by rw [List.length_map])) (ev_int 12) og_IB)) fun H2 T2 _ => ?_)
      by_cases hz : (ps.length : Int) < 12
      · rw [decide_eq_true hz]
        dsimp only
        rw [if_pos rfl]
        refine im_drawEq T2 rfl (by decide) (by decide) fun i2 H3 a1 a2 T3 => ?_
        by_cases hz2 : i2 = 0
        · rw [decide_eq_true hz2, if_pos rfl]
          refine im_seq (im_s (ts := tAsg _ _) T3 (st_asg (i := 11) (ev_decl (.inl ⟨false, rfl⟩) hM o2 hcl (ev_var rfl) (ev_var rfl) (ev_var rfl))) fun σ4 H4 T4 _ => im_seq (im_if (im_drawEq T4 rfl (by decide) (by decide) fun i3 H5 b1 b2 T5 => ?_)))
          have fin : ∀ (a : Int) (σ6 : L2.St) (H6 : Hp) (D : Ends), 0 ≤ a ∧ a ≤ 5 → Stt (some s') Hb (ow (some s') [(p, [])]) (p :: L) H6 σ6 [.val (.ref s'), .dat (encL M), .dat (.int pick), .dat (.int (M.rules.length : Int)), .no, .no, .no, .dat (encI row), .dat (encI oth), .val (.ref p), .dat (encI c), .dat (.int a), .no] [(p, ps.map encP)] →
              (D.nx = fun σ3 H3 => ∃ Γ3 l3, (∃ ps : List (List Int × Int), PairsOk M ps ∧ (∀ q ∈ ps, q.1 ∈ (casesOf M.ws).take (i + 1)) ∧ Γ3 = [.val (.ref s'), .dat (encL M), .dat (.int pick), .dat (.int (M.rules.length : Int)), .no, .no, .no, .dat (encI row), .dat (encI oth), .val (.ref p), .no, .no, .no] ∧ l3 = [(p, ps.map encP)]) ∧ Stt (some s') Hb (ow (some s') [(p, [])]) (p :: L) H3 σ3 Γ3 l3) →
              tDrop (tBM K "list" rAppend (tVar 9) (tCons (tTup (tCons (tVar 10) (tCons (tVar 11) tNil))) tNil)) D σ6 H6 := by
            intro a σ6 H6 D ha U hD
            refine im_app (i := 9) (j := 0) (d := encP (c, a)) U rfl rfl (by rw [List.length_map]; omega) (ev_tup (ea_cons (ev_var rfl) (ea_cons (ev_var rfl) ea_nil)) (Nat.le_of_ble_eq_true rfl)) fun H7 U7 => ?_
            rw [hD]
            refine ⟨_, _, ⟨ps ++ [(c, a)], pairs_snoc p1 (by omega) (case_ok hcm) ha fun q hq => ?_, fun q hq => ?_, rfl, ?_⟩, U7.blank [10, 11]⟩
            · obtain ⟨j, hj, e⟩ := List.mem_iff_getElem.mp (p2 q hq)
              rw [List.length_take] at hj
              rw [List.getElem_take] at e
              have := List.pairwise_iff_getElem.mp (cases_pw M.ws) j i (by omega) hi (by omega)
              rw [e, show (casesOf M.ws)[i] = c from (List.getElem?_eq_some_iff.mp hc).2] at this
              exact this
            · rcases List.mem_append.mp hq with hq | hq
              · exact up q hq
              · rw [List.mem_singleton.mp hq, List.take_add_one, hc]
                exact List.mem_append_right _ (List.mem_singleton_self _)
            · rw [List.map_append]; rfl
          by_cases hz3 : i3 = 0
          · rw [decide_eq_true hz3, if_pos rfl]
            refine im_asg (im_op (im_two T5 hM q2 hcl rfl rfl rfl rfl fun b vl Hl c1 c2 Tl dvl => im_e Tl (ev_cb (ea_cons (ev_op (ev_var (i := 2) rfl) (ev_int 3) og_eqI) ea_nil) cg_intB) fun vi Hi Ti ei dvi => ?_))
            have hd := decA_ok hM q2 (c := c)
            by_cases h3 : pick = 3
            · rw [decide_eq_true h3] at dvi
              exact og_ixL (j := 1) (d := .int b) rfl rfl (p :: L) vl vi Hi _ Ti.lv (dvl.mono (hide_same ei)) dvi fun vr Hr er dvr => fin b _ Hr _ ⟨c1, by omega⟩ ((Ti.same er).setD (i := 11) dvr) rfl
            · rw [decide_eq_false h3] at dvi
              exact og_ixL (j := 0) (d := .int _) rfl rfl (p :: L) vl vi Hi _ Ti.lv (dvl.mono (hide_same ei)) dvi fun vr Hr er dvr => fin _ _ Hr _ hd ((Ti.same er).setD (i := 11) dvr) rfl
          · rw [decide_eq_false hz3, if_neg (by decide)]
            exact fin _ _ _ _ (decA_ok hM o2) T5 rfl
        · rw [decide_eq_false hz2, if_neg (by decide)]
          exact ⟨_, _, ⟨ps, p1, up, rfl, rfl⟩, T3.blank [10]⟩
      · rw [decide_eq_false hz]
        dsimp only
        rw [if_neg (by decide)]
        exact ⟨_, _, ⟨ps, p1, up, rfl, rfl⟩, T2.blank [10]⟩
    · subst eΓ el
      dsimp only
      refine im_ret (im_e (T.let_ hp hsp (i := 9) rfl) (ev_tup (ea_cons (ev_str "cases") (ea_cons (ev_tupleL (ev_var rfl)) ea_nil)) (Nat.le_of_ble_eq_true rfl)) fun v H9 S9 _ dv => S9.done kQ ⟨M, .cases ps, rfl, rfl, p1⟩ dv)
end
end Nr
set_option Elab.async false
set_option linter.all false
set_option maxRecDepth 100000
set_option maxHeartbeats 4000000
/-! A dict as what is read, and as what is written. -/
namespace Nr
open PySem PySem.Spec PyProof.Rows L2
abbrev Tab := List (NestedKey × Dat)
inductive DR (G : Hp) : List XE → Tab → Prop
  | nil : DR G [] []
  | cons {k : NestedKey} {a v : Addr} {d : Dat} {xs : List XE} {kvs : Tab} : Dt G (.ref a) (kD k) → k.depth ≤ 8 → Dt G (.ref v) d → DR G xs kvs → DR G ((k, a, v) :: xs) ((k, d) :: kvs)
section
variable {P : Program} {w : World} {G G' H H' : Hp} {xs : List XE} {kvs : Tab} {k : NestedKey} {d : Dat}
theorem DR.mono (h : DR G xs kvs) (e : Same G G') : DR G' xs kvs := by
  induction h with
  | nil => exact .nil
  | cons h1 h2 h3 _ ih => exact .cons (h1.mono e) h2 (h3.mono e) ih
theorem DR.len (h : DR G xs kvs) : xs.length = kvs.length := by
  induction h with
  | nil => rfl
  | cons _ _ _ _ ih => rw [List.length_cons, List.length_cons, ih]
theorem DR.keys (h : DR G xs kvs) : ∀ x ∈ xs, Dt G (.ref x.2.1) (kD x.1) ∧ x.1.depth ≤ 8 := by
  induction h with
  | nil => exact fun x hx => absurd hx List.not_mem_nil
  | cons h1 h2 h3 _ ih =>
    intro x hx
    rcases List.mem_cons.mp hx with rfl | hx
    · exact ⟨h1, h2⟩
    · exact ih x hx
theorem DR.get (h : DR G xs kvs) (k : NestedKey) : (atX xs k).isSome = (dget kvs k).isSome ∧ ∀ d, dget kvs k = some d → ∃ a v, atX xs k = some (a, v) ∧ Dt G (.ref v) d := by
  induction h with
  | nil => exact ⟨rfl, fun d h => nomatch h⟩
  | @cons k' a v d' xs kvs h1 h2 h3 _ ih =>
    unfold atX dget at ih ⊢
    rw [List.find?_cons, List.find?_cons]
    show _ ∧ _
    dsimp only
    cases z : decide (k' = k) with
    | true => exact ⟨rfl, fun d h => by cases h; exact ⟨a, v, rfl, h3⟩⟩
    | false => exact ih
theorem dr_any (h : DR G xs kvs) (k : NestedKey) : (kvs.any fun kv => decide (kv.1 = k)) = (atX xs k).isSome := by
  induction h with
  | nil => rfl
  | @cons k' a v d' xs kvs h1 h2 h3 _ ih =>
    unfold atX at ih ⊢
    rw [List.any_cons, List.find?_cons]
    dsimp only
    cases z : decide (k' = k) with
    | true => rfl
    | false => rw [Bool.false_or]; exact ih
theorem DR.mapP (h : DR G xs kvs) {v : Addr} (h3 : Dt G (.ref v) d) : DR G (xs.map fun x => if x.1 = k then (x.1, x.2.1, v) else x) (kvs.map fun kv => if kv.1 = k then (kv.1, d) else kv) := by
  induction h with
  | nil => exact .nil
  | @cons k' a' v' d' xs kvs g1 g2 g3 _ ih =>
    rw [List.map_cons, List.map_cons]
    dsimp only
    by_cases z : k' = k
    · rw [if_pos z, if_pos z]
      exact .cons g1 g2 h3 ih
    · rw [if_neg z, if_neg z]
      exact .cons g1 g2 g3 ih
theorem DR.snoc (h : DR G xs kvs) {a v : Addr} (h1 : Dt G (.ref a) (kD k)) (h2 : k.depth ≤ 8) (h3 : Dt G (.ref v) d) : DR G (xs ++ [(k, a, v)]) (kvs ++ [(k, d)]) := by
  induction h with
  | nil => exact .cons h1 h2 h3 .nil
  | cons g1 g2 g3 _ ih => exact .cons g1 g2 g3 ih
theorem DR.put (h : DR G xs kvs) {a v : Addr} (h1 : Dt G (.ref a) (kD k)) (h2 : k.depth ≤ 8) (h3 : Dt G (.ref v) d) : DR G (putX xs k a v) (dput kvs k d) := by
  unfold putX dput
  rw [dr_any h k]
  split
  · exact h.mapP h3
  · exact h.snoc h1 h2 h3
theorem DR.at_ (h : DR G xs kvs) : ∀ {i : Nat} {x : NestedKey × Dat}, kvs[i]? = some x → ∃ a v, xs[i]? = some (x.1, a, v) ∧ Dt G (.ref a) (kD x.1) := by
  induction h with
  | nil => intro i x e; simp at e
  | cons h1 h2 h3 _ ih =>
    intro i x e
    cases i with
    | zero => cases e; exact ⟨_, _, rfl, h1⟩
    | succ j => exact ih e
theorem DR.vals (h : DR G xs kvs) : DtAll G (xs.map fun x => V.ref x.2.2) (kvs.map (·.2)) := by
  induction h with
  | nil => exact .nil
  | cons h1 h2 h3 _ ih => exact .cons h3 ih
/-- a dict that is read -/
def dicP (P : Program) (w : World) (kvs : Tab) : V → Hp → Prop := fun v G => ∃ d o xs, v = .ref d ∧ (d == sysModules) = false ∧ G d = some (dX d o) ∧ DX P w o xs ∧ DR G xs kvs
theorem dicP.dct {L : List Addr} {v : V} (h : dicP P w kvs v (hide H L)) : ∃ d o xs, v = .ref d ∧ Dct P w H d o xs ∧ DR (hide H L) xs kvs ∧ d ∉ L := by
  obtain ⟨d, o, xs, e, hs, hd, hx, hr⟩ := h
  exact ⟨d, o, xs, e, ⟨(hide_some hd).2, hs, hx, fun x m => ⟨(hr.keys x m).1.up, (hr.keys x m).2⟩⟩, hr, (hide_some hd).1⟩
variable {Γ : Gam}
theorem ev_xget {i : Nat} {ty : TE} (hi : Γ[i]? = some (.gen (dicP P w kvs))) (hk : EvG ty Γ (kD (.tup ks))) (hd : (NestedKey.tup ks).depth ≤ 8) (hg : dget kvs (.tup ks) = some d) : EvG (tOp (rXGet P w) (tVar i) ty) Γ d := fun L σ H Q lv he k => by
  obtain ⟨v, h1, h2⟩ := he.gen hi
  refine ⟨v, h1, hk L σ H _ lv he fun y H1 e1 dy => ?_⟩
  obtain ⟨dd, o, xs, rfl, D, R, _⟩ := dicP.dct (h2 _ (hide_same e1))
  obtain ⟨a, vv, h3, h4⟩ := (R.get (.tup ks)).2 d hg
  obtain ⟨p, ys, rfl, _⟩ := (show Dt (hide H1 L) y (.tuple false (kDs ks)) from dy).tup_of
  exact ⟨p, dd, o, _, xs, a, vv, rfl, rfl, dy.up, hd, D, h3, k _ H1 e1 h4⟩
theorem ev_xnotin {i : Nat} {ty : TE} (hi : Γ[i]? = some (.gen (dicP P w kvs))) (hk : EvG ty Γ (kD (.tup ks))) (hd : (NestedKey.tup ks).depth ≤ 8) : EvG (tOp (rXNotIn P w) ty (tVar i)) Γ (.bool (!(dget kvs (.tup ks)).isSome)) := fun L σ H Q lv he k =>
  hk L σ H _ lv he fun y H1 e1 dy => by
    obtain ⟨v, h1, h2⟩ := he.gen hi
    refine ⟨v, h1, ?_⟩
    obtain ⟨dd, o, xs, rfl, D, R, _⟩ := dicP.dct (h2 _ (hide_same e1))
    obtain ⟨p, ys, rfl, _⟩ := (show Dt (hide H1 L) y (.tuple false (kDs ks)) from dy).tup_of
    refine ⟨p, dd, o, _, xs, rfl, rfl, dy.up, hd, D, ?_⟩
    rw [(R.get (.tup ks)).1]
    exact k _ H1 e1 (.bl _)
theorem wg_x {i : Nat} (hi : Γ[i]? = some (.gen (dicP P w kvs))) : WalkG (iX P w (tVar i)) Γ (kvs.map fun kv => kD kv.1) := fun L σ H R lv he k => by
  obtain ⟨v, h1, h2⟩ := he.gen hi
  obtain ⟨dd, o, xs, rfl, D, hr, hn⟩ := dicP.dct (h2 _ (Same.refl _))
  refine ⟨_, h1, dd, o, xs, rfl, D, k _ H (Same.refl H) ⟨fun i H' hi e => ?_, fun H' e => ?_, fun i H' x H2 L2 d hd e y hL lv2 => ?_⟩⟩
  · rw [List.length_map] at hi
    exact ⟨(hide_some (e _ _ (by rw [hide_out hn]; exact D.at_))).2, by rw [hr.len]; exact hi⟩
  · rw [List.length_map]
    exact ⟨(hide_some (e _ _ (by rw [hide_out hn]; exact D.at_))).2, by rw [hr.len]; exact Nat.le_refl _⟩
  · obtain ⟨rfl, kk, p, vv, hx, rfl⟩ := y
    rw [List.getElem?_map] at hd
    obtain ⟨z, hz, rfl⟩ := Option.map_eq_some_iff.mp hd
    obtain ⟨a, v2, h3, h4⟩ := hr.at_ hz
    rw [hx] at h3
    cases h3
    exact ⟨Same.refl _, h4.mono (hide_ext e hL)⟩
theorem ev_xvals {i : Nat} (hi : Γ[i]? = some (.gen (dicP P w kvs))) : EvG (tCB (rXList P w) (tCons (tXVals P w (tVar i)) tNil)) Γ (.list (kvs.map (·.2))) := fun L σ H Q lv he k => by
  obtain ⟨v, h1, h2⟩ := he.gen hi
  obtain ⟨dd, o, xs, rfl, D, hr, hn⟩ := dicP.dct (h2 _ (Same.refl _))
  refine ⟨_, h1, dd, o, xs, rfl, D, fun v hv => ?_⟩
  have e1 := same_new hv (vX v dd)
  refine ⟨v, dd, o, xs, rfl, upd_same, ⟨e1 _ _ D.at_, D.sys, D.ob, fun x m => ⟨(D.keys x m).1.mono e1, (D.keys x m).2⟩⟩, fun q hq => ?_⟩
  have e2 := same_new hq (.lst (xs.map fun x => .ref x.2.2))
  refine k _ _ (e1.trans e2) (.lst (by rw [hide_out (live_new (live_mono lv e1) hq), upd_same]) (hr.vals.mono (hide_same (e1.trans e2))))
end

/-! ### a dict of one's own -/
structure SttD (P : Program) (w : World) (H0 : Hp) (L : List Addr) (d : Addr) (H : Hp) (σ : L2.St) (Γ : Gam) (kvs : Tab) : Prop where
  lv : Live (d :: L) H
  env : Env (hide H (d :: L)) σ Γ
  fr : Same (hide H0 [d]) H
  new : d ∉ L
  sys : (d == sysModules) = false
  hold : ∃ o xs, H d = some (dX d o) ∧ DX P w o xs ∧ DR (hide H (d :: L)) xs kvs
section
variable {P : Program} {w : World} {H0 H H' : Hp} {L : List Addr} {d : Addr} {σ : L2.St} {Γ Γ' : Gam} {kvs : Tab} {D : Ends}
theorem SttD.same (S : SttD P w H0 L d H σ Γ kvs) (e : Same H H') : SttD P w H0 L d H' σ Γ kvs :=
  ⟨live_mono S.lv e, S.env.mono (hide_same e), S.fr.trans e, S.new, S.sys, let ⟨o, xs, h1, h2, h3⟩ := S.hold; ⟨o, xs, e _ _ h1, h2, h3.mono (hide_same e)⟩⟩
theorem SttD.at_ (S : SttD P w H0 L d H σ Γ kvs) {σ' : L2.St} (he : Env (hide H (d :: L)) σ' Γ') : SttD P w H0 L d H σ' Γ' kvs := ⟨S.lv, he, S.fr, S.new, S.sys, S.hold⟩
theorem SttD.setD (S : SttD P w H0 L d H σ Γ kvs) {i : Nat} {v : V} {a : Dat} (h : Dt (hide H (d :: L)) v a) : SttD P w H0 L d H (σ.set i (some v)) (Γ.set i (.dat a)) kvs := S.at_ (S.env.setD h)
theorem SttD.blank (S : SttD P w H0 L d H σ Γ kvs) (vs : List Nat) : SttD P w H0 L d H σ (Nr.blank Γ vs) kvs := S.at_ (S.env.blank vs)
theorem Env.tellG {H : Hp} {σ : L2.St} {Γ : Gam} (h : Env H σ Γ) {i : Nat} {v : V} {φ : V → Hp → Prop} (hi : Γ[i]? = some (.val v)) (hd : ∀ H', Same H H' → φ v H') : Env H σ (Γ.set i (.gen φ)) := by
  have := h.set (i := i) (s := .gen φ) (x := some v) ⟨v, rfl, hd⟩
  have e : σ.set i (some v) = σ := by
    have h1 := h.val hi
    refine List.ext_getElem? fun j => ?_
    rw [List.getElem?_set]
    by_cases z : i = j
    · subst z
      rw [if_pos rfl, if_pos (List.getElem?_eq_some_iff.mp h1).1, h1]
    · rw [if_neg z]
  rwa [e] at this
/-- read as what it is; let go -/
theorem SttD.view (S : SttD P w H0 L d H σ Γ kvs) {i : Nat} (hi : Γ[i]? = some (.val (.ref d))) : Live L H ∧ Env (hide H L) σ (Γ.set i (.gen (dicP P w kvs))) := by
  obtain ⟨o, xs, h1, h2, h3⟩ := S.hold
  refine ⟨fun a ha => S.lv a (List.mem_cons_of_mem _ ha), (S.env.mono hide_less).tellG hi fun H' e => ⟨d, o, xs, rfl, S.sys, e _ _ (by rw [hide_out S.new]; exact h1), h2, h3.mono (fun a u q => e a u (hide_less a u q))⟩⟩
theorem SttD.start (lv : Live L H) (env : Env (hide H L) σ Γ) {i : Nat} {o : Obj} (hd : H d = none) (hs : (d == sysModules) = false) (hx : DX P w o []) : SttD P w H L d (upd H d (dX d o)) (σ.set i (some (.ref d))) (Γ.set i (.val (.ref d))) [] := by
  have e := same_new hd (dX d o)
  refine ⟨live_cons (live_mono lv e) upd_same, (env.mono (hide_more e hd)).setV _, fun a u q => e a u (hide_some q).2, live_new lv hd, hs, o, [], upd_same, hx, .nil⟩
theorem SttD.put (S : SttD P w H0 L d H σ Γ kvs) {k : NestedKey} {p vv : Addr} {dv : Dat} {o o' : Obj} {xs : List XE} (h1 : Dt (hide H (d :: L)) (.ref p) (kD k)) (h2 : k.depth ≤ 8) (h3 : Dt (hide H (d :: L)) (.ref vv) dv) (hr : DR (hide H (d :: L)) xs kvs) (hx : DX P w o' (putX xs k p vv)) :
    SttD P w H0 L d (upd H d (dX d o')) σ Γ (dput kvs k dv) := by
  have hm : d ∈ d :: L := List.mem_cons_self
  refine ⟨live_upd S.lv, by rw [hide_upd hm]; exact S.env, fun a u q => ?_, S.new, S.sys, o', _, upd_same, hx, by rw [hide_upd hm]; exact hr.put h1 h2 h3⟩
  have ha : a ≠ d := fun z => (hide_some q).1 (by rw [z]; exact List.mem_singleton_self _)
  rw [upd_ne ha]
  exact S.fr a u q
theorem SttD.base (S : SttD P w H0 L d H σ Γ kvs) : SttD P w H L d H σ Γ kvs := ⟨S.lv, S.env, hide_sub, S.new, S.sys, S.hold⟩
theorem SttD.back {H1 : Hp} {σ1 : L2.St} {Γ1 : Gam} {kvs1 : Tab} (S : SttD P w H0 L d H σ Γ kvs) (T : SttD P w H L d H1 σ1 Γ1 kvs1) : SttD P w H0 L d H1 σ1 Γ1 kvs1 :=
  ⟨T.lv, T.env, fun a u q => T.fr a u (by rw [hide_out (hide_some q).1]; exact S.fr a u q), T.new, T.sys, T.hold⟩
theorem SttD.samex (S : SttD P w H L d H' σ Γ kvs) : SameX (d :: L) H H' := fun a u q => by
  obtain ⟨h1, h2⟩ := hide_some q
  rw [hide_out h1]
  exact S.fr a u (by rw [hide_out fun z => h1 (by rw [List.mem_singleton.mp z]; exact List.mem_cons_self)]; exact h2)
theorem SttD.same0 (S : SttD P w H0 L d H σ Γ kvs) (h : H0 d = none) : Same H0 H := fun a u q => S.fr a u (by rw [hide_out fun z => by rw [List.mem_singleton.mp z, h] at q; cases q]; exact q)
theorem dm_e {te : TE} {a : Dat} {Q : VK} (S : SttD P w H0 L d H σ Γ kvs) (h : EvG te Γ a) (k : ∀ v H', SttD P w H0 L d H' σ Γ kvs → Same H H' → Dt (hide H' (d :: L)) v a → Q v H') : te σ H Q := h _ σ H Q S.lv S.env fun v H' e dv => k v H' (S.same e) e dv
theorem dm_t {tt : TT} {b : Bool} {Q : Bool → Hp → Prop} (S : SttD P w H0 L d H σ Γ kvs) (h : EvT tt Γ b) (k : ∀ H', SttD P w H0 L d H' σ Γ kvs → Same H H' → Q b H') : tt σ H Q := h _ σ H Q S.lv S.env fun H' e => k H' (S.same e) e
theorem dm_tv {i : Nat} {tt : TT} {b : Bool} {Q : Bool → Hp → Prop} (S : SttD P w H0 L d H σ Γ kvs) (hi : Γ[i]? = some (.val (.ref d))) (h : EvT tt (Γ.set i (.gen (dicP P w kvs))) b) (k : ∀ H', SttD P w H0 L d H' σ Γ kvs → Same H H' → Q b H') : tt σ H Q := by
  obtain ⟨lv, env⟩ := S.view hi
  exact h _ σ H Q lv env fun H' e => k H' (S.same e) e
theorem dm_s {ts : TS} (S : SttD P w H0 L d H σ Γ kvs) (h : Stm ts Γ none Γ') (k : ∀ σ' H', SttD P w H0 L d H' σ' Γ' kvs → Same H H' → D.nx σ' H') : ts D σ H :=
  h _ σ H D S.lv S.env (fun _ q => nomatch q) fun _ σ' H' e he => k σ' H' ((S.same e).at_ he) e
theorem dm_tg {g : TG} {vs : List Nat} {a : Dat} {v : V} {Q : L2.St → Hp → Prop} (S : SttD P w H0 L d H σ Γ kvs) (h : TgG g vs Γ a Γ') (dv : Dt (hide H (d :: L)) v a) (k : ∀ σ', SttD P w H0 L d H σ' Γ' kvs → Q σ' H) : g v σ H Q := h _ σ H v Q S.env dv fun σ' e _ => k σ' (S.at_ e)
/-- d[k] = v -/
theorem dm_put {i : Nat} {ty tv : TE} {ks : List NestedKey} {f : Bool} {ds : List Dat} (S : SttD P w H0 L d H σ Γ kvs) (hi : Γ[i]? = some (.val (.ref d))) (hv : EvG tv Γ (.tuple f ds)) (hk : EvG ty Γ (kD (.tup ks))) (hd : (NestedKey.tup ks).depth ≤ 8) (hz : kvs.length < 90000)
    (k : ∀ H', SttD P w H0 L d H' σ Γ (dput kvs (.tup ks) (.tuple f ds)) → D.nx σ H') : sXPut P w (tVar i) ty tv D σ H :=
  dm_e S hv fun v H1 S1 e1 dv => ⟨.ref d, S1.env.val hi, dm_e S1 hk fun y H2 S2 e2 dy => by
    obtain ⟨o, xs, h1, h2, h3⟩ := S2.hold
    have dv2 := dv.mono (hide_same e2)
    obtain ⟨vv, _, rfl, _⟩ := id dv2.tup_of
    obtain ⟨p, _, rfl, _⟩ := (show Dt (hide H2 (d :: L)) y (.tuple false (kDs ks)) from dy).tup_of
    refine ⟨d, p, vv, o, _, xs, rfl, rfl, rfl, dy.up, hd, ⟨h1, S2.sys, h2, fun x m => ⟨(h3.keys x m).1.up, (h3.keys x m).2⟩⟩, by rw [h3.len]; exact hz, fun o' hx => k _ (S2.put (o := o) dy hd dv2 h3 hx)⟩⟩
/-- a for -/
theorem dm_for {α : Type} {wi : TI} {g : TG} {tb : TS} {items : List α} {enc : α → Dat} (S : SttD P w H0 L d H σ Γ kvs) (hw : WalkG wi Γ (items.map enc)) (J : Nat → Gam → Tab → Prop) (h0 : J 0 Γ kvs)
    (hb : ∀ i x Γ' kvs' H1 σ' H' v, items[i]? = some x → J i Γ' kvs' → SttD P w H1 L d H' σ' Γ' kvs' → Dt (hide H' (d :: L)) v (enc x) → g v σ' H' fun σ2 H2 => tb { D with nx := fun σ3 H3 => ∃ Γ3 kvs3, J (i + 1) Γ3 kvs3 ∧ SttD P w H1 L d H3 σ3 Γ3 kvs3, ct := fun σ3 H3 => ∃ Γ3 kvs3, J (i + 1) Γ3 kvs3 ∧ SttD P w H1 L d H3 σ3 Γ3 kvs3, bk := D.nx } σ2 H2)
    (he : ∀ Γ' kvs' σ' H', J items.length Γ' kvs' → SttD P w H0 L d H' σ' Γ' kvs' → D.nx σ' H') : tFor wi g tb D σ H := hw _ σ H _ S.lv S.env fun C H1 e1 G => by
  have S1 := S.same e1
  refine ⟨fun i m σ' H' => m = items.length - i ∧ i ≤ items.length ∧ ∃ Γ' kvs', J i Γ' kvs' ∧ SttD P w H1 L d H' σ' Γ' kvs', ⟨_, rfl, Nat.zero_le _, Γ, kvs, h0, S1.base⟩, ?_⟩
  rintro i m σ' H' ⟨rfl, hi, Γ', kvs', hJ, T⟩
  have eX := T.samex
  by_cases hlt : i < items.length
  · have hx : items[i]? = some items[i] := List.getElem?_eq_getElem hlt
    have hd : (items.map enc)[i]? = some (enc items[i]) := by rw [List.getElem?_map, hx]; rfl
    refine .inr ⟨G.goes i H' (by rw [List.length_map]; exact hlt) eX, fun σ3 H3 => ∃ Γ3 kvs3, J (i + 1) Γ3 kvs3 ∧ SttD P w H1 L d H3 σ3 Γ3 kvs3, fun σ3 H3 h => ⟨_, by omega, rfl, hlt, h⟩, fun x H2 y => ?_⟩
    obtain ⟨e2, dx⟩ := G.yields i H' x H2 (d :: L) _ hd eX y (fun a ha => .inl ha) T.lv
    exact hb i _ Γ' kvs' H1 σ' H2 x hx hJ (T.same e2) dx
  · have ei : i = items.length := by omega
    subst ei
    refine .inl ⟨?_, he Γ' kvs' σ' H' hJ (S1.back T)⟩
    have := G.stops H' eX
    rw [List.length_map] at this
    exact this
end
/-! ### tables told by their keys -/
def nk (m : List Int) : NestedKey := .tup (m.map .num)
def kk (m : List Int) (a : Int) : NestedKey := .tup [nk m, .num a]
theorem kDs_ints : ∀ m : List Int, kDs (m.map .num) = m.map .int
  | [] => rfl
  | x :: m => by
    show kDs (.num x :: m.map .num) = .int x :: m.map .int
    rw [kDs, kDs_ints m, kD]
theorem kD_nk (m : List Int) : kD (nk m) = encI m := by
  show kD (.tup (m.map .num)) = _
  rw [kD, kDs_ints]
theorem kD_kk (m : List Int) (a : Int) : kD (kk m a) = .tuple false [encI m, .int a] := by
  show kD (.tup [nk m, .num a]) = _
  rw [kD, kDs, kDs, kDs, kD_nk, kD]
theorem nums_inj : ∀ {a b : List Int}, (a.map NestedKey.num) = b.map .num → a = b
  | [], [], _ => rfl
  | [], _ :: _, h => by simp at h
  | _ :: _, [], h => by simp at h
  | x :: a, y :: b, h => by
    rw [List.map_cons, List.map_cons] at h
    injection h with h1 h2
    injection h1 with h1
    rw [h1, nums_inj h2]
theorem nk_inj {a b : List Int} (h : nk a = nk b) : a = b := by
  unfold nk at h
  injection h with h
  exact nums_inj h
theorem kk_inj {a b : List Int} {x y : Int} (h : kk a x = kk b y) : a = b ∧ x = y := by
  unfold kk at h
  injection h with h
  injection h with h1 h2
  injection h2 with h2 _
  injection h2 with h2
  exact ⟨nk_inj h1, h2⟩
theorem depth_nums : ∀ m : List Int, NestedKey.depthAll (m.map .num) = 0
  | [] => by simp [NestedKey.depthAll]
  | x :: m => by
    show NestedKey.depthAll (.num x :: m.map .num) = 0
    simp [NestedKey.depthAll, NestedKey.depth, depth_nums m]
theorem nk_depth (m : List Int) : (nk m).depth ≤ 8 := by
  show (NestedKey.tup (m.map .num)).depth ≤ 8
  simp [NestedKey.depth, depth_nums]
theorem kk_depth (m : List Int) (a : Int) : (kk m a).depth ≤ 8 := by
  show (NestedKey.tup [.tup (m.map .num), .num a]).depth ≤ 8
  simp [NestedKey.depth, NestedKey.depthAll, depth_nums]
end Nr
set_option Elab.async false
set_option linter.all false
set_option maxRecDepth 100000
set_option maxHeartbeats 4000000
/-! The kinds of the program; checked. -/
namespace Nr
open PySem PySem.Spec PyProof.Rows L2
section
variable {P : Program} {w : World} {K : PySem.W.Frag} {mg : Str → Option Value} {base : Heap}
def kT (ks : List Kind) : Tab := ks.map fun k => (kk k.1 k.2.1, encI k.2.2)
theorem kT_any (ks : List Kind) (m : List Int) (a : Int) : ((kT ks).any fun kv => decide (kv.1 = kk m a)) = hasK ks m a := by
  unfold kT hasK
  rw [List.any_map]
  congr 1
  funext k
  show decide (kk k.1 k.2.1 = kk m a) = (decide (k.1 = m) && decide (k.2.1 = a))
  by_cases h : kk k.1 k.2.1 = kk m a
  · rw [decide_eq_true h, decide_eq_true (kk_inj h).1, decide_eq_true (kk_inj h).2]; rfl
  · rw [decide_eq_false h]
    by_cases h1 : k.1 = m
    · by_cases h2 : k.2.1 = a
      · exact absurd (by rw [h1, h2]) h
      · rw [decide_eq_false h2, Bool.and_false]
    · rw [decide_eq_false h1, Bool.false_and]
theorem kT_get (ks : List Kind) (m : List Int) (a : Int) : (dget (kT ks) (kk m a)).isSome = hasK ks m a := by rw [← dget_any, kT_any]
theorem kT_add (L : Lst) (ks : List Kind) (p : List Int × Int) : kT (addK L ks p) = if hasK ks (mtL L p.1) p.2 = true then kT ks else dput (kT ks) (kk (mtL L p.1) p.2) (encI p.1) := by
  unfold addK
  split
  · rfl
  · rename_i h
    unfold dput
    rw [kT_any, if_neg h]
    unfold kT
    rw [List.map_append]
    rfl
theorem kT_nd (L : Lst) (ps : List (List Int × Int)) : ((kT (kindsM L ps)).map (·.1)).Nodup := by
  have : ∀ (ps : List (List Int × Int)) (ks : List Kind), ((kT ks).map (·.1)).Nodup → ((kT (ps.foldl (addK L) ks)).map (·.1)).Nodup := by
    intro ps
    induction ps with
    | nil => intro ks h; exact h
    | cons p ps ih =>
      intro ks h
      refine ih _ ?_
      rw [kT_add]
      split
      · exact h
      · exact nodup_dput _ _ h
  exact this ps [] List.nodup_nil
theorem wants_ok {L : Lst} {W : Wnt} (hL : LOk L) (hW : WOk L W) : (∀ p ∈ wantsM L W, p.1.length = L.ws.length) ∧ (wantsM L W).length ≤ 512 := by
  cases W with
  | self =>
    refine ⟨fun p hp => ?_, by show ((casesOf L.ws).map _).length ≤ 512; rw [List.length_map]; exact cases_512 hL.1⟩
    obtain ⟨c, hc, rfl⟩ := List.mem_map.mp (show p ∈ (casesOf L.ws).map _ from hp)
    exact case_len c hc
  | list M =>
    refine ⟨fun p hp => ?_, by show ((casesOf L.ws).map _).length ≤ 512; rw [List.length_map]; exact cases_512 hL.1⟩
    obtain ⟨c, hc, rfl⟩ := List.mem_map.mp (show p ∈ (casesOf L.ws).map _ from hp)
    exact case_len c hc
  | cases ps => exact ⟨fun p hp => (hW.2.1 p hp).1.1, Nat.le_trans hW.1 (by decide)⟩
abbrev sp_kinds_of : Sp := spD 2 fun ds d => ∃ (L : Lst) (W : Wnt), ds = [encL L, encW W] ∧ LOk L ∧ WOk L W ∧ d = .list ((kindsM L (wantsM L W)).map encK)
theorem ok_kinds_of (Z : Zs mg) (D : Own K mg "kinds_of" "kinds_of" s_kinds_of) (C_wants : Cal P w K mg base "wants" 3 pp_wants sp_wants) (C_matches_in : Cal P w K mg base "matches_in" 1 pp_matches_in sp_matches_in) : Cal P w K mg base "kinds_of" 4 pp_kinds_of sp_kinds_of := by
  refine calD D sc_kinds_of rfl (fun _ _ _ _ _ _ us hl => match us, hl with | [_, _], _ => rfl) (fun f cdv A outer s H E hr => ⟨_, (pss_cons (ps_set (i := 2) sc_kinds_of.nd rfl (.inr rfl) (pe_xnew (P := P) (w := w))) (pss_cons (ps_for PassesOwn.never rfl (kx_piL (K := K) (pe_cal C_wants hr (by decide) (by rfl) (pa_cons (pv 0) (pa_cons (pv 1) pa_nil)))) (kx_pgT (K := K) (n := 2) rfl (pgs_cons (pg_name (i := 3) sc_kinds_of.nd rfl (.inr rfl)) (pgs_cons (pg_name (i := 4) sc_kinds_of.nd rfl (.inl rfl)) pgs_nil))) (pss_cons (ps_set (i := 5) sc_kinds_of.nd rfl (.inl rfl) (pe_callTy (kx_tuple (K := K)) (by rfl) Z.z_tuple PyProof.Rows.boot_tuple (pa_cons (pe_lc (own := [("number", 6)]) rfl sc_kinds_of.nd (pi_range1 (by rfl) Z.z_range (pa_cons (pe_callB (kx_len (K := K)) (by rfl) Z.z_len PySem.boot_len (pa_cons (pe_ix (kx_ixT (K := K)) (pv 0) pe_int (fun _ _ => rfl)) pa_nil)) pa_nil)) (blkOk_by (own := [("number", 6)]) (N := nm_kinds_of) (sc := defScope s_kinds_of) (by decide +kernel)) (fun _ _ _ _ _ => (pg_name (i := 6) sc_kinds_of.nd rfl (.inl rfl))) (fun _ _ _ _ _ => (pts_one (pt_val (pe_cal C_matches_in hr (by decide) (by rfl) (pa_cons (pv 0) (pa_cons (pv 6) (pa_cons (pv 3) pa_nil))))))) (fun _ _ _ _ _ => (pv 6))) pa_nil))) (pss_one (ps_if (pt_cmpR (kx_xnotin (P := P) (w := w) hr.units) (pe_tup (pa_cons (pv 5) (pa_cons (pv 4) pa_nil))) (pv 2) (by rfl)) (pss_one (ps_xput (P := P) (w := w) hr.units (pv 2) (pe_tup (pa_cons (pv 5) (pa_cons (pv 4) pa_nil))) (pv 3) (by rfl))) pss_nil)))) (pss_one (ps_ret (pe_lc (own := [("matching", 5), ("action", 4)]) rfl sc_kinds_of.nd (kx_piX (P := P) (w := w) (pv 2)) (blkOk_by (own := [("matching", 5), ("action", 4)]) (N := nm_kinds_of) (sc := defScope s_kinds_of) (by decide +kernel)) (fun _ _ _ _ _ => (kx_pgT (K := K) (n := 2) rfl (pgs_cons (pg_name (i := 5) sc_kinds_of.nd rfl (.inl rfl)) (pgs_cons (pg_name (i := 4) sc_kinds_of.nd rfl (.inl rfl)) pgs_nil)))) (fun _ _ _ _ _ => pts_nil) (fun _ _ _ _ _ => (pe_tup (pa_cons (pv 5) (pa_cons (pv 4) (pa_cons (pe_xget (P := P) (w := w) hr.units (pv 2) (pe_tup (pa_cons (pv 5) (pa_cons (pv 4) pa_nil))) (fun _ _ => rfl)) pa_nil)))))))))), fun ds d hR => ?body⟩)
  obtain ⟨M, W, rfl, hM, hW, rfl⟩ := hR
  obtain ⟨hps, hpl⟩ := wants_ok hM hW
  have hn7 := hM.2.1
  refine ⟨some _, [], fun L σ H D lv env k1 _ => ?_, rfl⟩
  refine im_seq (im_asg fun dd o hd hs hx => ?_)
  have S := SttD.start lv env (i := 2) hd hs hx
  refine im_seq (dm_for (items := wantsM M W) (enc := encP) S (wg_list (ev_call (ea_cons (ev_var rfl) (ea_cons (ev_var rfl) ea_nil)) rfl ⟨M, W, rfl, hM, hW, rfl⟩)) (fun i Γ' kvs' => Γ' = [.dat (encL M), .dat (encW W), .val (.ref dd), .no, .no, .no, .no] ∧ kvs' = kT (kindsM M ((wantsM M W).take i))) ⟨rfl, rfl⟩ (fun i x Γ' kvs' Hb σ' H' v hx ⟨eΓ, ek⟩ T dv => ?_) fun Γ' kvs' σ' H' ⟨eΓ, ek⟩ T => ?_)
  · subst eΓ ek
    have hxl := hps x (List.mem_of_getElem? hx)
    have hkl := kinds_len M ((wantsM M W).take i)
    rw [List.length_take] at hkl
    refine dm_tg (vs := [3, 4]) T (tg_tup (tgs_cons (tg_name (by decide)) (tgs_cons (tg_name (by decide)) tgs_nil)) rfl) dv fun σ2 T1 => im_seq ?_
    refine dm_s (ts := tAsg _ _) T1 (st_asg (i := 5) (ev_tupleL (ev_lc (items := rg M.rules.length) (enc := Dat.int) (f := Dat.int) (p := fun n => mtch M n x.1) (vs := [6]) (wg_rngI (n := ((M.rules.length : Nat) : Int)) (ev_rgL hM (ev_var rfl)) (by omega) (by omega)) (fun _ _ => tg_name (by decide)) (fun n hn => et_B (ev_mtch hM (mem_rg.mp hn) hxl (ev_var rfl) (ev_var rfl) (ev_var rfl))) (fun _ _ _ => ev_var rfl) (by rw [rg_len]; omega)))) fun σ3 H3 T2 _ => ?_
    dsimp only
    have hkey : ∀ {Γ : Gam}, Γ[5]? = some (.dat (encI (mtL M x.1))) → Γ[4]? = some (.dat (.int x.2)) → EvG (tTup (tCons (tVar 5) (tCons (tVar 4) tNil))) Γ (kD (.tup [nk (mtL M x.1), .num x.2])) := fun h5 h4 => EvG.is (ev_tup (ea_cons (ev_var h5) (ea_cons (ev_var h4) ea_nil)) (Nat.le_of_ble_eq_true rfl)) (kD_kk _ _).symm
    refine im_if (dm_tv (i := 2) (b := !hasK (kindsM M ((wantsM M W).take i)) (mtL M x.1) x.2) T2 rfl (EvT.is (et_test (ev_xnotin rfl (hkey rfl rfl) (kk_depth _ _))) (by rw [← kT_get]; rfl)) fun H4 T3 _ => ?_)
    cases hk : hasK (kindsM M ((wantsM M W).take i)) (mtL M x.1) x.2 with
    | true =>
      rw [if_neg (by decide)]
      refine ⟨_, _, ⟨rfl, ?_⟩, T3.blank [3, 4, 5]⟩
      rw [kinds_take M _ i x hx, kT_add, if_pos hk]
    | false =>
      rw [if_pos (show (!false) = true from rfl)]
      refine dm_put (i := 2) T3 rfl (ev_var rfl) (hkey rfl rfl) (kk_depth _ _) (by unfold kT; rw [List.length_map]; omega) fun H5 T4 => ?_
      refine ⟨_, _, ⟨rfl, ?_⟩, T4.blank [3, 4, 5]⟩
      rw [kinds_take M _ i x hx, kT_add, if_neg (by rw [hk]; decide)]
      rfl
  · subst eΓ ek
    rw [List.take_length] at T
    dsimp only
    obtain ⟨lv2, env2⟩ := T.view (i := 2) rfl
    have hkl := kinds_len M (wantsM M W)
    have hw : WalkG (iX P w (tVar 2)) ([.dat (encL M), .dat (encW W), .gen (dicP P w (kT (kindsM M (wantsM M W)))), .no, .no, .no, .no]) ((kindsM M (wantsM M W)).map fun k => .tuple false [encI k.1, .int k.2.1]) := by
      have := wg_x (P := P) (w := w) (Γ := [.dat (encL M), .dat (encW W), .gen (dicP P w (kT (kindsM M (wantsM M W)))), .no, .no, .no, .no]) (i := 2) rfl
      unfold kT at this ⊢
      rw [List.map_map] at this
      have e : (((fun kv : NestedKey × Dat => kD kv.1) ∘ fun k : Kind => (kk k.1 k.2.1, encI k.2.2))) = fun k : Kind => Dat.tuple false [encI k.1, .int k.2.1] := by
        funext k
        exact kD_kk k.1 k.2.1
      rw [e] at this
      exact this
    refine im_ret ((ev_lc0 (items := kindsM M (wantsM M W)) (enc := fun k : Kind => .tuple false [encI k.1, .int k.2.1]) (f := encK) (vs := [5, 4]) (Γ1 := fun k => [.dat (encL M), .dat (encW W), .gen (dicP P w (kT (kindsM M (wantsM M W)))), .no, .dat (.int k.2.1), .dat (encI k.1), .no]) hw (fun k _ => tg_tup (tgs_cons (tg_name (by decide)) (tgs_cons (tg_name (by decide)) tgs_nil)) rfl)
      (fun k hk => ev_tup (ea_cons (ev_var rfl) (ea_cons (ev_var rfl) (ea_cons (ev_xget (ks := [nk k.1, .num k.2.1]) rfl (EvG.is (ev_tup (ea_cons (ev_var rfl) (ea_cons (ev_var rfl) ea_nil)) (Nat.le_of_ble_eq_true rfl)) (kD_kk _ _).symm) (kk_depth _ _) (dget_of_mem (kT_nd M _) (List.mem_map.mpr ⟨k, hk, rfl⟩))) ea_nil))) (Nat.le_of_ble_eq_true rfl)) (by omega)) L σ' H' _ lv2 env2 fun v H2 e2 dv => ?_)
    exact k1 _ rfl v H2 ((T.same0 hd).trans e2) dv
abbrev sp_checked : Sp := spD 3 fun ds d => ∃ (L : Lst) (W : Wnt) (f : Bool) (row : List Int), ds = [encL L, encW W, .tuple f (row.map .int)] ∧ LOk L ∧ WOk L W ∧ RowOk L.rules.length row ∧ d = .list ((kindsM L (wantsM L W)).map encK)
theorem ok_checked (Z : Zs mg) (D : Own K mg "checked" "checked" s_checked) (C_check_both : Cal P w K mg base "check_both" 7 pp_check_both sp_check_both) (C_check_row_of : Cal P w K mg base "check_row_of" 4 pp_check_row_of sp_check_row_of) (C_kinds_of : Cal P w K mg base "kinds_of" 4 pp_kinds_of sp_kinds_of) : Cal P w K mg base "checked" 8 pp_checked sp_checked := by
  refine calD D sc_checked rfl (fun _ _ _ _ _ _ us hl => match us, hl with | [_, _, _], _ => rfl) (fun f cdv A outer s H E hr => ⟨_, (pss_cons (ps_expr (pe_cal C_check_both hr (by decide) (by rfl) (pa_cons (pv 0) (pa_cons (pv 1) pa_nil)))) (pss_cons (ps_expr (pe_cal C_check_row_of hr (by decide) (by rfl) (pa_cons (pv 0) (pa_cons (pv 2) (pa_cons pe_str pa_nil))))) (pss_one (ps_ret (pe_cal C_kinds_of hr (by decide) (by rfl) (pa_cons (pv 0) (pa_cons (pv 1) pa_nil))))))), fun ds d hR => ?body⟩)
  obtain ⟨M, W, g, row, rfl, hM, hW, hrow, rfl⟩ := hR
  exact .ret (Γ' := []) (st_seq (st_drop (ev_call (ea_cons (ev_var rfl) (ea_cons (ev_var rfl) ea_nil)) rfl ⟨M, W, rfl, hM, hW, rfl⟩)) (st_seq (st_drop (ev_call (ea_cons (ev_var rfl) (ea_cons (ev_var rfl) (ea_cons (ev_str "row") ea_nil))) rfl ⟨M, g, row, _, rfl, hM.2.1, hrow, rfl⟩)) (st_ret (ev_call (ea_cons (ev_var rfl) (ea_cons (ev_var rfl) ea_nil)) rfl ⟨M, W, rfl, hM, hW, rfl⟩))))
end
end Nr
set_option Elab.async false
set_option linter.all false
set_option maxRecDepth 100000
set_option maxHeartbeats 4000000
/-! nearest. -/
namespace Nr
open PySem PySem.Spec PyProof.Rows L2
def layT (f : Lay) : Tab := f.map fun e => (nk e.1, datT false false e.2)
theorem layT_any (f : Lay) (k : List Int) : ((layT f).any fun kv => decide (kv.1 = nk k)) = f.any fun e => decide (e.1 = k) := by
  unfold layT
  rw [List.any_map]
  congr 1
  funext e
  show decide (nk e.1 = nk k) = decide (e.1 = k)
  exact decide_eq_decide.mpr ⟨nk_inj, fun h => by rw [h]⟩
theorem layT_get (k : List Int) : ∀ f : Lay, dget (layT f) (nk k) = (dget f k).map (datT false false)
  | [] => rfl
  | e :: f => by
    have ih := layT_get k f
    by_cases z : e.1 = k
    · rw [dget_pos z]
      show dget ((nk e.1, datT false false e.2) :: layT f) (nk k) = _
      rw [dget_pos (by rw [z])]
      rfl
    · rw [dget_neg z]
      show dget ((nk e.1, datT false false e.2) :: layT f) (nk k) = _
      rw [dget_neg (fun h => z (nk_inj h)), ih]
theorem layT_put (f : Lay) (k : List Int) (v : Told) : dput (layT f) (nk k) (datT false false v) = layT (dput f k v) := by
  unfold dput
  rw [layT_any]
  split
  · unfold layT
    rw [List.map_map, List.map_map]
    refine List.map_congr_left fun e _ => ?_
    show (if nk e.1 = nk k then (nk e.1, datT false false v) else (nk e.1, datT false false e.2)) = _
    by_cases z : e.1 = k
    · rw [if_pos (by rw [z])]
      show _ = (nk (if e.1 = k then (e.1, v) else e).1, datT false false (if e.1 = k then (e.1, v) else e).2)
      rw [if_pos z]
    · rw [if_neg fun h => z (nk_inj h)]
      show _ = (nk (if e.1 = k then (e.1, v) else e).1, datT false false (if e.1 = k then (e.1, v) else e).2)
      rw [if_neg z]
  · unfold layT
    rw [List.map_append]
    rfl
theorem layT_upd (f : Lay) (c : List Int × Told) : layT (upd1 f c) = if (dget f c.1).isNone = true ∨ (∃ v, dget f c.1 = some v ∧ ltP c.2 v = true) then dput (layT f) (nk c.1) (datT false false c.2) else layT f := by
  unfold upd1
  cases h : dget f c.1 with
  | none => rw [if_pos (.inl rfl), layT_put]
  | some v =>
    dsimp only
    cases h2 : ltP c.2 v with
    | true => rw [if_pos rfl, if_pos (.inr ⟨v, rfl, h2⟩), layT_put]
    | false =>
      rw [if_neg (by decide), if_neg]
      rintro (h3 | ⟨u, h3, h4⟩)
      · cases h3
      · cases h3
        rw [h2] at h4
        cases h4
section
variable {row : List Int} {ok : Nat → List Int → Int → Bool} {inc : List Int → Int → Int}
theorem dput_len {κ β : Type} [DecidableEq κ] (kvs : List (κ × β)) (k : κ) (v : β) : (dput kvs k v).length ≤ kvs.length + 1 := by
  unfold dput
  split
  · rw [List.length_map]; omega
  · rw [List.length_append]; exact Nat.le_refl _
theorem upd1_len (f : Lay) (c : List Int × Told) : (upd1 f c).length ≤ f.length + 1 := by
  unfold upd1
  split
  · exact dput_len _ _ _
  · split
    · exact dput_len _ _ _
    · omega
/-- the entry's fold so far -/
def entF (row : List Int) (ok : Nat → List Int → Int → Bool) (inc : List Int → Int → Int) (i : Nat) (e : List Int × Told) (q : Nat) (f : Lay) : Lay := (row.take q).foldl (fun f x => if ok i e.1 x = true then upd1 f (cand inc e x) else f) f
theorem entF_len (i : Nat) (e : List Int × Told) (f : Lay) : ∀ (q : Nat), (entF row ok inc i e q f).length ≤ f.length + row.length := by
  have : ∀ (r : List Int) (f : Lay), (r.foldl (fun f x => if ok i e.1 x = true then upd1 f (cand inc e x) else f) f).length ≤ f.length + r.length := by
    intro r
    induction r with
    | nil => intro f; exact Nat.le_refl _
    | cons x r ih =>
      intro f
      have h1 := ih (if ok i e.1 x = true then upd1 f (cand inc e x) else f)
      have h2 : (if ok i e.1 x = true then upd1 f (cand inc e x) else f).length ≤ f.length + 1 := by
        split
        · exact upd1_len _ _
        · omega
      show (r.foldl _ (if ok i e.1 x = true then upd1 f (cand inc e x) else f)).length ≤ _
      rw [List.length_cons]
      omega
  intro q
  have h := this (row.take q) f
  rw [List.length_take] at h
  unfold entF
  omega
theorem entF_succ (i : Nat) (e : List Int × Told) (q : Nat) (f : Lay) (x : Int) (h : row[q]? = some x) : entF row ok inc i e (q + 1) f = if ok i e.1 x = true then upd1 (entF row ok inc i e q f) (cand inc e x) else entF row ok inc i e q f := by
  unfold entF
  rw [List.take_add_one, h, List.foldl_append]
  rfl
theorem entF_all (i : Nat) (e : List Int × Told) (f : Lay) : entF row ok inc i e row.length f = stepEntry row ok inc i e f := by
  unfold entF stepEntry
  rw [List.take_length]
/-- the layer's fold so far -/
def layF (row : List Int) (ok : Nat → List Int → Int → Bool) (inc : List Int → Int → Int) (i : Nat) (lay : Lay) (j : Nat) : Lay := (lay.take j).foldl (fun f e => stepEntry row ok inc i e f) []
theorem layF_succ (i : Nat) (lay : Lay) (j : Nat) (e : List Int × Told) (h : lay[j]? = some e) : layF row ok inc i lay (j + 1) = stepEntry row ok inc i e (layF row ok inc i lay j) := by
  unfold layF
  rw [List.take_add_one, h, List.foldl_append]
  rfl
theorem layF_len (i : Nat) (lay : Lay) : ∀ j, (layF row ok inc i lay j).length ≤ lay.length * row.length := by
  have : ∀ (l : Lay) (f : Lay), (l.foldl (fun f e => stepEntry row ok inc i e f) f).length ≤ f.length + l.length * row.length := by
    intro l
    induction l with
    | nil => intro f; exact Nat.le_add_right _ _
    | cons e l ih =>
      intro f
      have h1 := ih (stepEntry row ok inc i e f)
      have h2 := entF_len (row := row) (ok := ok) (inc := inc) i e f row.length
      rw [entF_all] at h2
      show (l.foldl _ (stepEntry row ok inc i e f)).length ≤ _
      rw [List.length_cons, Nat.succ_mul]
      omega
  intro j
  have h := this (lay.take j) []
  rw [List.length_nil, Nat.zero_add] at h
  refine Nat.le_trans h (Nat.mul_le_mul_right _ ?_)
  rw [List.length_take]
  exact Nat.min_le_right _ _
theorem layF_all (i : Nat) : layF row ok inc i (layerAt row ok inc i) (layerAt row ok inc i).length = layerAt row ok inc (i + 1) := by
  unfold layF
  rw [List.take_length]
  rfl
theorem layerAt_len (h5 : row.length ≤ 5) : ∀ i, (layerAt row ok inc i).length ≤ 5 ^ i
  | 0 => by simp [layerAt]
  | i + 1 => by
    have h1 := layerAt_len h5 i
    have h2 := layF_len (row := row) (ok := ok) (inc := inc) i (layerAt row ok inc i) (layerAt row ok inc i).length
    rw [layF_all] at h2
    calc _ ≤ _ := h2
      _ ≤ 5 ^ i * 5 := Nat.mul_le_mul h1 h5
      _ = 5 ^ (i + 1) := (Nat.pow_succ ..).symm
theorem take_idx (x : Int) : ∀ row : List Int, row.take (row.idxOf x) = row.takeWhile fun o => !decide (o = x)
  | [] => rfl
  | y :: row => by
    by_cases h : y = x
    · subst h
      rw [idx_self, List.take_zero, List.takeWhile_cons]
      simp
    · rw [idx_other row (Ne.symm h), List.take_succ_cons, List.takeWhile_cons, take_idx x row]
      simp [h]
end
section
variable {P : Program} {w : World} {K : PySem.W.Frag} {mg : Str → Option Value} {base : Heap}
theorem st_asgT {Γ Γ' : Gam} {te : TE} {g : TG} {d : Dat} {vs : List Nat} (h : EvG te Γ d) (hg : TgG g vs Γ d Γ') : Stm (tAsg te g) Γ none Γ' := fun L σ H D lv he _ k => h L σ H _ lv he fun v H1 e1 d1 => hg L σ H1 v _ (he.mono (hide_same e1)) d1 fun σ' he' _ => k rfl σ' H1 e1 he'
abbrev sp_nearest : Sp := spD 5 fun ds d => ∃ (L : Lst) (W : Wnt) (row : List Int) (number place : Int), ds = [encL L, encW W, encZ row, .int number, .int place] ∧ LOk L ∧ L.rules.length ≤ 5 ∧ WOk L W ∧ RowOk L.rules.length row ∧ wrongK (actL L) L.rest (kindsM L (wantsM L W)) row = none ∧ (0 ≤ number ∧ number < (L.rules.length : Int)) ∧ (0 ≤ place ∧ place < (L.rules.length : Int)) ∧
  d = optC (nearestM (actL L) (kindsM L (wantsM L W)) row number place)
section
variable {Γ Γ' : Gam} {D : Ends} {H0 H : Hp} {L : List Addr} {d : Addr} {σ : L2.St} {kvs : Tab}
/-- the first table -/
theorem st_one {i : Nat} : Stm (tAsg (tXOne P w (tTup tNil) (tTup (tCons (tC (.int 0)) (tCons (tTup tNil) tNil)))) (gName i)) Γ none (Γ.set i (.gen (dicP P w (layT [([], (0, []))])))) := fun L σ H D lv env _ k2 => by
  intro d o hd hs
  have e0 := same_new hd (dX d o)
  have lv1 : Live (d :: L) (upd H d (dX d o)) := live_cons (live_mono lv e0) upd_same
  have env1 : Env (hide (upd H d (dX d o)) (d :: L)) σ Γ := env.mono (hide_more e0 hd)
  refine ev_tup (ea_nil (Γ := Γ)) (Nat.zero_le _) (d :: L) σ _ _ lv1 env1 fun x H1 e1 dx => ?_
  refine ev_tup (Γ := Γ) (ea_cons (ev_int 0) (ea_cons (ev_tup ea_nil (Nat.zero_le _)) ea_nil)) (Nat.le_of_ble_eq_true rfl) (d :: L) σ _ _ (live_mono lv1 e1) (env1.mono (hide_same e1)) fun y H2 e2 dy => ?_
  have dx2 := dx.mono (hide_same e2)
  obtain ⟨p, _, rfl, _⟩ := id dx2.tup_of
  obtain ⟨v, _, rfl, _⟩ := id dy.tup_of
  have hp : Dt (hide H2 (d :: L)) (.ref p) (kD (nk [])) := by rw [kD_nk]; exact dx2
  have hat : H2 d = some (dX d o) := (e1.trans e2) _ _ upd_same
  refine ⟨p, v, nk [], hat, rfl, hp.up, nk_depth _, fun o' hx => ?_⟩
  have eH : Same H (upd H2 d (dX d o')) := fun a u q => by
    rw [upd_ne (ne_of_none q hd)]
    exact (e1.trans e2) a u (e0 a u q)
  have eM : Same (hide H2 (d :: L)) (hide (upd H2 d (dX d o')) L) := fun a u q => by
    obtain ⟨h1, h2⟩ := hide_some q
    rw [hide_out fun z => h1 (List.mem_cons_of_mem _ z), upd_ne fun z => h1 (by rw [z]; exact List.mem_cons_self)]
    exact h2
  refine k2 rfl _ _ eH ((env.mono (hide_same eH)).set (s := .gen _) (x := some (.ref d)) ⟨_, rfl, fun H' e => ⟨d, o', [(nk [], p, v)], rfl, hs, e _ _ (by rw [hide_out (live_new lv hd)]; exact upd_same), hx, ?_⟩⟩)
  exact .cons ((hp.mono eM).mono e) (nk_depth _) ((dy.mono eM).mono e) .nil
/-- a table of one's own handed to a name -/
theorem dm_hand {i j : Nat} (S : SttD P w H0 L d H σ Γ kvs) (hi : Γ[i]? = some (.val (.ref d))) (hn : H0 d = none) (k : ∀ σ', Same H0 H → Live L H → Env (hide H L) σ' ((Γ.set i (.gen (dicP P w kvs))).set j (.gen (dicP P w kvs))) → D.nx σ' H) : tAsg (tVar i) (gName j) D σ H := by
  obtain ⟨lv, env⟩ := S.view hi
  obtain ⟨v, hv, hφ⟩ := env.gen (i := i) (φ := dicP P w kvs) (by rw [List.getElem?_set_self (List.getElem?_eq_some_iff.mp hi).1])
  exact ⟨v, hv, k _ (S.same0 hn) lv (env.set (s := .gen _) (x := some v) ⟨v, rfl, hφ⟩)⟩
end
theorem ev_newer {Γ : Gam} {F : Lay} {c : List Int × Told} (h8 : Γ[8]? = some (.gen (dicP P w (layT F)))) (h15 : Γ[15]? = some (.dat (encI c.1))) (h14 : Γ[14]? = some (.dat (datT false false c.2))) :
    ∃ bb, EvT (tOr (tTest (tOp (rXNotIn P w) (tVar 15) (tVar 8))) (tTest (tOp (rLtP K) (tVar 14) (tOp (rXGet P w) (tVar 8) (tVar 15))))) Γ bb ∧ layT (upd1 F c) = if bb = true then dput (layT F) (nk c.1) (datT false false c.2) else layT F := by
  have hg := layT_get c.1 F
  have hk : EvG (tVar 15) Γ (kD (.tup (c.1.map .num))) := EvG.is (ev_var h15) (kD_nk c.1).symm
  have h1 := et_test (ev_xnotin h8 hk (nk_depth c.1))
  change EvT _ Γ (!(dget (layT F) (nk c.1)).isSome) at h1
  rw [layT_upd]
  cases h : dget F c.1 with
  | none =>
    rw [h] at hg
    rw [hg] at h1
    exact ⟨true, EvT.is (c := true || true) (et_or h1 fun q => nomatch q) rfl, by rw [if_pos (.inl rfl), if_pos rfl]⟩
  | some v =>
    rw [h] at hg
    rw [hg] at h1
    refine ⟨ltP c.2 v, EvT.is (c := false || ltP c.2 v) (et_or h1 fun _ => et_test (ev_op (ev_var h14) (ev_xget (d := datT false false v) h8 hk (nk_depth c.1) hg) og_ltP)) (Bool.false_or _), ?_⟩
    cases h2 : ltP c.2 v with
    | true => rw [if_pos (.inr ⟨v, rfl, h2⟩), if_pos rfl]
    | false =>
      rw [if_neg, if_neg (by decide)]
      rintro (h3 | ⟨u, h3, h4⟩)
      · cases h3
      · cases h3
        rw [h2] at h4
        cases h4
/-- where the loop over the row stands -/
def gIn (M : Lst) (W : Wnt) (row : List Int) (number place : Int) (ks : List Kind) (lay : Lay) (i : Nat) (dd : Addr) (P : Program) (w : World) (s9 s10 s11 : Slot) : Gam :=
  [.dat (encL M), .dat (encW W), .dat (encZ row), .dat (.int number), .dat (.int place), .dat (.list (ks.map encK)), .gen (dicP P w (layT lay)), .dat (.int (i : Int)), .val (.ref dd), s9, s10, s11, .no, .no, .no, .no, .no]
theorem ok_nearest (Z : Zs mg) (D : Own K mg "nearest" "nearest" s_nearest) (C_checked : Cal P w K mg base "checked" 8 pp_checked sp_checked) (C_need_right : Cal P w K mg base "need_right" 3 pp_need_right sp_need_right) (C_is_whole : Cal P w K mg base "is_whole" 1 pp_is_whole sp_is_whole) (C_barred : Cal P w K mg base "barred" 1 pp_barred sp_barred) : Cal P w K mg base "nearest" 9 pp_nearest sp_nearest := by
  refine calD D sc_nearest rfl (fun _ _ _ _ _ _ us hl => match us, hl with | [_, _, _, _, _], _ => rfl) (fun f cdv A outer s H E hr => ⟨_, (pss_cons (ps_set (i := 5) sc_nearest.nd rfl (.inl rfl) (pe_cal C_checked hr (by decide) (by rfl) (pa_cons (pv 0) (pa_cons (pv 1) (pa_cons (pv 2) pa_nil))))) (pss_cons (ps_if (pt_not (pt_val (pe_cal C_is_whole hr (by decide) (by rfl) (pa_cons (pv 3) (pa_cons pe_int (pa_cons (pe_op op_sub (pe_callB (kx_len (K := K)) (by rfl) Z.z_len PySem.boot_len (pa_cons (pv 2) pa_nil)) pe_int) pa_nil)))))) (pss_one ps_never) pss_nil) (pss_cons (ps_if (pt_not (pt_val (pe_cal C_is_whole hr (by decide) (by rfl) (pa_cons (pv 4) (pa_cons pe_int (pa_cons (pe_op op_sub (pe_callB (kx_len (K := K)) (by rfl) Z.z_len PySem.boot_len (pa_cons (pv 2) pa_nil)) pe_int) pa_nil)))))) (pss_one ps_never) pss_nil) (pss_cons (ps_expr (pe_cal C_need_right hr (by decide) (by rfl) (pa_cons (pv 0) (pa_cons (pv 5) (pa_cons (pv 2) pa_nil))))) (pss_cons (ps_set (i := 6) sc_nearest.nd rfl (.inl rfl) (pe_xone (P := P) (w := w) hr.units (pe_tup pa_nil) (pe_tup (pa_cons pe_int (pa_cons (pe_tup pa_nil) pa_nil))))) (pss_cons (ps_for PassesOwn.never rfl (pi_range1 (by rfl) Z.z_range (pa_cons (pe_callB (kx_len (K := K)) (by rfl) Z.z_len PySem.boot_len (pa_cons (pv 2) pa_nil)) pa_nil)) (pg_name (i := 7) sc_nearest.nd rfl (.inl rfl)) (pss_cons (ps_set (i := 8) sc_nearest.nd rfl (.inl rfl) (pe_xnew (P := P) (w := w))) (pss_cons (ps_for PassesOwn.never rfl (kx_piX (P := P) (w := w) (pv 6)) (pg_name (i := 9) sc_nearest.nd rfl (.inr rfl)) (pss_cons (ps_asg (pe_xget (P := P) (w := w) hr.units (pv 6) (pv 9) (fun _ _ => rfl)) (kx_pgT (K := K) (n := 2) rfl (pgs_cons (pg_name (i := 10) sc_nearest.nd rfl (.inl rfl)) (pgs_cons (pg_name (i := 11) sc_nearest.nd rfl (.inl rfl)) pgs_nil)))) (pss_one (ps_for PassesOwn.never rfl (kx_piT (K := K) (pv 2)) (pg_name (i := 12) sc_nearest.nd rfl (.inl rfl)) (pss_cons (ps_if (PW.pt (pw_or (pt_cmpR (kx_in (K := K)) (pv 12) (pv 9) (by rfl)) (pw_or (pt_cmpR op_ne (pe_cmpR op_eq (pv 12) (pv 3) (nomark _)) (pe_cmpR op_eq (pv 7) (pv 4) (nomark _)) (nomark _)) (pw_or1 (pt_cmpR op_notN (pe_cal C_barred hr (by decide) (by rfl) (pa_cons (pv 0) (pa_cons (pv 5) (pa_cons (pv 9) (pa_cons (pv 12) pa_nil))))) pe_non (nomark _)))))) (pss_one ps_continue) pss_nil) (pss_cons (ps_setLc (i := 13) (own := [("other", 16)]) rfl sc_nearest.nd rfl rfl (sw_true rfl rfl rfl (by decide +kernel)) (kx_piT (K := K) (pe_slice (kx_slT (K := K)) (pv 2) po_none (po_some (pe_bmT PySem.F.slot_tuple_index PySem.F.type_tuple_index (kx_tindex (K := K)) (pv 2) (pa_cons (pv 12) pa_nil))))) (blkOk_by (own := [("other", 16)]) (N := nm_nearest) (sc := defScope s_nearest) (by decide +kernel)) (fun _ _ _ _ _ => (pg_name (i := 16) sc_nearest.nd rfl (.inl rfl))) (fun _ _ _ _ _ => (pts_one (pt_cmpR (kx_notIn (K := K)) (pv 16) (pv 9) (by rfl)))) (fun _ _ _ _ _ => (pv 16))) (pss_cons (ps_set (i := 14) sc_nearest.nd rfl (.inl rfl) (pe_tup (pa_cons (pe_op op_add (pv 10) (pe_callB (kx_len (K := K)) (by rfl) Z.z_len PySem.boot_len (pa_cons (pv 13) pa_nil))) (pa_cons (pe_op (kx_catA (K := K)) (pv 11) (pe_tup (pa_cons (pv 12) pa_nil))) pa_nil)))) (pss_cons (ps_set (i := 15) sc_nearest.nd rfl (.inl rfl) (pe_callTy (kx_tuple (K := K)) (by rfl) Z.z_tuple PyProof.Rows.boot_tuple (pa_cons (pe_callB (kx_sortedT (K := K) hr.units) (by rfl) Z.z_sorted PyProof.Rows.boot_sorted (pa_cons (pe_op (kx_catA (K := K)) (pv 9) (pe_tup (pa_cons (pv 12) pa_nil))) pa_nil)) pa_nil))) (pss_one (ps_if (PW.pt (pw_or (pt_cmpR (kx_xnotin (P := P) (w := w) hr.units) (pv 15) (pv 8) (by rfl)) (pw_or1 (pt_cmpR (kx_ltP (K := K) hr.units) (pv 14) (pe_xget (P := P) (w := w) hr.units (pv 8) (pv 15) (fun _ _ => rfl)) (nomark _))))) (pss_one (ps_xput (P := P) (w := w) hr.units (pv 8) (pv 15) (pv 14) (by rfl))) pss_nil)))))))))) (pss_one (ps_set (i := 6) sc_nearest.nd rfl (.inl rfl) (pv 8)))))) (pss_cons (ps_set (i := 14) sc_nearest.nd rfl (.inl rfl) (pe_callB (kx_sortedP (K := K) hr.units) (by rfl) Z.z_sorted PyProof.Rows.boot_sorted (pa_cons (pe_callTy (kx_xlist (P := P) (w := w) rfl) (by rfl) Z.z_list PyProof.Rows.boot_list (pa_cons (pe_xvals (P := P) (w := w) (pv 6)) pa_nil)) pa_nil))) (pss_one (ps_ret (pe_ifExp (kx_truth (K := K) (pv 14)) (pe_ix (kx_ixT (K := K)) (pe_ix (kx_ixL (K := K)) (pv 14) pe_int (fun _ _ => rfl)) pe_int (fun _ _ => rfl)) pe_non)))))))))), fun ds d hR => ?body⟩)
  obtain ⟨M, W, row, number, place, rfl, hM, h5, hW, hrow, hwr, hnum, hpl, rfl⟩ := hR
  have hrl := (rows_mem.mp hrow).1
  have hrm : ∀ n ∈ row, NumOk M n := fun n hn => mem_rg.mp ((rows_mem.mp hrow).2.2 n hn)
  have hnd := (rows_mem.mp hrow).2.1
  generalize hks : kindsM M (wantsM M W) = ks at hwr ⊢
  have hkl : ks.length ≤ 512 := by rw [← hks]; exact Nat.le_trans (kinds_len M _) (wants_ok hM hW).2
  refine .mk (o := some (optC (nearestM (actL M) ks row number place))) (Γ' := []) (st_seq (st_asg (ev_call (ea_cons (ev_var rfl) (ea_cons (ev_var rfl) (ea_cons (ev_var rfl) ea_nil))) rfl ⟨M, W, true, row, rfl, hM, hW, hrow, by rw [hks]⟩))
    (st_seq (st_skip (EvT.is (et_not (et_B (ev_btw (ev_var rfl) (ev_int 0) (ev_subI (EvG.is (ev_lenT (ev_var rfl)) (by rw [List.length_map])) (ev_int 1))))) ?t1))
    (st_seq (st_skip (EvT.is (et_not (et_B (ev_btw (ev_var rfl) (ev_int 0) (ev_subI (EvG.is (ev_lenT (ev_var rfl)) (by rw [List.length_map])) (ev_int 1))))) ?t2))
    (st_seq (st_drop (ev_call (ea_cons (ev_var rfl) (ea_cons (ev_var rfl) (ea_cons (ev_var rfl) ea_nil))) rfl ⟨M, true, row, ks, rfl, hrm, by omega, hwr, rfl⟩))
    (st_seq (Γ1 := [.dat (encL M), .dat (encW W), .dat (encZ row), .dat (.int number), .dat (.int place), .dat (.list (ks.map encK)), .gen (dicP P w (layT (layersM (actL M) ks row number place 0))), .no, .no, .no, .no, .no, .no, .no, .no, .no, .no]) st_one
    (st_seq (st_forF (vs := [7]) (items := List.range row.length) (enc := fun i : Nat => Dat.int (i : Int)) (S := fun i => [.dat (encL M), .dat (encW W), .dat (encZ row), .dat (.int number), .dat (.int place), .dat (.list (ks.map encK)), .gen (dicP P w (layT (layersM (actL M) ks row number place i))), .no, .no, .no, .no, .no, .no, .no, .no, .no, .no])
      (Γ1 := fun i x => [.dat (encL M), .dat (encW W), .dat (encZ row), .dat (.int number), .dat (.int place), .dat (.list (ks.map encK)), .gen (dicP P w (layT (layersM (actL M) ks row number place i))), .dat (.int (x : Int)), .no, .no, .no, .no, .no, .no, .no, .no, .no]) (wg_rngN (EvG.is (ev_lenT (ev_var rfl)) (by rw [List.length_map])) (by omega)) (fun _ _ h => h) (fun i x _ => tg_name (by decide)) (fun i x hx => ?b))
    (st_seq (st_asg (i := 14) (d := .list ((sortP ((layersM (actL M) ks row number place row.length).map (·.2))).map (datT false false))) (ev_cb (ea_cons (EvG.is (ev_xvals (P := P) (w := w) (i := 6) (kvs := layT (layersM (actL M) ks row number place row.length)) ?v1) ?v2) ea_nil) (cg_sortedP ?v3)))
    (st_ret ?r)))))))) rfl
  case t1 => simp; omega
  case t2 => simp; omega
  case v1 => rw [List.length_range]; rfl
  case v2 =>
    unfold layT
    rw [List.map_map, List.map_map]
    rfl
  case v3 =>
    rw [List.length_map]
    have := layerAt_len (row := row) (ok := okM (actL M) ks number place) (inc := incM row) (by omega) row.length
    have h3 : (5 : Nat) ^ row.length ≤ 5 ^ 5 := Nat.pow_le_pow_right (by decide) (by omega)
    unfold layersM
    omega
  case r =>
    unfold nearestM
    rw [List.length_range]
    cases hl : sortP ((layersM (actL M) ks row number place row.length).map (·.2)) with
    | nil => exact ev_if (c := false) (et_truth (ev_var rfl) rfl (fun _ z => nomatch z)) (fun q => nomatch q) fun _ => ev_non
    | cons t l => exact ev_if (c := true) (et_truth (ev_var rfl) rfl (fun _ z => nomatch z)) (fun _ => ev_ixT (ds := [.int t.1, encI t.2]) 1 (ev_ixL 0 (ev_var rfl) (ev_int 0)) (ev_int 1)) fun q => nomatch q
  case b =>
    have hi : i < row.length := by have := (List.getElem?_eq_some_iff.mp hx).1; rwa [List.length_range] at this
    have hxi : x = i := by
      rw [List.getElem?_range hi] at hx
      exact (Option.some.inj hx).symm
    subst hxi
    have hL := linv_at (row := row) (ok_perm (actL M) ks number place) (inc_perm row) x
    have hl5 : (layersM (actL M) ks row number place x).length ≤ 3125 := by
      have := layerAt_len (row := row) (ok := okM (actL M) ks number place) (inc := incM row) (by omega) x
      have h3 : (5 : Nat) ^ x ≤ 5 ^ 5 := Nat.pow_le_pow_right (by decide) (by omega)
      unfold layersM
      omega
    have hstep : layersM (actL M) ks row number place (x + 1) = layF row (okM (actL M) ks number place) (incM row) x (layersM (actL M) ks row number place x) (layersM (actL M) ks row number place x).length := (layF_all x).symm
    change LInv row (okM (actL M) ks number place) (incM row) x (layersM (actL M) ks row number place x) at hL
    rw [hstep]
    generalize layersM (actL M) ks row number place x = lay at hL hl5 ⊢
    intro L σ H D lv env _ k2
    refine im_seq (im_asg fun dd o hd hs hx2 => ?_)
    have S := SttD.start lv env (i := 8) hd hs hx2
    dsimp only
    refine im_seq (dm_for (items := lay) (enc := fun e => encI e.1) S ?wx (fun j Γ' kvs' => Γ' = gIn M W row number place ks lay x dd P w .no .no .no ∧ kvs' = layT (layF row (okM (actL M) ks number place) (incM row) x lay j)) ⟨rfl, rfl⟩ (fun j e Γ' kvs' Hb σ' H' v he ⟨eΓ, ek⟩ T dv => ?_) fun Γ' kvs' σ' H' ⟨eΓ, ek⟩ T => ?_)
    case wx =>
      have := wg_x (P := P) (w := w) (kvs := layT lay) (Γ := gIn M W row number place ks lay x dd P w .no .no .no) (i := 6) rfl
      unfold layT at this
      rw [List.map_map] at this
      have ee : ((fun kv : NestedKey × Dat => kD kv.1) ∘ fun e : List Int × Told => (nk e.1, datT false false e.2)) = fun e : List Int × Told => encI e.1 := by
        funext e
        exact kD_nk e.1
      rw [ee] at this
      exact this
    · subst eΓ ek
      have hem := List.mem_of_getElem? he
      have hj : j < lay.length := (List.getElem?_eq_some_iff.mp he).1
      have hplen : e.1.length ≤ 5 := by
        have h1 := (hL.ent e hem).2.2
        have h2 := (hL.ent e hem).1.len
        rw [h1, (sortI_perm _).length_eq, h2]
        omega
      have hslen : e.2.2.length ≤ 5 := by
        have h2 := (hL.ent e hem).1.len
        omega
      have T1 := T.setD (i := 9) dv
      refine im_seq (dm_s (ts := tAsg _ _) T1 (st_asgT (vs := [10, 11]) (ev_xget (ks := e.1.map .num) (i := 6) (kvs := layT lay) (d := datT false false e.2) rfl (EvG.is (ev_var (i := 9) rfl) (kD_nk e.1).symm) (nk_depth e.1) ?gget) (tg_tup (tgs_cons (tg_name (by decide)) (tgs_cons (tg_name (by decide)) tgs_nil)) rfl)) fun σ2 H2 T2 _ => ?_)
      case gget =>
        show dget (layT lay) (nk e.1) = _
        rw [layT_get, dget_of_mem hL.nd (show (e.1, e.2) ∈ lay from hem)]
        rfl
      dsimp only
      refine dm_for (items := row) (enc := Dat.int) T2 (wg_tup (f := true) (ev_var rfl)) (fun q Γ' kvs' => Γ' = gIn M W row number place ks lay x dd P w (.dat (encI e.1)) (.dat (.int e.2.1)) (.dat (encI e.2.2)) ∧ kvs' = layT (entF row (okM (actL M) ks number place) (incM row) x e q (layF row (okM (actL M) ks number place) (incM row) x lay j))) ⟨rfl, rfl⟩
        (fun q one Γ' kvs' Hc σ3 H3 v3 hq ⟨eΓ, ek⟩ U dv3 => ?_) fun Γ' kvs' σ3 H3 ⟨eΓ, ek⟩ U => ?_
      · subst eΓ ek
        have hone := List.mem_of_getElem? hq
        have hqn : q < row.length := (List.getElem?_eq_some_iff.mp hq).1
        have hFl := entF_len (row := row) (ok := okM (actL M) ks number place) (inc := incM row) x e (layF row (okM (actL M) ks number place) (incM row) x lay j) q
        have hGl := layF_len (row := row) (ok := okM (actL M) ks number place) (inc := incM row) x lay j
        have hml : lay.length * row.length ≤ 3125 * 5 := Nat.mul_le_mul hl5 (by omega)
        have hsu := entF_succ (row := row) (ok := okM (actL M) ks number place) (inc := incM row) x e q (layF row (okM (actL M) ks number place) (incM row) x lay j) one hq
        generalize hF : entF row (okM (actL M) ks number place) (incM row) x e q (layF row (okM (actL M) ks number place) (incM row) x lay j) = F at hFl hsu U
        refine im_seq (im_if (dm_t (b := !okM (actL M) ks number place x e.1 one) (U.setD (i := 12) dv3) (EvT.is (et_or (et_test (ev_op (ev_var rfl) (ev_var rfl) og_inT)) fun _ => et_or (et_test (ev_op (ev_op (ev_var rfl) (ev_var rfl) og_eqI) (ev_op (ev_var rfl) (ev_var rfl) og_eqI) og_neB)) fun _ => et_test (ev_op (ev_call (ea_cons (ev_var rfl) (ea_cons (ev_var rfl) (ea_cons (ev_var rfl) (ea_cons (ev_var rfl) ea_nil)))) rfl ⟨M, false, e.1, one, ks, rfl, hrm one hone, by omega, rfl⟩) ev_non (og_notN (tn := ())))) ?eq) fun H4 U2 _ => ?_))
        case eq =>
          unfold okM
          rw [none_optC]
          show (decide (one ∈ e.1) || (!(decide (one = number) == decide ((x : Int) = place)) || !(barredM (actL M) ks e.1 one).isNone)) = _
          generalize decide (one ∈ e.1) = b1
          generalize (decide (one = number) == decide ((x : Int) = place)) = b2
          generalize (barredM (actL M) ks e.1 one).isNone = b3
          cases b1 <;> cases b2 <;> cases b3 <;> rfl
        cases hok : okM (actL M) ks number place x e.1 one with
        | false =>
          rw [if_pos (show (!false) = true from rfl)]
          refine ⟨_, _, ⟨rfl, ?_⟩, U2.blank [12]⟩
          rw [hsu, if_neg (by rw [hok]; decide)]
        | true =>
          rw [if_neg (by decide)]
          refine im_seq (dm_s (ts := tAsg _ _) U2 (st_asg (i := 13) (ev_lc (items := row.take (row.idxOf one)) (enc := Dat.int) (f := Dat.int) (p := fun o => !decide (o ∈ e.1)) (vs := [16]) (wg_tup (f := false) (EvG.is (ev_slT (ev_var (i := 2) rfl) eo_none (eo_some (ev_tindex (ev_var (i := 2) rfl) (ev_var (i := 12) rfl) hone))) (by rw [cut_hi', List.map_take]))) (fun _ _ => tg_name (by decide)) (fun o _ => et_test (ev_op (ev_var rfl) (ev_var rfl) og_inT)) (fun _ _ _ => ev_var rfl) (by rw [List.length_take]; omega))) fun σ4 H5 U3 _ => ?_)
          dsimp only
          refine im_seq (dm_s (ts := tAsg _ _) U3 (st_asg (i := 14) (EvG.is (d' := datT false false (cand (incM row) e one).2) (ev_tup (ea_cons (ev_addI (ev_var rfl) (ev_lenL (ev_var rfl))) (ea_cons (ev_op (ev_var rfl) (ev_tup (ea_cons (ev_var rfl) ea_nil) (Nat.le_of_ble_eq_true rfl)) (og_catT ?z1)) ea_nil)) (Nat.le_of_ble_eq_true rfl)) ?told)) fun σ5 H6 U4 _ => ?_)
          case z1 => rw [List.length_map]; show e.2.2.length + 1 ≤ 100000; omega
          case told =>
            rw [List.length_map, encI_snoc, take_idx]
            rfl
          dsimp only
          refine im_seq (dm_s (ts := tAsg _ _) U4 (st_asg (i := 15) (ev_tupleL (ev_cb (ea_cons (EvG.is (d' := encI (e.1 ++ [one])) (ev_op (ev_var rfl) (ev_tup (ea_cons (ev_var rfl) ea_nil) (Nat.le_of_ble_eq_true rfl)) (og_catT ?z2)) (encI_snoc _ _)) ea_nil) (cg_sortedT ?z3)))) fun σ6 H7 U5 _ => ?_)
          case z2 => rw [List.length_map]; show e.1.length + 1 ≤ 100000; omega
          case z3 => rw [List.length_append]; show e.1.length + 1 ≤ 100000; omega
          dsimp only
          obtain ⟨bb, hT, hU⟩ := ev_newer (P := P) (w := w) (K := K) (c := cand (incM row) e one) (F := F) (Γ := ((((gIn M W row number place ks lay x dd P w (.dat (encI e.1)) (.dat (.int e.2.1)) (.dat (encI e.2.2))).set 12 (.dat (.int one))).set 13 (.dat (.list (((row.take (row.idxOf one)).filter fun o => !decide (o ∈ e.1)).map .int)))).set 14 (.dat (datT false false (cand (incM row) e one).2))).set 15 (.dat (encI (sortI (e.1 ++ [one])))) |>.set 8 (.gen (dicP P w (layT F)))) rfl rfl rfl
          refine im_if (dm_tv (i := 8) (b := bb) U5 rfl hT fun H8 U6 _ => ?_)
          rw [hok, if_pos rfl] at hsu
          cases bb with
          | false =>
            rw [if_neg (by decide)] at hU ⊢
            refine ⟨_, _, ⟨rfl, ?_⟩, U6.blank [12, 13, 14, 15]⟩
            rw [hsu, hU]
          | true =>
            rw [if_pos rfl] at hU ⊢
            refine dm_put (i := 8) (f := false) (ks := (cand (incM row) e one).1.map .num) (ds := [.int (cand (incM row) e one).2.1, encI (cand (incM row) e one).2.2]) U6 rfl (ev_var (i := 14) rfl) (EvG.is (ev_var (i := 15) rfl) (kD_nk (cand (incM row) e one).1).symm) (nk_depth (cand (incM row) e one).1) (by unfold layT; rw [List.length_map]; omega) fun H9 U7 => ?_
            refine ⟨_, _, ⟨rfl, ?_⟩, U7.blank [12, 13, 14, 15]⟩
            rw [hsu, hU]
            rfl
      · subst eΓ ek
        refine ⟨_, _, ⟨rfl, ?_⟩, U.blank [9, 10, 11]⟩
        rw [layF_succ x lay j e he, entF_all]
    · subst eΓ ek
      dsimp only
      refine dm_hand (i := 8) (j := 6) T rfl hd fun σ3 e3 lv3 env3 => k2 rfl σ3 H' e3 (env3.blank [7, 8])
end
end Nr
set_option Elab.async false
set_option linter.all false
set_option maxRecDepth 100000
set_option maxHeartbeats 4000000
/-! The law itself. -/
namespace Nr
open PySem PySem.Spec PyProof.Rows L2
section
variable {P : Program} {w : World} {K : PySem.W.Frag} {mg : Str → Option Value} {base : Heap}
abbrev sp_l_is_told : Sp := spS 1 (fun ds => ∃ L : Lst, ds = [encL L] ∧ LOk L ∧ L.rules.length ≤ 5) fun _ d => d = .bool true
theorem rights_mem {L : Lst} {ks : List Kind} {b : List Int} (h : b ∈ rightsM (actL L) L.rest ks L.rules.length) : RowOk L.rules.length b ∧ wrongK (actL L) L.rest ks b = none := by
  obtain ⟨h1, h2⟩ := List.mem_filter.mp h
  exact ⟨h1, Option.isNone_iff_eq_none.mp h2⟩
theorem rights_len {L : Lst} {ks : List Kind} (h : L.rules.length ≤ 5) : (rightsM (actL L) L.rest ks L.rules.length).length ≤ 3125 :=
  Nat.le_trans (List.length_filter_le _ _) (rows_3125 _ h _ (Nat.le_refl _))
theorem at_row {row : List Int} {place : Int} {n : Nat} (hl : row.length = n) (hp : 0 ≤ place ∧ place < (n : Int)) : (row.map Dat.int)[place.toNat]? = some (.int (row.getD place.toNat 0)) := by
  have h : place.toNat < row.length := by omega
  rw [List.getElem?_map, List.getD_eq_getElem?_getD, List.getElem?_eq_getElem h]
  rfl
theorem encL_inj {L M : Lst} (h : encL L = encL M) : L = M := by
  have i1 : ∀ x y : Int, Dat.int x = Dat.int y → x = y := fun x y z => by injection z
  have iR : ∀ x y : Int × Int, encR x = encR y → x = y := fun x y z => by
    injection z with _ z
    injection z with z1 z
    injection z with z2 _
    exact Prod.ext (i1 _ _ z1) (i1 _ _ z2)
  have iU : ∀ x y : Int × List (Int × Int), encRule x = encRule y → x = y := fun x y z => by
    injection z with _ z
    injection z with z1 z
    injection z with z2 _
    injection z2 with _ z2
    exact Prod.ext (i1 _ _ z1) ((List.map_inj_right iR).mp z2)
  obtain ⟨a, b, c⟩ := L
  obtain ⟨a', b', c'⟩ := M
  injection h with _ h
  injection h with h1 h
  injection h with h2 h
  injection h with h3 _
  injection h1 with _ h1
  injection h2 with _ h2
  have e1 : a = a' := (List.map_inj_right i1).mp h1
  have e2 : b = b' := (List.map_inj_right iU).mp h2
  have e3 : c = c' := i1 _ _ h3
  rw [e1, e2, e3]
theorem opt_eq (r : Option (List Int)) (h : ∀ b, r = some b → b.length ≤ 1000) : (([optC r, optZ r] : List Dat) = [.none, .none] ∨ ∃ (f g : Bool) (ns : List Int), [optC r, optZ r] = [.tuple f (ns.map .int), .tuple g (ns.map .int)] ∧ ns.length ≤ 1000) := by
  cases r with
  | none => exact .inl rfl
  | some b => exact .inr ⟨false, true, b, rfl, h b rfl⟩
theorem ok_l_is_told (Z : Zs mg) (D : Own K mg "_law_is_told" "_law_is_told" s_l_is_told) (C_l_wanted : Cal P w K mg base "_law_wanted" 3 pp_l_wanted sp_l_wanted) (C_l_kinds : Cal P w K mg base "_law_kinds" 2 pp_l_kinds sp_l_kinds) (C_l_right_rows : Cal P w K mg base "_law_right_rows" 2 pp_l_right_rows sp_l_right_rows) (C_l_wants : Cal P w K mg base "_law_wants" 3 pp_l_wants sp_l_wants) (C_l_next : Cal P w K mg base "_law_next" 1 pp_l_next sp_l_next) (C_l_equal : Cal P w K mg base "_law_equal" 3 pp_l_equal sp_l_equal) (C_nearest : Cal P w K mg base "nearest" 9 pp_nearest sp_nearest) (C_l_distance : Cal P w K mg base "_law_distance" 1 pp_l_distance sp_l_distance) : Cal P w K mg base "_law_is_told" 10 pp_l_is_told sp_l_is_told := by
  refine calS D sc_l_is_told ?hl (fun _ _ _ _ _ _ us hl => match us, hl with | [_, _], _ => rfl) (fun f cdv A outer s H vs Q E hr h => ⟨_, (pss_cons (ps_set (i := 2) sc_l_is_told.nd rfl (.inl rfl) (pe_cal C_l_wanted hr (by decide) (by rfl) (pa_cons (pv 0) (pa_cons (pv 1) pa_nil)))) (pss_cons (ps_set (i := 3) sc_l_is_told.nd rfl (.inl rfl) (pe_cal C_l_kinds hr (by decide) (by rfl) (pa_cons (pv 1) (pa_cons (pe_cal C_l_wants hr (by decide) (by rfl) (pa_cons (pv 1) (pa_cons (pv 2) pa_nil))) pa_nil)))) (pss_cons (ps_set (i := 4) sc_l_is_told.nd rfl (.inl rfl) (pe_cal C_l_right_rows hr (by decide) (by rfl) (pa_cons (pv 1) (pa_cons (pv 3) pa_nil)))) (pss_cons (ps_if (pt_not (kx_truth (K := K) (pv 4))) (pss_one (ps_ret pe_bl)) pss_nil) (pss_cons (ps_set (i := 5) sc_l_is_told.nd rfl (.inr rfl) (pe_ix (kx_ixL (K := K)) (pv 4) (pe_cal C_l_next hr (by decide) (by rfl) (pa_cons (pv 0) (pa_cons (pe_callB (kx_len (K := K)) (by rfl) Z.z_len PySem.boot_len (pa_cons (pv 4) pa_nil)) pa_nil))) (fun _ _ => rfl))) (pss_cons (ps_for PassesOwn.never rfl (pi_range1 (by rfl) Z.z_range (pa_cons (pe_callB (kx_len (K := K)) (by rfl) Z.z_len PySem.boot_len (pa_cons (pv 5) pa_nil)) pa_nil)) (pg_name (i := 6) sc_l_is_told.nd rfl (.inr rfl)) (pss_cons (ps_set (i := 7) sc_l_is_told.nd rfl (.inr rfl) (pe_cal C_l_next hr (by decide) (by rfl) (pa_cons (pv 0) (pa_cons (pe_callB (kx_len (K := K)) (by rfl) Z.z_len PySem.boot_len (pa_cons (pv 5) pa_nil)) pa_nil)))) (pss_cons (ps_set (i := 8) sc_l_is_told.nd rfl (.inl rfl) (pe_callB (kx_sortedP (K := K) hr.units) (by rfl) Z.z_sorted PyProof.Rows.boot_sorted (pa_cons (pe_lc (own := [("_law_one", 10)]) rfl sc_l_is_told.nd (kx_piL (K := K) (pv 4)) (blkOk_by (own := [("_law_one", 10)]) (N := nm_l_is_told) (sc := defScope s_l_is_told) (by decide +kernel)) (fun _ _ _ _ _ => (pg_name (i := 10) sc_l_is_told.nd rfl (.inl rfl))) (fun _ _ _ _ _ => (pts_one (pt_cmpR op_eq (pe_ix (kx_ixT (K := K)) (pv 10) (pv 7) (fun _ _ => rfl)) (pv 6) (nomark _)))) (fun _ _ _ _ _ => (pe_tup (pa_cons (pe_cal C_l_distance hr (by decide) (by rfl) (pa_cons (pv 5) (pa_cons (pv 10) pa_nil))) (pa_cons (pv 10) pa_nil))))) pa_nil))) (pss_cons (ps_set (i := 9) sc_l_is_told.nd rfl (.inl rfl) pe_non) (pss_cons (ps_if (kx_truth (K := K) (pv 8)) (pss_one (ps_set (i := 9) sc_l_is_told.nd rfl (.inl rfl) (pe_ix (kx_ixT (K := K)) (pe_ix (kx_ixL (K := K)) (pv 8) pe_int (fun _ _ => rfl)) pe_int (fun _ _ => rfl)))) pss_nil) (pss_cons (ps_if (pt_not (pt_val (pe_cal C_l_equal hr (by decide) (by rfl) (pa_cons (pe_cal C_nearest hr (by decide) (by rfl) (pa_cons (pv 1) (pa_cons (pv 2) (pa_cons (pv 5) (pa_cons (pv 6) (pa_cons (pv 7) pa_nil)))))) (pa_cons (pv 9) pa_nil))))) (pss_one (ps_ret pe_bl)) pss_nil) (pss_one (ps_if (pt_cmpR (kx_neD (K := K) hr.units) (pe_cal C_nearest hr (by decide) (by rfl) (pa_cons (pv 1) (pa_cons (pv 2) (pa_cons (pv 5) (pa_cons (pe_ix (kx_ixT (K := K)) (pv 5) (pv 7) (fun _ _ => rfl)) (pa_cons (pv 7) pa_nil)))))) (pv 5) (nomark _)) (pss_one (ps_ret pe_bl)) pss_nil)))))))) (pss_one (ps_ret pe_bl)))))))), ?body⟩)
  case hl => exact spS_len
  case body =>
    obtain ⟨L, s', us, ds, dsr, rfl, hn, lv, hs, hsr, hh, hd, ⟨M, rfl, hM, h5⟩, kQ⟩ := h
    have S := Stt.start (N := nm_l_is_told) lv hs hsr hh hd
    refine im_seq (im_asg (im_draw (j := 0) S rfl (ea_cons (ev_var (i := 1) rfl) ea_nil) rfl ⟨M, rfl, hM⟩ fun v1 d1 H1 ⟨M', W, eM, ed1, hW⟩ S1 _ dv1 => ?_))
    subst ed1
    obtain rfl : M = M' := encL_inj (List.head_eq_of_cons_eq eM)
    obtain ⟨hps, hpl⟩ := wants_ok hM hW
    refine im_seq (im_s (ts := tAsg _ _) (S1.setD (i := 2) dv1) (st_asg (i := 3) (ev_call (ea_cons (ev_var rfl) (ea_cons (ev_call (ea_cons (ev_var rfl) (ea_cons (ev_var rfl) ea_nil)) rfl ⟨M, W, rfl, hM, hW, rfl⟩) ea_nil)) rfl ⟨M, wantsM M W, rfl, hM, hps, by omega, rfl⟩)) fun σ2 H2 S2 _ => ?_)
    dsimp only
    have hkl : (kindsM M (wantsM M W)).length ≤ 512 := Nat.le_trans (kinds_len M _) hpl
    generalize hks : kindsM M (wantsM M W) = ks at S2 hkl
    refine im_seq (im_s (ts := tAsg _ _) S2 (st_asg (i := 4) (ev_call (ea_cons (ev_var rfl) (ea_cons (ev_var rfl) ea_nil)) rfl ⟨M, ks, rfl, h5, rfl⟩)) fun σ3 H3 S3 _ => ?_)
    dsimp only
    have hrl := rights_len (ks := ks) h5
    have hrm : ∀ b ∈ rightsM (actL M) M.rest ks M.rules.length, RowOk M.rules.length b ∧ wrongK (actL M) M.rest ks b = none := fun b hb => rights_mem hb
    have hlaw : ∀ row number place, RowOk M.rules.length row → wrongK (actL M) M.rest ks row = none → 0 ≤ place ∧ place < (M.rules.length : Int) → nearestM (actL M) ks row number place = ((sortP (((rightsM (actL M) M.rest ks M.rules.length).filter fun b => decide (b.getD place.toNat 0 = number)).map fun b => (distL b row, b))).head?).map (·.2) := fun row number place h1 h2 h3 => nearest_law h1 h2 h3
    generalize hrt : rightsM (actL M) M.rest ks M.rules.length = rights at S3 hrl hrm hlaw
    refine im_seq (im_if (im_t (b := !truD (.list (rights.map encZ))) S3 (et_not (et_truth (ev_var rfl) rfl (fun _ z => nomatch z))) fun H4 S4 _ => ?_))
    cases rights with
    | nil =>
      rw [if_pos (show (!truD (.list (([] : List (List Int)).map encZ))) = true from rfl)]
      exact im_ret (im_e S4 (ev_bl true) fun v H5 S5 _ dv => S5.done kQ rfl dv)
    | cons r0 rs =>
      rw [if_neg (show ¬ (!truD (.list ((r0 :: rs).map encZ))) = true from Bool.false_ne_true)]
      generalize hrr : r0 :: rs = rights at S4 hrl hrm hlaw
      have hpos : 0 < rights.length := by rw [← hrr]; exact Nat.succ_pos _
      dsimp only
      refine im_seq (im_asg (im_op (im_e S4 (ev_var (i := 4) rfl) fun vr H5 S5 _ dvr => im_draw (j := 0) S5 rfl (ea_cons (EvG.is (ev_lenL (ev_var (i := 4) rfl)) (by rw [List.length_map])) ea_nil) rfl ⟨(rights.length : Int), rfl, by omega, by omega⟩ fun vi di H6 ⟨m6, i, em6, ed6, i1, i2⟩ S6 hx6 dvi => ?_)))
      subst ed6
      cases em6
      have hil : i.toNat < rights.length := by omega
      refine og_ixL (j := i.toNat) (d := encZ rights[i.toNat]) (by omega) (by rw [List.getElem?_map, List.getElem?_eq_getElem hil]; rfl) L vr vi H6 _ S6.lv (dvr.mono hx6) dvi fun vrow H7 e7 dvrow => ?_
      obtain ⟨hrow, hwr⟩ := hrm _ (List.getElem_mem hil)
      generalize rights[i.toNat] = row at dvrow hrow hwr
      have hl := (rows_mem.mp hrow).1
      have hp := rg_perm hrow
      have S7 := (S6.same e7).setD (i := 5) dvrow
      dsimp only
      refine im_seq (im_for (items := List.range row.length) (enc := fun i : Nat => Dat.int (i : Int)) S7 (wg_rngN (EvG.is (ev_lenT (ev_var rfl)) (by rw [List.length_map])) (by omega)) (fun i Γ' l' => Γ' = [.val (.ref s'), .dat (encL M), .dat (encW W), .dat (.list (ks.map encKL)), .dat (.list (rights.map encZ)), .dat (encZ row), .no, .no, .no, .no, .no] ∧ l' = []) ⟨rfl, rfl⟩ (fun i Γ' l' ⟨_, e⟩ => by rw [e])
        (fun i x Γ' l' Hb σ' H' v hx ⟨eΓ, el⟩ T dv => ?_) fun Γ' l' σ' H' ⟨eΓ, el⟩ T => ?_)
      · subst eΓ el
        have hi : i < row.length := by have := (List.getElem?_eq_some_iff.mp hx).1; rwa [List.length_range] at this
        have hxi : x = i := by
          rw [List.getElem?_range hi] at hx
          exact (Option.some.inj hx).symm
        subst hxi
        refine im_seq (im_asg (im_draw (j := 0) (T.setD (i := 6) dv) rfl (ea_cons (EvG.is (ev_lenT (ev_var (i := 5) rfl)) (by rw [List.length_map])) ea_nil) rfl ⟨(row.length : Int), rfl, by omega, by omega⟩ fun vp dp H8 ⟨m8, place, em8, ed8, p1, p2⟩ T1 _ dvp => ?_))
        subst ed8
        cases em8
        have hpl2 : 0 ≤ place ∧ place < (M.rules.length : Int) := by omega
        have hn1 : 0 ≤ (x : Int) ∧ (x : Int) < (M.rules.length : Int) := by omega
        have hpr : ∀ b ∈ rights, b.length = M.rules.length := fun b hb => (rows_mem.mp (hrm b hb).1).1
        have hall : ∀ b ∈ rights, ∀ y ∈ row, y ∈ b := fun b hb y hy => (rg_perm (hrm b hb).1).mem_iff.mpr (hp.mem_iff.mp hy)
        have hnum2 : 0 ≤ row.getD place.toNat 0 ∧ row.getD place.toNat 0 < (M.rules.length : Int) := by
          have h : place.toNat < row.length := by omega
          have hm : row.getD place.toNat 0 ∈ row := by
            rw [List.getD_eq_getElem?_getD, List.getElem?_eq_getElem h]
            exact List.getElem_mem h
          exact mem_rg.mp (hp.mem_iff.mp hm)
        have hb1 : ∀ b, (((sortP ((rights.filter fun b => decide (b.getD place.toNat 0 = (x : Int))).map fun b => (distL b row, b))).head?).map (·.2)) = some b → b.length ≤ 1000 := fun b hb => by
          obtain ⟨t, ht, rfl⟩ := Option.map_eq_some_iff.mp hb
          have h1 := sortP_mem.mp (List.mem_of_head? ht)
          obtain ⟨c, hc, rfl⟩ := List.mem_map.mp h1
          have h2 := hpr c (List.mem_filter.mp hc).1
          show c.length ≤ 1000
          omega
        have hN1 := hlaw row (x : Int) place hrow hwr hpl2
        have hN2 := nearest_self (n := M.rules.length) (ks := ks) (actf := actL M) (rest := M.rest) hrow hwr hpl2
        dsimp only
        refine im_s (Γ' := [.val (.ref s'), .dat (encL M), .dat (encW W), .dat (.list (ks.map encKL)), .dat (.list (rights.map encZ)), .dat (encZ row), .no, .no, .no, .no, .no]) (T1.setD (i := 7) dvp) (st_weakE [6, 7, 8, 9, 10] (Γ1 := [.val (.ref s'), .dat (encL M), .dat (encW W), .dat (.list (ks.map encKL)), .dat (.list (rights.map encZ)), .dat (encZ row), .dat (.int (x : Int)), .dat (.int place), .dat (.list ((sortP ((rights.filter fun b => decide (b.getD place.toNat 0 = (x : Int))).map fun b => (distL b row, b))).map (datT false true))), .dat (optZ (nearestM (actL M) ks row (x : Int) place)), .no])
          (st_seq (st_asg (i := 8) (ev_cb (ea_cons (EvG.is (d' := .list (((rights.filter fun b => decide (b.getD place.toNat 0 = (x : Int))).map fun b => (distL b row, b)).map (datT false true))) (ev_lc (items := rights) (enc := encZ) (p := fun b => decide (b.getD place.toNat 0 = (x : Int))) (f := fun b => datT false true (distL b row, b)) (vs := [10]) (wg_list (ev_var rfl)) (fun _ _ => tg_name (by decide)) (fun b hb => et_test (ev_op (ev_ixT place.toNat (ev_var rfl) (by rw [Int.toNat_of_nonneg p1]; exact ev_var rfl) (at_row (hpr b hb) hpl2)) (ev_var rfl) og_eqI))
            (fun b hb _ => ev_tup (ea_cons (ev_call (ea_cons (ev_var rfl) (ea_cons (ev_var rfl) ea_nil)) rfl ⟨row, b, rfl, hall b hb, by omega, rfl⟩) (ea_cons (ev_var rfl) ea_nil)) (Nat.le_of_ble_eq_true rfl)) (by omega)) (by rw [List.map_map]; rfl)) ea_nil) (cg_sortedP ?n1)))
          (st_seq (st_asg (i := 9) ev_non) (st_seq (Γ1 := [.val (.ref s'), .dat (encL M), .dat (encW W), .dat (.list (ks.map encKL)), .dat (.list (rights.map encZ)), .dat (encZ row), .dat (.int (x : Int)), .dat (.int place), .dat (.list ((sortP ((rights.filter fun b => decide (b.getD place.toNat 0 = (x : Int))).map fun b => (distL b row, b))).map (datT false true))), .dat (optZ (nearestM (actL M) ks row (x : Int) place)), .no]) ?due
          (st_seq (st_skip (EvT.is (et_not (et_B (c := true) (ev_call (ea_cons (ev_call (ea_cons (ev_var rfl) (ea_cons (ev_var rfl) (ea_cons (ev_var rfl) (ea_cons (ev_var rfl) (ea_cons (ev_var rfl) ea_nil))))) rfl ⟨M, W, row, (x : Int), place, rfl, hM, h5, hW, hrow, by rw [hks]; exact hwr, hn1, hpl2, rfl⟩) (ea_cons (ev_var rfl) ea_nil)) rfl ⟨?eq1, rfl⟩))) rfl))
          (st_skip (EvT.is (et_test (ev_op (ev_call (d := encI row) (ea_cons (ev_var rfl) (ea_cons (ev_var rfl) (ea_cons (ev_var rfl) (ea_cons (ev_ixT place.toNat (ev_var rfl) (by rw [Int.toNat_of_nonneg p1]; exact ev_var rfl) (at_row hl hpl2)) (ea_cons (ev_var rfl) ea_nil))))) rfl ⟨M, W, row, row.getD place.toNat 0, place, rfl, hM, h5, hW, hrow, by rw [hks]; exact hwr, hnum2, hpl2, by rw [hks, hN2]; rfl⟩) (ev_var rfl) (og_ne (shaped_tup false row) (shaped_tup true row)))) ?eq2))))))) fun σ9 H9 T2 _ => ⟨_, _, ⟨rfl, rfl⟩, T2⟩
        case n1 =>
          rw [List.length_map]
          exact Nat.le_trans (List.length_filter_le _ _) (by omega)
        case due =>
          rw [hN1]
          generalize sortP ((rights.filter fun b => decide (b.getD place.toNat 0 = (x : Int))).map fun b => (distL b row, b)) = l
          cases l with
          | nil => exact st_skip (et_truth (ev_var rfl) rfl fun _ z => nomatch z)
          | cons t l => exact st_if (b := true) (et_truth (ev_var rfl) rfl fun _ z => nomatch z) (fun _ => st_asgE (ev_ixT (ds := [.int t.1, encZ t.2]) 1 (ev_ixL 0 (ev_var rfl) (ev_int 0)) (ev_int 1))) fun q => nomatch q
        case eq1 =>
          rw [hks, hN1]
          exact opt_eq _ hb1
        case eq2 =>
          rw [eqv_tup, decide_eq_true rfl]
          rfl
      · subst eΓ el
        dsimp only
        exact im_ret (im_e T (ev_bl true) fun v H10 S10 _ dv => S10.done kQ rfl dv)
end
end Nr
set_option Elab.async false
set_option linter.all false
set_option maxRecDepth 100000
set_option maxHeartbeats 4000000
/-! law. -/
namespace Nr
open PySem PySem.Spec PyProof.Rows L2
section
variable {P : Program} {w : World} {K : PySem.W.Frag} {mg : Str → Option Value} {base : Heap}
def sp_streamK (K : PySem.W.Frag) : Sp := fun vs H Q _ => ∃ (a : Addr) (ns : List Int), vs = [.ref a] ∧ SqL K H a (ns.map V.int) ∧ ∀ s q H', Same H H' → s ≠ q → H' s = some (.lst [.ref q, .int 0, .int 0]) → H' q = some (.lst (ns.map V.int)) → Q (.ref s) H'
theorem ok_streamK (Z : Zs mg) (D : Own K mg "_law_stream" "_law_stream" s_l_stream) : Cal P w K mg base "_law_stream" 1 pp_l_stream (sp_streamK K) := by
  refine calS D sc_l_stream ?hl (fun _ _ _ _ _ _ us hl => match us, hl with | [_], _ => rfl) (fun f cdv A outer s H vs Q E hr h => ⟨_, (pss_one (ps_ret (pe_lst (pa_cons (pe_callTy (kx_list (K := K)) (by rfl) Z.z_list PyProof.Rows.boot_list (pa_cons (pv 0) pa_nil)) (pa_cons pe_int (pa_cons pe_int pa_nil)))))), ?body⟩)
  case hl =>
    rintro vs H Q E ⟨a, ns, rfl, _⟩
    rfl
  case body =>
    obtain ⟨a, ns, rfl, hS, k⟩ := h
    refine im_ret (im_cons ⟨.ref a, rfl, a, ns.map V.int, rfl, .inl hS, fun q hq => ?_⟩)
    have e1 := same_new hq (.lst (ns.map V.int))
    refine ⟨Nat.le_trans (Nat.le_of_ble_eq_true rfl : 3 ≤ 100000) (by decide), fun s hs => ?_⟩
    have hne : s ≠ q := fun z => by
      have h1 : upd H q (.lst (ns.map V.int)) s = none := hs
      rw [z, upd_same] at h1
      cases h1
    exact k s q _ (e1.trans (same_new hs _)) hne upd_same (by rw [upd_ne (Ne.symm hne)]; exact upd_same)
variable {so : Option Addr} {H0 H H' : Hp} {L0 L : List Addr} {σ : L2.St} {Γ Γ' : Gam} {l : List (Addr × List Dat)}
/-- a call that draws, its arguments there -/
theorem im_sp {s : Addr} {n : Nat} {Pre : List Dat → Prop} {R : List Dat → Dat → Prop} {us : List V} {ds : List Dat} {E : XK} {Q : VK} (S : Stt (some s) H0 L0 L H σ Γ l) (du : DtAll (hide H L) us ds) (hn : ds.length = n) (hp : Pre ds)
    (k : ∀ v d H', R ds d → Stt (some s) H0 L0 L H' σ Γ l → SameX L H H' → Dt (hide H' L) v d → Q v H') : spS n Pre R ((.ref s :: us) ++ []) H Q E := by
  obtain ⟨h1, h2, dsr, h3, h4⟩ := S.src s rfl
  exact ⟨L, s, us, ds, dsr, by rw [List.append_nil], hn, S.lv, h1, h3, h4, du, hp, fun v d dsr' H' hR hs b hh dv => k v d H' hR (S.drawn b hs hh) (but_x b h1) dv⟩
theorem im_list {s : Addr} {lo hi : Int} {E1 E2 : XK} {Q : VK} (S : Stt (some s) H0 L0 L H σ Γ l) (g1 : Γ[1]? = some (.val (.ref s))) (h0 : 0 ≤ lo) (h1 : lo ≤ hi) (h2 : hi ≤ 5)
    (k : ∀ M v H', LOk M → M.rules.length ≤ 5 → Stt (some s) H0 L0 L H' σ Γ l → SameX L H H' → Dt (hide H' L) v (encL M) → Q v H') :
    tCall sp_l_list [] E1 (tCons (tVar 1) (tCons (tCall sp_l_widths [] E2 (tCons (tVar 1) tNil)) (tCons (tC (.int lo)) (tCons (tC (.int hi)) tNil)))) σ H Q :=
  ⟨.ref s, S.env.val g1, im_draw (j := 1) S g1 ea_nil rfl True.intro fun v d H1 ⟨ws, hw, ed⟩ S1 hx dv => by
    subst ed
    exact im_sp (E := E1) (ds := [encI ws, .int lo, .int hi]) (us := [v, .int lo, .int hi]) S1 (.cons dv (.cons (.int lo) (.cons (.int hi) .nil))) rfl ⟨ws, lo, hi, rfl, hw, h0, h1, h2⟩ fun v2 d2 H2 ⟨M, ed2, hM, h5⟩ S2 hx2 dv2 => by
      subst ed2
      exact k M v2 H2 hM h5 S2 (hx.trans hx2) dv2⟩
theorem im_told {s : Addr} {lo hi : Int} {E1 E2 E3 : XK} {Q : VK} (S : Stt (some s) H0 L0 L H σ Γ l) (g1 : Γ[1]? = some (.val (.ref s))) (h0 : 0 ≤ lo) (h1 : lo ≤ hi) (h2 : hi ≤ 5) (k : ∀ H', Stt (some s) H0 L0 L H' σ Γ l → Q (.bl true) H') :
    tCall sp_l_is_told [] E3 (tCons (tVar 1) (tCons (tCall sp_l_list [] E1 (tCons (tVar 1) (tCons (tCall sp_l_widths [] E2 (tCons (tVar 1) tNil)) (tCons (tC (.int lo)) (tCons (tC (.int hi)) tNil))))) tNil)) σ H Q :=
  ⟨.ref s, S.env.val g1, im_list S g1 h0 h1 h2 fun M v H1 hM h5 S1 hx dv =>
    im_sp (E := E3) (ds := [encL M]) (us := [v]) S1 (.cons dv .nil) rfl ⟨M, rfl, hM, h5⟩ fun v2 d2 H2 ed2 S2 hx2 dv2 => by
      subst ed2
      rw [dv2.bl_of]
      exact k H2 S2⟩
def sp_lawK (K : PySem.W.Frag) : Sp := fun vs H Q _ => ∃ (a : Addr) (ns : List Int), vs = [.ref a] ∧ SqL K H a (ns.map V.int) ∧ ∀ H', Q (.bl true) H'
/-- a def by its own object -/
theorem fnS {x : Str} {st : Stmt} {N ps : List Str} {k : Nat} {sp : Sp} {f : Addr} {fd : FuncData} (F : FunD K x x (defArgs st) (defBody st) (defScope st) [] [] f fd) (S : FnScope N ps (defScope st)) (hl : ∀ vs H Q E, sp vs H Q E → vs.length = ps.length)
    (hbody : ∀ (f : Addr) (cdv : Value) (A : Around) (outer : List PySem.Env) (s : Shared) (H : Hp) (vs : List V) (Q : VK) (E : XK), Room k (A.deeper (envOfC x (defScope st) s.heap.objs.size f cdv)) → sp vs H Q E →
      ∃ t, PSs (cxOf CX0 P w K mg base N x (defScope st) f cdv A outer s H E).nox (defBody st) t ∧ t { nx := fun _ H' => Q .non H', rt := Q } (L2.start N vs) H) : FnOk P w K mg base CX0 (k + 1) f fd ps sp :=
  F.ok S hl fun cdv A outer s H vs Q E hr h => let ⟨t, h1, h2⟩ := hbody f cdv A outer s H vs Q E hr h; ⟨t, h1.nox, h2⟩
theorem ok_lawF {f : Addr} {fd : FuncData} (Z : Zs mg) (F : FunD K "law" "law" (defArgs s_law) (defBody s_law) (defScope s_law) [] [] f fd) (C_l_stream : Cal P w K mg base "_law_stream" 1 pp_l_stream (sp_streamK K)) (C_l_is_told : Cal P w K mg base "_law_is_told" 10 pp_l_is_told sp_l_is_told) (C_l_list : Cal P w K mg base "_law_list" 2 pp_l_list sp_l_list) (C_l_next : Cal P w K mg base "_law_next" 1 pp_l_next sp_l_next) (C_l_widths : Cal P w K mg base "_law_widths" 2 pp_l_widths sp_l_widths) : FnOk P w K mg base CX0 11 f fd pp_law (sp_lawK K) := by
  refine fnS F sc_law ?hl (fun f cdv A outer s H vs Q E hr h => ⟨_, (pss_cons (ps_set (i := 1) sc_law.nd rfl (.inl rfl) (pe_cal C_l_stream hr (by decide) (by rfl) (pa_cons (pv 0) pa_nil))) (pss_cons (ps_if (pt_not (pt_val (pe_cal C_l_is_told hr (by decide) (by rfl) (pa_cons (pv 1) (pa_cons (pe_cal C_l_list hr (by decide) (by rfl) (pa_cons (pv 1) (pa_cons (pe_cal C_l_widths hr (by decide) (by rfl) (pa_cons (pv 1) pa_nil)) (pa_cons pe_int (pa_cons pe_int pa_nil))))) pa_nil))))) (pss_one (ps_ret pe_bl)) pss_nil) (pss_one (ps_ret (pe_or (pe_cmpR op_gt (pe_cal C_l_next hr (by decide) (by rfl) (pa_cons (pv 1) (pa_cons pe_int pa_nil))) pe_int (nomark _)) (pe_one (pe_cal C_l_is_told hr (by decide) (by rfl) (pa_cons (pv 1) (pa_cons (pe_cal C_l_list hr (by decide) (by rfl) (pa_cons (pv 1) (pa_cons (pe_cal C_l_widths hr (by decide) (by rfl) (pa_cons (pv 1) pa_nil)) (pa_cons pe_int (pa_cons pe_int pa_nil))))) pa_nil))))))))), ?body⟩)
  case hl =>
    rintro vs H Q E ⟨a, ns, rfl, _⟩
    rfl
  case body =>
    obtain ⟨a, ns, rfl, hS, k⟩ := h
    refine im_seq (im_asg ⟨.ref a, rfl, a, ns, rfl, hS, fun s q H1 e1 hne hs hq => ?_⟩)
    have S : Stt (some s) H1 [s] [s] H1 (List.set (L2.start nm_law [.ref a]) 1 (some (.ref s))) [.no, .val (.ref s)] [] := by
      refine ⟨(fun b hb => by rw [List.mem_singleton.mp hb, hs]; exact (fun z => nomatch z)), ⟨rfl, fun i t ei => ?_⟩, hide_sub, fun b hb => .inl hb, fun x hx => absurd hx List.not_mem_nil, List.nodup_nil, fun t ht => ?_⟩
      · match i, ei with
        | 0, ei => cases ei; exact ⟨_, rfl, True.intro⟩
        | 1, ei => cases ei; exact ⟨_, rfl, rfl⟩
        | i + 2, ei => simp at ei
      · cases ht
        refine ⟨List.mem_singleton_self _, List.not_mem_nil, [.list (ns.map .int), .int 0, .int 0], ⟨ns, 0, 0, rfl, Int.le_refl _⟩, _, hs, .cons (.lst (xs := ns.map V.int) ?_ (ints_dt ns)) (.cons (.int 0) (.cons (.int 0) .nil))⟩
        rw [hide_out fun z => hne (List.mem_singleton.mp z).symm]
        exact hq
    dsimp only
    refine im_seq (im_if (im_told S rfl (by decide) (by decide) (by decide) fun H2 S2 => ⟨true, rfl, ?_⟩))
    dsimp only
    rw [if_neg (show ¬ (!true) = true from Bool.false_ne_true)]
    dsimp only [tNext]
    refine im_ret (im_op (im_draw (j := 1) S2 rfl (ea_cons (ev_int 4) ea_nil) rfl ⟨4, rfl, by decide, by decide⟩ fun v3 d3 H3 ⟨m3, i3, em3, ed3, a3, b3⟩ S3 _ dv3 => ?_))
    subst ed3
    cases em3
    obtain rfl := dv3.int_of
    refine ⟨i3, 0, rfl, rfl, decide (0 < i3), rfl, ?_⟩
    by_cases hz : 0 < i3
    · rw [decide_eq_true hz, if_pos rfl]
      exact k _
    · rw [decide_eq_false hz, if_neg (by decide)]
      exact im_told S3 rfl (by decide) (by decide) (by decide) fun H4 S4 => k _
end
end Nr
set_option Elab.async false
set_option linter.all false
set_option maxRecDepth 100000
set_option maxHeartbeats 0
/-! The head, by facts. -/
namespace Nr
open PySem PySem.Spec PyProof.Rows L2
def dd_is_between : He.DefD := ⟨("is_between", none), "is_between", "is_between", defArgs s_is_between, defBody s_is_between, defScope s_is_between, [], []⟩
def dd_is_widths : He.DefD := ⟨("is_widths", none), "is_widths", "is_widths", defArgs s_is_widths, defBody s_is_widths, defScope s_is_widths, [], []⟩
def dd_is_range : He.DefD := ⟨("is_range", none), "is_range", "is_range", defArgs s_is_range, defBody s_is_range, defScope s_is_range, [], []⟩
def dd_is_rule : He.DefD := ⟨("is_rule", none), "is_rule", "is_rule", defArgs s_is_rule, defBody s_is_rule, defScope s_is_rule, [], []⟩
def dd_is_list : He.DefD := ⟨("is_list", none), "is_list", "is_list", defArgs s_is_list, defBody s_is_list, defScope s_is_list, [], []⟩
def dd_is_case : He.DefD := ⟨("is_case", none), "is_case", "is_case", defArgs s_is_case, defBody s_is_case, defScope s_is_case, [], []⟩
def dd_is_number : He.DefD := ⟨("is_number", none), "is_number", "is_number", defArgs s_is_number, defBody s_is_number, defScope s_is_number, [], []⟩
def dd_is_row : He.DefD := ⟨("is_row", none), "is_row", "is_row", defArgs s_is_row, defBody s_is_row, defScope s_is_row, [], []⟩
def dd_check_list_lists : He.DefD := ⟨("check_list_lists", none), "check_list", "check_list", defArgs s_check_list_lists, defBody s_check_list_lists, defScope s_check_list_lists, [], []⟩
def dd_cases_of : He.DefD := ⟨("cases_of", none), "cases_of", "cases_of", defArgs s_cases_of, defBody s_cases_of, defScope s_cases_of, [], []⟩
def dd_matches_in : He.DefD := ⟨("matches_in", none), "matches_in", "matches_in", defArgs s_matches_in, defBody s_matches_in, defScope s_matches_in, [], []⟩
def dd_decided : He.DefD := ⟨("decided", none), "decided", "decided", defArgs s_decided, defBody s_decided, defScope s_decided, [], []⟩
def dd_is_action : He.DefD := ⟨("is_action", none), "is_action", "is_action", defArgs s_is_action, defBody s_is_action, defScope s_is_action, [], []⟩
def dd_are_pairs : He.DefD := ⟨("are_pairs", none), "are_pairs", "are_pairs", defArgs s_are_pairs, defBody s_are_pairs, defScope s_are_pairs, [], []⟩
def dd_is_wanted : He.DefD := ⟨("is_wanted", none), "is_wanted", "is_wanted", defArgs s_is_wanted, defBody s_is_wanted, defScope s_is_wanted, [], []⟩
def dd_check_list_wanted : He.DefD := ⟨("check_list_wanted", none), "check_list", "check_list", defArgs s_check_list_wanted, defBody s_check_list_wanted, defScope s_check_list_wanted, [], []⟩
def dd_ascending : He.DefD := ⟨("ascending", none), "ascending", "ascending", defArgs s_ascending, defBody s_ascending, defScope s_ascending, [], []⟩
def dd_wants : He.DefD := ⟨("wants", none), "wants", "wants", defArgs s_wants, defBody s_wants, defScope s_wants, [], []⟩
def dd_check_both : He.DefD := ⟨("check_both", none), "check_both", "check_both", defArgs s_check_both, defBody s_check_both, defScope s_check_both, [], []⟩
def dd_kinds_of : He.DefD := ⟨("kinds_of", none), "kinds_of", "kinds_of", defArgs s_kinds_of, defBody s_kinds_of, defScope s_kinds_of, [], []⟩
def dd_action_by : He.DefD := ⟨("action_by", none), "action_by", "action_by", defArgs s_action_by, defBody s_action_by, defScope s_action_by, [], []⟩
def dd_wrong_kind : He.DefD := ⟨("wrong_kind", none), "wrong_kind", "wrong_kind", defArgs s_wrong_kind, defBody s_wrong_kind, defScope s_wrong_kind, [], []⟩
def dd_barred : He.DefD := ⟨("barred", none), "barred", "barred", defArgs s_barred, defBody s_barred, defScope s_barred, [], []⟩
def dd_check_row_of : He.DefD := ⟨("check_row_of", none), "check_row_of", "check_row_of", defArgs s_check_row_of, defBody s_check_row_of, defScope s_check_row_of, [], []⟩
def dd_is_whole : He.DefD := ⟨("is_whole", none), "is_whole", "is_whole", defArgs s_is_whole, defBody s_is_whole, defScope s_is_whole, [], []⟩
def dd_need_right : He.DefD := ⟨("need_right", none), "need_right", "need_right", defArgs s_need_right, defBody s_need_right, defScope s_need_right, [], []⟩
def dd_checked : He.DefD := ⟨("checked", none), "checked", "checked", defArgs s_checked, defBody s_checked, defScope s_checked, [], []⟩
def dd_nearest : He.DefD := ⟨("nearest", none), "nearest", "nearest", defArgs s_nearest, defBody s_nearest, defScope s_nearest, [], []⟩
def dd_l_stream : He.DefD := ⟨("_law_stream", none), "_law_stream", "_law_stream", defArgs s_l_stream, defBody s_l_stream, defScope s_l_stream, [], []⟩
def dd_l_next : He.DefD := ⟨("_law_next", none), "_law_next", "_law_next", defArgs s_l_next, defBody s_l_next, defScope s_l_next, [], []⟩
def dd_l_is_integer : He.DefD := ⟨("_law_is_integer", none), "_law_is_integer", "_law_is_integer", defArgs s_l_is_integer, defBody s_l_is_integer, defScope s_l_is_integer, [], []⟩
def dd_l_equal : He.DefD := ⟨("_law_equal", none), "_law_equal", "_law_equal", defArgs s_l_equal, defBody s_l_equal, defScope s_l_equal, [], []⟩
def dd_l_list : He.DefD := ⟨("_law_list", none), "_law_list", "_law_list", defArgs s_l_list, defBody s_l_list, defScope s_l_list, [], []⟩
def dd_l_widths : He.DefD := ⟨("_law_widths", none), "_law_widths", "_law_widths", defArgs s_l_widths, defBody s_l_widths, defScope s_l_widths, [], []⟩
def dd_l_cases : He.DefD := ⟨("_law_cases", none), "_law_cases", "_law_cases", defArgs s_l_cases, defBody s_l_cases, defScope s_l_cases, [], []⟩
def dd_l_matches : He.DefD := ⟨("_law_matches", none), "_law_matches", "_law_matches", defArgs s_l_matches, defBody s_l_matches, defScope s_l_matches, [], []⟩
def dd_l_decides : He.DefD := ⟨("_law_decides", none), "_law_decides", "_law_decides", defArgs s_l_decides, defBody s_l_decides, defScope s_l_decides, [], []⟩
def dd_l_shuffled : He.DefD := ⟨("_law_shuffled", none), "_law_shuffled", "_law_shuffled", defArgs s_l_shuffled, defBody s_l_shuffled, defScope s_l_shuffled, [], []⟩
def dd_l_wanted : He.DefD := ⟨("_law_wanted", none), "_law_wanted", "_law_wanted", defArgs s_l_wanted, defBody s_l_wanted, defScope s_l_wanted, [], []⟩
def dd_l_wants : He.DefD := ⟨("_law_wants", none), "_law_wants", "_law_wants", defArgs s_l_wants, defBody s_l_wants, defScope s_l_wants, [], []⟩
def dd_l_kinds : He.DefD := ⟨("_law_kinds", none), "_law_kinds", "_law_kinds", defArgs s_l_kinds, defBody s_l_kinds, defScope s_l_kinds, [], []⟩
def dd_l_wrong : He.DefD := ⟨("_law_wrong", none), "_law_wrong", "_law_wrong", defArgs s_l_wrong, defBody s_l_wrong, defScope s_l_wrong, [], []⟩
def dd_l_rows : He.DefD := ⟨("_law_rows", none), "_law_rows", "_law_rows", defArgs s_l_rows, defBody s_l_rows, defScope s_l_rows, [], []⟩
def dd_l_right_rows : He.DefD := ⟨("_law_right_rows", none), "_law_right_rows", "_law_right_rows", defArgs s_l_right_rows, defBody s_l_right_rows, defScope s_l_right_rows, [], []⟩
def dd_l_distance : He.DefD := ⟨("_law_distance", none), "_law_distance", "_law_distance", defArgs s_l_distance, defBody s_l_distance, defScope s_l_distance, [], []⟩
def dd_l_is_told : He.DefD := ⟨("_law_is_told", none), "_law_is_told", "_law_is_told", defArgs s_l_is_told, defBody s_l_is_told, defScope s_l_is_told, [], []⟩
def dd_law : He.DefD := ⟨("law", none), "law", "law", defArgs s_law, defBody s_law, defScope s_law, [], []⟩
def hfn0 : List He.DefD := [dd_is_between, dd_is_widths, dd_is_range, dd_is_rule, dd_is_list, dd_is_case, dd_is_number, dd_is_row, dd_check_list_lists, dd_cases_of, dd_matches_in, dd_decided]
def hfn1 : List He.DefD := [dd_is_action, dd_are_pairs, dd_is_wanted, dd_check_list_wanted, dd_ascending, dd_wants, dd_check_both, dd_kinds_of, dd_action_by, dd_wrong_kind, dd_barred, dd_check_row_of]
def hfn2 : List He.DefD := [dd_is_whole, dd_need_right, dd_checked, dd_nearest, dd_l_stream, dd_l_next, dd_l_is_integer, dd_l_equal, dd_l_list, dd_l_widths, dd_l_cases, dd_l_matches]
def hfn3 : List He.DefD := [dd_l_decides, dd_l_shuffled, dd_l_wanted, dd_l_wants, dd_l_kinds, dd_l_wrong, dd_l_rows, dd_l_right_rows, dd_l_distance, dd_l_is_told, dd_law]
def hfn : List He.DefD := hfn0 ++ hfn1 ++ hfn2 ++ hfn3
def hfa0 : List He.Fa := [.glo "is_between", .glo "is_widths", .glo "is_range", .glo "is_rule", .glo "is_list", .glo "is_case", .glo "is_number", .glo "is_row", .glo "check_list_lists", .glo "cases_of", .glo "matches_in", .glo "decided"]
def hfa1 : List He.Fa := [.glo "is_action", .glo "are_pairs", .glo "is_wanted", .glo "check_list_wanted", .glo "ascending", .glo "wants", .glo "check_both", .glo "kinds_of", .glo "action_by", .glo "wrong_kind", .glo "barred", .glo "check_row_of"]
def hfa2 : List He.Fa := [.glo "is_whole", .glo "need_right", .glo "checked", .glo "nearest", .glo "_law_stream", .glo "_law_next", .glo "_law_is_integer", .glo "_law_equal", .glo "_law_list", .glo "_law_widths", .glo "_law_cases", .glo "_law_matches"]
def hfa3 : List He.Fa := [.glo "_law_decides", .glo "_law_shuffled", .glo "_law_wanted", .glo "_law_wants", .glo "_law_kinds", .glo "_law_wrong", .glo "_law_rows", .glo "_law_right_rows", .glo "_law_distance", .glo "_law_is_told", .glo "law", .free "len"]
def hfa4 : List He.Fa := [.free "tuple", .free "list", .free "range", .free "all", .free "any", .free "isinstance", .free "abs", .free "min", .free "max", .free "int", .free "bool", .free "str"]
def hfa5 : List He.Fa := [.free "sorted", .free "enumerate", .int "MOST_FIELDS" 3, .int "MOST_WIDTH" 8, .int "MOST_RULES" 7, .int "LAST_ACTION" 5, .int "MOST_PAIRS" 12, .int "MOST_ACTION" 5]
def hfa : List He.Fa := hfa0 ++ hfa1 ++ hfa2 ++ hfa3 ++ hfa4 ++ hfa5
def hls0 : List Str := ["__name__", "RowError", "BadValue", "NotPossible", "MOST_FIELDS", "MOST_WIDTH", "MOST_RULES", "LAST_ACTION", "is_between", "is_widths", "is_range", "is_rule"]
def hls1 : List Str := ["is_list", "is_case", "is_number", "is_row", "check_list", "check_list_lists", "cases_of", "matches_in", "decided", "MOST_PAIRS", "MOST_ACTION", "is_action"]
def hls2 : List Str := ["are_pairs", "is_wanted", "check_list_wanted", "ascending", "wants", "check_both", "kinds_of", "action_by", "wrong_kind", "barred", "check_row_of", "is_whole"]
def hls3 : List Str := ["need_right", "checked", "nearest", "_law_stream", "_law_next", "_law_is_integer", "_law_equal", "_law_list", "_law_widths", "_law_cases", "_law_matches", "_law_decides"]
def hls4 : List Str := ["_law_shuffled", "_law_wanted", "_law_wants", "_law_kinds", "_law_wrong", "_law_rows", "_law_right_rows", "_law_distance", "_law_is_told"]
def hls : List Str := hls0 ++ hls1 ++ hls2 ++ hls3 ++ hls4
abbrev hRow : PySem.W.OpenRow := PySem.W.OpenLaw.row PySem.Challenge.rw_rulerows_k36_whole_nearest_rows
abbrev hHook : PySem.W.Hook := He.hookD 4 hfa hfn
def hob (s : PySem.W.SharedT) : He.AlD := He.obsDG 4 hfa hfn (HandSHeadRun.getT s)
theorem hob_eq (s : PySem.W.SharedT) : hob s = hHook.obs s.abs := He.obsDG_eq (HandSHeadRun.getT_eq s)
theorem hrun (w : World) : HandSHeadRun.RunEq hRow (PySem.W.view hRow.prog [62]) hHook hob 4000 hls w := by
  intro os
  kernel_rfl
section
variable {P : Program} {w : World} {K : PySem.W.Frag} {mg : Str → Option Value} {h base : Heap}
theorem own_is_between (X : K.In h) (G : h.Ns mainGlobals mg) (c : He.SaysD hfa hfn K) : Own K mg "is_between" "is_between" s_is_between := by
  obtain ⟨fd, F⟩ := c.def_ 0 (d := dd_is_between) rfl
  exact ⟨_, fd, F, He.glo_ok X G (c.fact 0 (f := .glo "is_between") rfl)⟩
theorem own_is_widths (X : K.In h) (G : h.Ns mainGlobals mg) (c : He.SaysD hfa hfn K) : Own K mg "is_widths" "is_widths" s_is_widths := by
  obtain ⟨fd, F⟩ := c.def_ 1 (d := dd_is_widths) rfl
  exact ⟨_, fd, F, He.glo_ok X G (c.fact 1 (f := .glo "is_widths") rfl)⟩
theorem own_is_range (X : K.In h) (G : h.Ns mainGlobals mg) (c : He.SaysD hfa hfn K) : Own K mg "is_range" "is_range" s_is_range := by
  obtain ⟨fd, F⟩ := c.def_ 2 (d := dd_is_range) rfl
  exact ⟨_, fd, F, He.glo_ok X G (c.fact 2 (f := .glo "is_range") rfl)⟩
theorem own_is_rule (X : K.In h) (G : h.Ns mainGlobals mg) (c : He.SaysD hfa hfn K) : Own K mg "is_rule" "is_rule" s_is_rule := by
  obtain ⟨fd, F⟩ := c.def_ 3 (d := dd_is_rule) rfl
  exact ⟨_, fd, F, He.glo_ok X G (c.fact 3 (f := .glo "is_rule") rfl)⟩
theorem own_is_list (X : K.In h) (G : h.Ns mainGlobals mg) (c : He.SaysD hfa hfn K) : Own K mg "is_list" "is_list" s_is_list := by
  obtain ⟨fd, F⟩ := c.def_ 4 (d := dd_is_list) rfl
  exact ⟨_, fd, F, He.glo_ok X G (c.fact 4 (f := .glo "is_list") rfl)⟩
theorem own_is_case (X : K.In h) (G : h.Ns mainGlobals mg) (c : He.SaysD hfa hfn K) : Own K mg "is_case" "is_case" s_is_case := by
  obtain ⟨fd, F⟩ := c.def_ 5 (d := dd_is_case) rfl
  exact ⟨_, fd, F, He.glo_ok X G (c.fact 5 (f := .glo "is_case") rfl)⟩
theorem own_is_number (X : K.In h) (G : h.Ns mainGlobals mg) (c : He.SaysD hfa hfn K) : Own K mg "is_number" "is_number" s_is_number := by
  obtain ⟨fd, F⟩ := c.def_ 6 (d := dd_is_number) rfl
  exact ⟨_, fd, F, He.glo_ok X G (c.fact 6 (f := .glo "is_number") rfl)⟩
theorem own_is_row (X : K.In h) (G : h.Ns mainGlobals mg) (c : He.SaysD hfa hfn K) : Own K mg "is_row" "is_row" s_is_row := by
  obtain ⟨fd, F⟩ := c.def_ 7 (d := dd_is_row) rfl
  exact ⟨_, fd, F, He.glo_ok X G (c.fact 7 (f := .glo "is_row") rfl)⟩
theorem own_check_list_lists (X : K.In h) (G : h.Ns mainGlobals mg) (c : He.SaysD hfa hfn K) : Own K mg "check_list_lists" "check_list" s_check_list_lists := by
  obtain ⟨fd, F⟩ := c.def_ 8 (d := dd_check_list_lists) rfl
  exact ⟨_, fd, F, He.glo_ok X G (c.fact 8 (f := .glo "check_list_lists") rfl)⟩
theorem own_cases_of (X : K.In h) (G : h.Ns mainGlobals mg) (c : He.SaysD hfa hfn K) : Own K mg "cases_of" "cases_of" s_cases_of := by
  obtain ⟨fd, F⟩ := c.def_ 9 (d := dd_cases_of) rfl
  exact ⟨_, fd, F, He.glo_ok X G (c.fact 9 (f := .glo "cases_of") rfl)⟩
theorem own_matches_in (X : K.In h) (G : h.Ns mainGlobals mg) (c : He.SaysD hfa hfn K) : Own K mg "matches_in" "matches_in" s_matches_in := by
  obtain ⟨fd, F⟩ := c.def_ 10 (d := dd_matches_in) rfl
  exact ⟨_, fd, F, He.glo_ok X G (c.fact 10 (f := .glo "matches_in") rfl)⟩
theorem own_decided (X : K.In h) (G : h.Ns mainGlobals mg) (c : He.SaysD hfa hfn K) : Own K mg "decided" "decided" s_decided := by
  obtain ⟨fd, F⟩ := c.def_ 11 (d := dd_decided) rfl
  exact ⟨_, fd, F, He.glo_ok X G (c.fact 11 (f := .glo "decided") rfl)⟩
theorem own_is_action (X : K.In h) (G : h.Ns mainGlobals mg) (c : He.SaysD hfa hfn K) : Own K mg "is_action" "is_action" s_is_action := by
  obtain ⟨fd, F⟩ := c.def_ 12 (d := dd_is_action) rfl
  exact ⟨_, fd, F, He.glo_ok X G (c.fact 12 (f := .glo "is_action") rfl)⟩
theorem own_are_pairs (X : K.In h) (G : h.Ns mainGlobals mg) (c : He.SaysD hfa hfn K) : Own K mg "are_pairs" "are_pairs" s_are_pairs := by
  obtain ⟨fd, F⟩ := c.def_ 13 (d := dd_are_pairs) rfl
  exact ⟨_, fd, F, He.glo_ok X G (c.fact 13 (f := .glo "are_pairs") rfl)⟩
theorem own_is_wanted (X : K.In h) (G : h.Ns mainGlobals mg) (c : He.SaysD hfa hfn K) : Own K mg "is_wanted" "is_wanted" s_is_wanted := by
  obtain ⟨fd, F⟩ := c.def_ 14 (d := dd_is_wanted) rfl
  exact ⟨_, fd, F, He.glo_ok X G (c.fact 14 (f := .glo "is_wanted") rfl)⟩
theorem own_check_list_wanted (X : K.In h) (G : h.Ns mainGlobals mg) (c : He.SaysD hfa hfn K) : Own K mg "check_list_wanted" "check_list" s_check_list_wanted := by
  obtain ⟨fd, F⟩ := c.def_ 15 (d := dd_check_list_wanted) rfl
  exact ⟨_, fd, F, He.glo_ok X G (c.fact 15 (f := .glo "check_list_wanted") rfl)⟩
theorem own_ascending (X : K.In h) (G : h.Ns mainGlobals mg) (c : He.SaysD hfa hfn K) : Own K mg "ascending" "ascending" s_ascending := by
  obtain ⟨fd, F⟩ := c.def_ 16 (d := dd_ascending) rfl
  exact ⟨_, fd, F, He.glo_ok X G (c.fact 16 (f := .glo "ascending") rfl)⟩
theorem own_wants (X : K.In h) (G : h.Ns mainGlobals mg) (c : He.SaysD hfa hfn K) : Own K mg "wants" "wants" s_wants := by
  obtain ⟨fd, F⟩ := c.def_ 17 (d := dd_wants) rfl
  exact ⟨_, fd, F, He.glo_ok X G (c.fact 17 (f := .glo "wants") rfl)⟩
theorem own_check_both (X : K.In h) (G : h.Ns mainGlobals mg) (c : He.SaysD hfa hfn K) : Own K mg "check_both" "check_both" s_check_both := by
  obtain ⟨fd, F⟩ := c.def_ 18 (d := dd_check_both) rfl
  exact ⟨_, fd, F, He.glo_ok X G (c.fact 18 (f := .glo "check_both") rfl)⟩
theorem own_kinds_of (X : K.In h) (G : h.Ns mainGlobals mg) (c : He.SaysD hfa hfn K) : Own K mg "kinds_of" "kinds_of" s_kinds_of := by
  obtain ⟨fd, F⟩ := c.def_ 19 (d := dd_kinds_of) rfl
  exact ⟨_, fd, F, He.glo_ok X G (c.fact 19 (f := .glo "kinds_of") rfl)⟩
theorem own_action_by (X : K.In h) (G : h.Ns mainGlobals mg) (c : He.SaysD hfa hfn K) : Own K mg "action_by" "action_by" s_action_by := by
  obtain ⟨fd, F⟩ := c.def_ 20 (d := dd_action_by) rfl
  exact ⟨_, fd, F, He.glo_ok X G (c.fact 20 (f := .glo "action_by") rfl)⟩
theorem own_wrong_kind (X : K.In h) (G : h.Ns mainGlobals mg) (c : He.SaysD hfa hfn K) : Own K mg "wrong_kind" "wrong_kind" s_wrong_kind := by
  obtain ⟨fd, F⟩ := c.def_ 21 (d := dd_wrong_kind) rfl
  exact ⟨_, fd, F, He.glo_ok X G (c.fact 21 (f := .glo "wrong_kind") rfl)⟩
theorem own_barred (X : K.In h) (G : h.Ns mainGlobals mg) (c : He.SaysD hfa hfn K) : Own K mg "barred" "barred" s_barred := by
  obtain ⟨fd, F⟩ := c.def_ 22 (d := dd_barred) rfl
  exact ⟨_, fd, F, He.glo_ok X G (c.fact 22 (f := .glo "barred") rfl)⟩
theorem own_check_row_of (X : K.In h) (G : h.Ns mainGlobals mg) (c : He.SaysD hfa hfn K) : Own K mg "check_row_of" "check_row_of" s_check_row_of := by
  obtain ⟨fd, F⟩ := c.def_ 23 (d := dd_check_row_of) rfl
  exact ⟨_, fd, F, He.glo_ok X G (c.fact 23 (f := .glo "check_row_of") rfl)⟩
theorem own_is_whole (X : K.In h) (G : h.Ns mainGlobals mg) (c : He.SaysD hfa hfn K) : Own K mg "is_whole" "is_whole" s_is_whole := by
  obtain ⟨fd, F⟩ := c.def_ 24 (d := dd_is_whole) rfl
  exact ⟨_, fd, F, He.glo_ok X G (c.fact 24 (f := .glo "is_whole") rfl)⟩
theorem own_need_right (X : K.In h) (G : h.Ns mainGlobals mg) (c : He.SaysD hfa hfn K) : Own K mg "need_right" "need_right" s_need_right := by
  obtain ⟨fd, F⟩ := c.def_ 25 (d := dd_need_right) rfl
  exact ⟨_, fd, F, He.glo_ok X G (c.fact 25 (f := .glo "need_right") rfl)⟩
theorem own_checked (X : K.In h) (G : h.Ns mainGlobals mg) (c : He.SaysD hfa hfn K) : Own K mg "checked" "checked" s_checked := by
  obtain ⟨fd, F⟩ := c.def_ 26 (d := dd_checked) rfl
  exact ⟨_, fd, F, He.glo_ok X G (c.fact 26 (f := .glo "checked") rfl)⟩
theorem own_nearest (X : K.In h) (G : h.Ns mainGlobals mg) (c : He.SaysD hfa hfn K) : Own K mg "nearest" "nearest" s_nearest := by
  obtain ⟨fd, F⟩ := c.def_ 27 (d := dd_nearest) rfl
  exact ⟨_, fd, F, He.glo_ok X G (c.fact 27 (f := .glo "nearest") rfl)⟩
theorem own_l_stream (X : K.In h) (G : h.Ns mainGlobals mg) (c : He.SaysD hfa hfn K) : Own K mg "_law_stream" "_law_stream" s_l_stream := by
  obtain ⟨fd, F⟩ := c.def_ 28 (d := dd_l_stream) rfl
  exact ⟨_, fd, F, He.glo_ok X G (c.fact 28 (f := .glo "_law_stream") rfl)⟩
theorem own_l_next (X : K.In h) (G : h.Ns mainGlobals mg) (c : He.SaysD hfa hfn K) : Own K mg "_law_next" "_law_next" s_l_next := by
  obtain ⟨fd, F⟩ := c.def_ 29 (d := dd_l_next) rfl
  exact ⟨_, fd, F, He.glo_ok X G (c.fact 29 (f := .glo "_law_next") rfl)⟩
theorem own_l_is_integer (X : K.In h) (G : h.Ns mainGlobals mg) (c : He.SaysD hfa hfn K) : Own K mg "_law_is_integer" "_law_is_integer" s_l_is_integer := by
  obtain ⟨fd, F⟩ := c.def_ 30 (d := dd_l_is_integer) rfl
  exact ⟨_, fd, F, He.glo_ok X G (c.fact 30 (f := .glo "_law_is_integer") rfl)⟩
theorem own_l_equal (X : K.In h) (G : h.Ns mainGlobals mg) (c : He.SaysD hfa hfn K) : Own K mg "_law_equal" "_law_equal" s_l_equal := by
  obtain ⟨fd, F⟩ := c.def_ 31 (d := dd_l_equal) rfl
  exact ⟨_, fd, F, He.glo_ok X G (c.fact 31 (f := .glo "_law_equal") rfl)⟩
theorem own_l_list (X : K.In h) (G : h.Ns mainGlobals mg) (c : He.SaysD hfa hfn K) : Own K mg "_law_list" "_law_list" s_l_list := by
  obtain ⟨fd, F⟩ := c.def_ 32 (d := dd_l_list) rfl
  exact ⟨_, fd, F, He.glo_ok X G (c.fact 32 (f := .glo "_law_list") rfl)⟩
theorem own_l_widths (X : K.In h) (G : h.Ns mainGlobals mg) (c : He.SaysD hfa hfn K) : Own K mg "_law_widths" "_law_widths" s_l_widths := by
  obtain ⟨fd, F⟩ := c.def_ 33 (d := dd_l_widths) rfl
  exact ⟨_, fd, F, He.glo_ok X G (c.fact 33 (f := .glo "_law_widths") rfl)⟩
theorem own_l_cases (X : K.In h) (G : h.Ns mainGlobals mg) (c : He.SaysD hfa hfn K) : Own K mg "_law_cases" "_law_cases" s_l_cases := by
  obtain ⟨fd, F⟩ := c.def_ 34 (d := dd_l_cases) rfl
  exact ⟨_, fd, F, He.glo_ok X G (c.fact 34 (f := .glo "_law_cases") rfl)⟩
theorem own_l_matches (X : K.In h) (G : h.Ns mainGlobals mg) (c : He.SaysD hfa hfn K) : Own K mg "_law_matches" "_law_matches" s_l_matches := by
  obtain ⟨fd, F⟩ := c.def_ 35 (d := dd_l_matches) rfl
  exact ⟨_, fd, F, He.glo_ok X G (c.fact 35 (f := .glo "_law_matches") rfl)⟩
theorem own_l_decides (X : K.In h) (G : h.Ns mainGlobals mg) (c : He.SaysD hfa hfn K) : Own K mg "_law_decides" "_law_decides" s_l_decides := by
  obtain ⟨fd, F⟩ := c.def_ 36 (d := dd_l_decides) rfl
  exact ⟨_, fd, F, He.glo_ok X G (c.fact 36 (f := .glo "_law_decides") rfl)⟩
theorem own_l_shuffled (X : K.In h) (G : h.Ns mainGlobals mg) (c : He.SaysD hfa hfn K) : Own K mg "_law_shuffled" "_law_shuffled" s_l_shuffled := by
  obtain ⟨fd, F⟩ := c.def_ 37 (d := dd_l_shuffled) rfl
  exact ⟨_, fd, F, He.glo_ok X G (c.fact 37 (f := .glo "_law_shuffled") rfl)⟩
theorem own_l_wanted (X : K.In h) (G : h.Ns mainGlobals mg) (c : He.SaysD hfa hfn K) : Own K mg "_law_wanted" "_law_wanted" s_l_wanted := by
  obtain ⟨fd, F⟩ := c.def_ 38 (d := dd_l_wanted) rfl
  exact ⟨_, fd, F, He.glo_ok X G (c.fact 38 (f := .glo "_law_wanted") rfl)⟩
theorem own_l_wants (X : K.In h) (G : h.Ns mainGlobals mg) (c : He.SaysD hfa hfn K) : Own K mg "_law_wants" "_law_wants" s_l_wants := by
  obtain ⟨fd, F⟩ := c.def_ 39 (d := dd_l_wants) rfl
  exact ⟨_, fd, F, He.glo_ok X G (c.fact 39 (f := .glo "_law_wants") rfl)⟩
theorem own_l_kinds (X : K.In h) (G : h.Ns mainGlobals mg) (c : He.SaysD hfa hfn K) : Own K mg "_law_kinds" "_law_kinds" s_l_kinds := by
  obtain ⟨fd, F⟩ := c.def_ 40 (d := dd_l_kinds) rfl
  exact ⟨_, fd, F, He.glo_ok X G (c.fact 40 (f := .glo "_law_kinds") rfl)⟩
theorem own_l_wrong (X : K.In h) (G : h.Ns mainGlobals mg) (c : He.SaysD hfa hfn K) : Own K mg "_law_wrong" "_law_wrong" s_l_wrong := by
  obtain ⟨fd, F⟩ := c.def_ 41 (d := dd_l_wrong) rfl
  exact ⟨_, fd, F, He.glo_ok X G (c.fact 41 (f := .glo "_law_wrong") rfl)⟩
theorem own_l_rows (X : K.In h) (G : h.Ns mainGlobals mg) (c : He.SaysD hfa hfn K) : Own K mg "_law_rows" "_law_rows" s_l_rows := by
  obtain ⟨fd, F⟩ := c.def_ 42 (d := dd_l_rows) rfl
  exact ⟨_, fd, F, He.glo_ok X G (c.fact 42 (f := .glo "_law_rows") rfl)⟩
theorem own_l_right_rows (X : K.In h) (G : h.Ns mainGlobals mg) (c : He.SaysD hfa hfn K) : Own K mg "_law_right_rows" "_law_right_rows" s_l_right_rows := by
  obtain ⟨fd, F⟩ := c.def_ 43 (d := dd_l_right_rows) rfl
  exact ⟨_, fd, F, He.glo_ok X G (c.fact 43 (f := .glo "_law_right_rows") rfl)⟩
theorem own_l_distance (X : K.In h) (G : h.Ns mainGlobals mg) (c : He.SaysD hfa hfn K) : Own K mg "_law_distance" "_law_distance" s_l_distance := by
  obtain ⟨fd, F⟩ := c.def_ 44 (d := dd_l_distance) rfl
  exact ⟨_, fd, F, He.glo_ok X G (c.fact 44 (f := .glo "_law_distance") rfl)⟩
theorem own_l_is_told (X : K.In h) (G : h.Ns mainGlobals mg) (c : He.SaysD hfa hfn K) : Own K mg "_law_is_told" "_law_is_told" s_l_is_told := by
  obtain ⟨fd, F⟩ := c.def_ 45 (d := dd_l_is_told) rfl
  exact ⟨_, fd, F, He.glo_ok X G (c.fact 45 (f := .glo "_law_is_told") rfl)⟩
theorem own_law (X : K.In h) (G : h.Ns mainGlobals mg) (c : He.SaysD hfa hfn K) : Own K mg "law" "law" s_law := by
  obtain ⟨fd, F⟩ := c.def_ 46 (d := dd_law) rfl
  exact ⟨_, fd, F, He.glo_ok X G (c.fact 46 (f := .glo "law") rfl)⟩
theorem zs_all (X : K.In h) (G : h.Ns mainGlobals mg) (c : He.SaysD hfa hfn K) : Zs mg :=
  ⟨He.free_ok X G (c.fact 47 (f := .free "len") rfl),
   He.free_ok X G (c.fact 48 (f := .free "tuple") rfl),
   He.free_ok X G (c.fact 49 (f := .free "list") rfl),
   He.free_ok X G (c.fact 50 (f := .free "range") rfl),
   He.free_ok X G (c.fact 51 (f := .free "all") rfl),
   He.free_ok X G (c.fact 52 (f := .free "any") rfl),
   He.free_ok X G (c.fact 53 (f := .free "isinstance") rfl),
   He.free_ok X G (c.fact 54 (f := .free "abs") rfl),
   He.free_ok X G (c.fact 55 (f := .free "min") rfl),
   He.free_ok X G (c.fact 56 (f := .free "max") rfl),
   He.free_ok X G (c.fact 57 (f := .free "int") rfl),
   He.free_ok X G (c.fact 58 (f := .free "bool") rfl),
   He.free_ok X G (c.fact 59 (f := .free "str") rfl),
   He.free_ok X G (c.fact 60 (f := .free "sorted") rfl),
   He.free_ok X G (c.fact 61 (f := .free "enumerate") rfl),
   let ⟨t, e⟩ := He.int_ok X G (c.fact 62 (f := .int "MOST_FIELDS" 3) rfl); ⟨_, e, t, rfl⟩,
   let ⟨t, e⟩ := He.int_ok X G (c.fact 63 (f := .int "MOST_WIDTH" 8) rfl); ⟨_, e, t, rfl⟩,
   let ⟨t, e⟩ := He.int_ok X G (c.fact 64 (f := .int "MOST_RULES" 7) rfl); ⟨_, e, t, rfl⟩,
   let ⟨t, e⟩ := He.int_ok X G (c.fact 65 (f := .int "LAST_ACTION" 5) rfl); ⟨_, e, t, rfl⟩,
   let ⟨t, e⟩ := He.int_ok X G (c.fact 66 (f := .int "MOST_PAIRS" 12) rfl); ⟨_, e, t, rfl⟩,
   let ⟨t, e⟩ := He.int_ok X G (c.fact 67 (f := .int "MOST_ACTION" 5) rfl); ⟨_, e, t, rfl⟩⟩
theorem hfacts {f : Addr} (X : K.In h) (G : h.Ns mainGlobals mg) (hfa_ : mg ("law" : Str) = some (.ref f)) (c : He.SaysD hfa hfn K) :
    ∃ fd : FuncData, (∀ (s : Shared) (v : Value), BindsTo s fd ⟨[v], []⟩ [("_law_script", v)]) ∧ ∀ base : Heap, FnOk P w K mg base CX0 11 f fd ["_law_script"] (sp_lawK K) := by
  obtain ⟨fd, F⟩ := c.def_ 46 (d := dd_law) rfl
  have e := hfa_.symm.trans (He.glo_ok X G (c.fact 46 (f := .glo "law") rfl))
  cases e
  have b := FunD.bindsA (ps := ["_law_script"]) F fun _ _ _ _ _ _ us hl => match us, hl with | [_], _ => rfl
  refine ⟨fd, fun s v => b s [v] rfl, fun base => ?_⟩
  have Z := zs_all X G c
  have C_l_stream := ok_streamK (P := P) (w := w) (base := base) Z (own_l_stream X G c)
  have C_l_next := ok_l_next (P := P) (w := w) (base := base) Z (own_l_next X G c)
  have C_l_shuffled := ok_l_shuffled (P := P) (w := w) (base := base) Z (own_l_shuffled X G c) C_l_next
  have C_l_cases := ok_l_cases (P := P) (w := w) (base := base) Z (own_l_cases X G c)
  have C_l_matches := ok_l_matches (P := P) (w := w) (base := base) Z (own_l_matches X G c)
  have C_l_decides := ok_l_decides (P := P) (w := w) (base := base) Z (own_l_decides X G c) C_l_matches
  have C_l_wanted := ok_l_wanted (P := P) (w := w) (base := base) Z (own_l_wanted X G c) C_l_next C_l_shuffled C_l_cases C_l_decides
  have C_l_kinds := ok_l_kinds (P := P) (w := w) (base := base) Z (own_l_kinds X G c) C_l_matches
  have C_l_rows := ok_l_rows (P := P) (w := w) (base := base) Z (own_l_rows X G c)
  have C_l_wrong := ok_l_wrong (P := P) (w := w) (base := base) Z (own_l_wrong X G c)
  have C_l_right_rows := ok_l_right_rows (P := P) (w := w) (base := base) Z (own_l_right_rows X G c) C_l_rows C_l_wrong
  have C_l_wants := ok_l_wants (P := P) (w := w) (base := base) Z (own_l_wants X G c) C_l_decides C_l_cases
  have C_l_is_integer := ok_l_is_integer (P := P) (w := w) (base := base) Z (own_l_is_integer X G c)
  have C_l_equal0 := ok_l_equal0 (P := P) (w := w) (base := base) (own_l_equal X G c)
  have C_l_equal1 := ok_l_equal1 (P := P) (w := w) (base := base) Z (own_l_equal X G c) C_l_is_integer C_l_equal0
  have C_l_equal := ok_l_equal (P := P) (w := w) (base := base) Z (own_l_equal X G c) C_l_is_integer C_l_equal1
  have C_is_between := ok_is_between (P := P) (w := w) (base := base) Z (own_is_between X G c)
  have C_is_widths := ok_is_widths (P := P) (w := w) (base := base) Z (own_is_widths X G c) C_is_between
  have C_is_range := ok_is_range (P := P) (w := w) (base := base) Z (own_is_range X G c) C_is_between
  have C_is_rule := ok_is_rule (P := P) (w := w) (base := base) Z (own_is_rule X G c) C_is_between C_is_range
  have C_is_list := ok_is_list (P := P) (w := w) (base := base) Z (own_is_list X G c) C_is_widths C_is_between C_is_rule
  have C_check_list_lists := ok_check_list_lists (P := P) (w := w) (base := base) Z (own_check_list_lists X G c) C_is_list
  have C_check_list_wanted := ok_check_list_wanted (P := P) (w := w) (base := base) Z (own_check_list_wanted X G c) C_is_list
  have C_is_case := ok_is_case (P := P) (w := w) (base := base) Z (own_is_case X G c) C_is_between
  have C_is_action := ok_is_action (P := P) (w := w) (base := base) Z (own_is_action X G c)
  have C_are_pairs := ok_are_pairs (P := P) (w := w) (base := base) Z (own_are_pairs X G c) C_is_case C_is_action
  have C_is_wanted := ok_is_wanted (P := P) (w := w) (base := base) Z (own_is_wanted X G c) C_check_list_wanted C_are_pairs C_is_list
  have C_check_both := ok_check_both (P := P) (w := w) (base := base) Z (own_check_both X G c) C_check_list_lists C_is_wanted
  have C_is_number := ok_is_number (P := P) (w := w) (base := base) Z (own_is_number X G c) C_is_between
  have C_is_row := ok_is_row (P := P) (w := w) (base := base) Z (own_is_row X G c) C_is_number
  have C_check_row_of := ok_check_row_of (P := P) (w := w) (base := base) Z (own_check_row_of X G c) C_is_row
  have C_cases_of := ok_cases_of (P := P) (w := w) (base := base) Z (own_cases_of X G c)
  have C_matches_in := ok_matches_in (P := P) (w := w) (base := base) Z (own_matches_in X G c)
  have C_decided := ok_decided (P := P) (w := w) (base := base) Z (own_decided X G c) C_matches_in
  have C_ascending := ok_ascending (P := P) (w := w) (base := base) Z (own_ascending X G c)
  have C_wants := ok_wants (P := P) (w := w) (base := base) Z (own_wants X G c) C_cases_of C_decided C_ascending
  have C_kinds_of := ok_kinds_of (P := P) (w := w) (base := base) Z (own_kinds_of X G c) C_wants C_matches_in
  have C_checked := ok_checked (P := P) (w := w) (base := base) Z (own_checked X G c) C_check_both C_check_row_of C_kinds_of
  have C_action_by := ok_action_by (P := P) (w := w) (base := base) Z (own_action_by X G c)
  have C_wrong_kind := ok_wrong_kind (P := P) (w := w) (base := base) Z (own_wrong_kind X G c) C_action_by
  have C_need_right := ok_need_right (P := P) (w := w) (base := base) Z (own_need_right X G c) C_wrong_kind
  have C_is_whole := ok_is_whole (P := P) (w := w) (base := base) Z (own_is_whole X G c)
  have C_barred := ok_barred (P := P) (w := w) (base := base) Z (own_barred X G c)
  have C_nearest := ok_nearest (P := P) (w := w) (base := base) Z (own_nearest X G c) C_checked C_need_right C_is_whole C_barred
  have C_l_distance := ok_l_distance (P := P) (w := w) (base := base) Z (own_l_distance X G c)
  have C_l_is_told := ok_l_is_told (P := P) (w := w) (base := base) Z (own_l_is_told X G c) C_l_wanted C_l_kinds C_l_right_rows C_l_wants C_l_next C_l_equal C_nearest C_l_distance
  have C_l_list := ok_l_list (P := P) (w := w) (base := base) Z (own_l_list X G c) C_l_next
  have C_l_widths := ok_l_widths (P := P) (w := w) (base := base) Z (own_l_widths X G c) C_l_next
  exact ok_lawF Z F C_l_stream C_l_is_told C_l_list C_l_next C_l_widths
end
end Nr
set_option Elab.async false
set_option linter.all false
set_option maxRecDepth 100000
set_option maxHeartbeats 0
open PySem PySem.W PySem.Calls PyProof.Rows
theorem PySem.Challenge.cw_rulerows_k36_whole_nearest_rows_holds : PySem.Challenge.rw_rulerows_k36_whole_nearest_rows.Holds := by
  w_on; o_law
  refine HandSHeadRun.head_any (r := Nr.hRow) (q := view Nr.hRow.prog [62]) (H := Nr.hHook) (ob := Nr.hob) (M := 4000) (loose := Nr.hls) (d := HandSHeadRun.topDef Nr.hRow.prog 62) (kwd := []) Nr.hob_eq
    (by kernel_rfl) (fun s => by kernel_rfl) Nr.hrun (by kernel_rfl) (by kernel_rfl) (by kernel_rfl) (by rfl) (by first | assumption | decide +kernel) (by decide +kernel) ⟨rfl, rfl, rfl, rfl, rfl, by decide +kernel⟩ ?hw ?hc
  case hw => w_witness2
  case hc =>
    refine L2.walk_ofE (l := PySem.Challenge.rw_rulerows_k36_whole_nearest_rows) (n := 63) (k := 11) (x := "_law_script") (CX := L2.CX0) rfl (by decide) (by kernel_rfl) ⟨rfl, by decide, by decide⟩ ?F (fun _ _ _ _ z => z)
    intro w mg fa h Y G hmg0
    obtain ⟨K, KX, c⟩ := Y
    have hmg : mg ("law" : PySem.Str) = some (.ref fa) := by
      have e : (HandSHeadRun.topDef Nr.hRow.prog 62).name = ("law" : PySem.Str) := by kernel_rfl
      rw [← e]
      exact hmg0
    obtain ⟨fd, hb, hF⟩ := Nr.hfacts (P := (PySem.Challenge.rw_rulerows_k36_whole_nearest_rows).prog) (w := w) KX G hmg c
    exact ⟨K, fd, Nr.sp_lawK K, KX, hb, fun H a ns hl _ hS => ⟨a, ns, rfl, hS, fun _ => rfl⟩, fun base _ _ => hF base⟩
#print axioms PySem.Challenge.cw_rulerows_k36_whole_nearest_rows_holds
