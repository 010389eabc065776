import PyProof.Rows.All
import Wide.All
import OpenK.AllK
import Wide.FinOn
import HandS.ForMost
import HandS.Evl
import HandS.TupLen
import HandS.TupSets
import HandS.IsInst
import HandS.DictTup
import HandS.Strs
import HandS.Conv
import HandS.Exc
import HandS.ExcOwn
import HandS.SortRule
import KE.SortData
import KE.KDictKeyed
import HandS.TupAny
import HandS.SetFor
import HandS.Steps
import KE.KDictDisplayH
import KE.KDictSum
import KE.DataMinMax
import KE.SortKeyHeap
import KE.KSortKey
import HandS.Lambda
import HandS.SortKw
import HandS.Deep
import HandS.RevRange
import HandS.EndOwn
import HandS.NestedK
import PySem.Challenge.RW_keptcubes_k04_whole_reckoned_with_the_fe
section
set_option Elab.async false
set_option autoImplicit false
set_option linter.all false
/-! Tables as bags of rows: plain Lean, no program in sight. -/
namespace KC
/-! ### association lists -/
section assoc
variable {κ α β : Type} [DecidableEq κ]
def getG : List (κ × α) → κ → Option α
  | [], _ => none
  | e :: m, k => if e.1 = k then some e.2 else getG m k
def putG (m : List (κ × α)) (k : κ) (v : α) : List (κ × α) :=
  if (getG m k).isSome = true then m.map (fun e => if e.1 = k then (e.1, v) else e) else m ++ [(k, v)]
def dropG (m : List (κ × α)) (k : κ) : List (κ × α) := m.filter fun e => decide (e.1 ≠ k)
theorem getG_nil (k : κ) : getG ([] : List (κ × α)) k = none := rfl
theorem getG_cons (e : κ × α) (m : List (κ × α)) (k : κ) : getG (e :: m) k = if e.1 = k then some e.2 else getG m k := rfl
theorem getG_none {m : List (κ × α)} {k : κ} : getG m k = none ↔ k ∉ m.map (·.1) := by
  induction m with
  | nil => simp [getG]
  | cons e m ih =>
    rw [getG_cons]
    by_cases h : e.1 = k
    · simp [h]
    · rw [if_neg h, ih]
      simp only [List.map_cons, List.mem_cons, not_or]
      exact ⟨fun q => ⟨fun z => h z.symm, q⟩, fun q => q.2⟩
theorem getG_mem {m : List (κ × α)} {k : κ} {v : α} (h : getG m k = some v) : (k, v) ∈ m := by
  induction m with
  | nil => cases h
  | cons e m ih =>
    rw [getG_cons] at h
    by_cases q : e.1 = k
    · rw [if_pos q] at h
      cases h
      subst q
      exact List.mem_cons_self
    · rw [if_neg q] at h
      exact List.mem_cons_of_mem _ (ih h)
theorem getG_of_mem {m : List (κ × α)} {k : κ} {v : α} (nd : (m.map (·.1)).Nodup) (h : (k, v) ∈ m) : getG m k = some v := by
  induction m with
  | nil => cases h
  | cons e m ih =>
    rw [List.map_cons, List.nodup_cons] at nd
    rw [getG_cons]
    rcases List.mem_cons.mp h with q | q
    · rw [← q, if_pos rfl]
    · have : e.1 ≠ k := fun z => nd.1 (by rw [z]; exact List.mem_map.mpr ⟨_, q, rfl⟩)
      rw [if_neg this]
      exact ih nd.2 q
theorem getG_isSome {m : List (κ × α)} {k : κ} : (getG m k).isSome = true ↔ k ∈ m.map (·.1) := by
  cases h : getG m k with
  | none => simp only [Option.isSome_none, Bool.false_eq_true, false_iff]; exact getG_none.mp h
  | some v => simp only [Option.isSome_some, true_iff]; exact List.mem_map.mpr ⟨_, getG_mem h, rfl⟩
theorem putG_new {m : List (κ × α)} {k : κ} {v : α} (h : getG m k = none) : putG m k v = m ++ [(k, v)] := by
  unfold putG; rw [h]; rfl
theorem putG_old {m : List (κ × α)} {k : κ} {v u : α} (h : getG m k = some u) : putG m k v = m.map (fun e => if e.1 = k then (e.1, v) else e) := by
  unfold putG; rw [h]; rfl
theorem keys_put (m : List (κ × α)) (k : κ) (v : α) : (putG m k v).map (·.1) = if k ∈ m.map (·.1) then m.map (·.1) else m.map (·.1) ++ [k] := by
  cases h : getG m k with
  | none =>
    rw [putG_new h, if_neg (getG_none.mp h), List.map_append]
    rfl
  | some u =>
    rw [putG_old h, if_pos (List.mem_map.mpr ⟨_, getG_mem h, rfl⟩), List.map_map]
    refine List.map_congr_left fun e _ => ?_
    show (if e.1 = k then (e.1, v) else e).1 = e.1
    split <;> rfl
theorem nd_put {m : List (κ × α)} (k : κ) (v : α) (nd : (m.map (·.1)).Nodup) : ((putG m k v).map (·.1)).Nodup := by
  rw [keys_put]
  split
  · exact nd
  · rename_i h
    exact List.nodup_append.mpr ⟨nd, by simp, fun a ha b hb e => by
      simp only [List.mem_singleton] at hb
      subst hb; subst e
      exact h ha⟩
theorem get_put (m : List (κ × α)) (k j : κ) (v : α) : getG (putG m k v) j = if j = k then some v else getG m j := by
  cases h : getG m k with
  | none =>
    rw [putG_new h]
    have : ∀ m : List (κ × α), getG m k = none → getG (m ++ [(k, v)]) j = if j = k then some v else getG m j := by
      intro m
      induction m with
      | nil =>
        intro _
        show (if k = j then some v else none) = _
        by_cases e : j = k
        · rw [if_pos e, if_pos e.symm]
        · rw [if_neg e, if_neg (fun z => e z.symm)]; rfl
      | cons e m ih =>
        intro hn
        rw [getG_cons] at hn
        have hk : ¬ e.1 = k := fun z => by rw [if_pos z] at hn; cases hn
        rw [if_neg hk] at hn
        rw [List.cons_append, getG_cons, getG_cons, ih hn]
        by_cases q : e.1 = j
        · rw [if_pos q, if_pos q, if_neg (fun z => hk (q.trans z))]
        · rw [if_neg q, if_neg q]
    exact this m h
  | some u =>
    rw [putG_old h]
    have hs : ∀ m : List (κ × α), getG (m.map (fun e => if e.1 = k then (e.1, v) else e)) j = if j = k then (getG m j).map (fun _ => v) else getG m j := by
      intro m
      induction m with
      | nil => show none = _; split <;> rfl
      | cons e m ih =>
        rw [List.map_cons, getG_cons, getG_cons, ih]
        by_cases q : e.1 = k
        · rw [if_pos q]
          by_cases p : e.1 = j
          · have : j = k := p.symm.trans q
            simp [p, this]
          · have : ¬ j = k := fun z => p (q.trans z.symm)
            simp [p, this]
        · rw [if_neg q]
          by_cases p : e.1 = j
          · have : ¬ j = k := fun z => q (p.trans z)
            simp [p, this]
          · simp [p]
    rw [hs m]
    by_cases e : j = k
    · subst e
      rename_i h
      simp [h]
    · simp [e]
theorem nd_drop {m : List (κ × α)} (k : κ) (nd : (m.map (·.1)).Nodup) : ((dropG m k).map (·.1)).Nodup := by
  unfold dropG
  exact List.Nodup.sublist (List.Sublist.map _ List.filter_sublist) nd
theorem get_drop (m : List (κ × α)) (k j : κ) : getG (dropG m k) j = if j = k then none else getG m j := by
  unfold dropG
  induction m with
  | nil => show none = _; split <;> rfl
  | cons e m ih =>
    by_cases q : e.1 = k
    · rw [List.filter_cons_of_neg (by simp [q]), ih, getG_cons]
      by_cases p : j = k
      · rw [if_pos p, if_pos p]
      · rw [if_neg p, if_neg p, if_neg (fun z => p (z.symm.trans q))]
    · rw [List.filter_cons_of_pos (by simp [q]), getG_cons, getG_cons, ih]
      by_cases p : e.1 = j
      · rw [if_pos p, if_pos p, if_neg (fun z => q (p.trans z))]
      · rw [if_neg p, if_neg p]
theorem length_put (m : List (κ × α)) (k : κ) (v : α) : (putG m k v).length ≤ m.length + 1 := by
  unfold putG
  split
  · rw [List.length_map]; omega
  · rw [List.length_append]; simp
theorem length_drop (m : List (κ × α)) (k : κ) : (dropG m k).length ≤ m.length := List.length_filter_le _ _
theorem getG_map (f : α → β) (m : List (κ × α)) (k : κ) : getG (m.map fun e => (e.1, f e.2)) k = (getG m k).map f := by
  induction m with
  | nil => rfl
  | cons e m ih =>
    rw [List.map_cons, getG_cons, getG_cons, ih]
    show (if e.1 = k then some (f e.2) else _) = _
    split <;> rfl
theorem getG_filter (p : κ → Bool) (m : List (κ × α)) (k : κ) : getG (m.filter fun e => p e.1) k = if p k = true then getG m k else none := by
  induction m with
  | nil => show none = _; split <;> rfl
  | cons e m ih =>
    by_cases q : p e.1 = true
    · rw [List.filter_cons_of_pos (p := fun e : κ × α => p e.1) q, getG_cons, getG_cons, ih]
      by_cases z : e.1 = k
      · rw [if_pos z, if_pos z, if_pos (by rw [← z]; exact q)]
      · rw [if_neg z, if_neg z]
    · rw [List.filter_cons_of_neg (p := fun e : κ × α => p e.1) q, ih, getG_cons]
      by_cases z : e.1 = k
      · rw [if_pos z, if_neg (by rw [← z]; exact q), if_neg (by rw [← z]; exact q)]
      · rw [if_neg z]
end assoc
/-! ### bags of (key, amount) and their sums -/
section bag
variable {κ κ' : Type} [DecidableEq κ] [DecidableEq κ']
def agg : List (κ × Int) → Int × Int
  | [] => (0, 0)
  | r :: b => ((agg b).1 + 1, (agg b).2 + r.2)
theorem agg_append : ∀ (a b : List (κ × Int)), agg (a ++ b) = ((agg a).1 + (agg b).1, (agg a).2 + (agg b).2)
  | [], b => by show agg b = (0 + _, 0 + _); rw [Int.zero_add, Int.zero_add]
  | r :: a, b => by
    show ((agg (a ++ b)).1 + 1, (agg (a ++ b)).2 + r.2) = ((agg a).1 + 1 + _, (agg a).2 + r.2 + _)
    rw [agg_append a b]
    refine Prod.ext ?_ ?_ <;> show _ = _ <;> simp only <;> omega
theorem agg_perm {a b : List (κ × Int)} (h : a.Perm b) : agg a = agg b := by
  induction h with
  | nil => rfl
  | cons x _ ih => show (_ + 1, _ + _) = (_ + 1, _ + _); rw [ih]
  | swap x y l =>
    show ((agg l).1 + 1 + 1, (agg l).2 + x.2 + y.2) = ((agg l).1 + 1 + 1, (agg l).2 + y.2 + x.2)
    refine Prod.ext rfl ?_
    show _ + _ + _ = _ + _ + _
    omega
  | trans _ _ i j => exact i.trans j
theorem agg_count (b : List (κ × Int)) : (agg b).1 = (b.length : Int) := by
  induction b with
  | nil => rfl
  | cons r b ih => show (agg b).1 + 1 = _; rw [ih, List.length_cons]; omega
theorem agg_map (f : κ → κ') (b : List (κ × Int)) : agg (b.map fun r => (f r.1, r.2)) = agg b := by
  induction b with
  | nil => rfl
  | cons r b ih => show ((agg (b.map _)).1 + 1, (agg (b.map _)).2 + r.2) = _; rw [ih]; rfl
/-- the rows of a bag with the key k -/
def ofK (B : List (κ × Int)) (k : κ) : List (κ × Int) := B.filter fun r => decide (r.1 = k)
def aggO (b : List (κ × Int)) : Option (Int × Int) := if b = [] then none else some (agg b)
theorem aggO_perm {a b : List (κ × Int)} (h : a.Perm b) : aggO a = aggO b := by
  unfold aggO
  by_cases e : a = []
  · subst e; rw [List.Perm.eq_nil h.symm]
  · have e2 : ¬ b = [] := fun z => e (by subst z; exact List.Perm.eq_nil h)
    rw [if_neg e, if_neg e2, agg_perm h]
/-- m tells the sums of the bag B -/
structure Right (m : List (κ × (Int × Int))) (B : List (κ × Int)) : Prop where
  nd : (m.map (·.1)).Nodup
  at_ : ∀ k, getG m k = aggO (ofK B k)
theorem Right.nil : Right ([] : List (κ × (Int × Int))) [] := ⟨List.nodup_nil, fun _ => rfl⟩
theorem Right.perm {m : List (κ × (Int × Int))} {B B' : List (κ × Int)} (h : Right m B) (p : B.Perm B') : Right m B' :=
  ⟨h.nd, fun k => (h.at_ k).trans (aggO_perm (p.filter _))⟩
theorem Right.key {m : List (κ × (Int × Int))} {B : List (κ × Int)} (h : Right m B) (k : κ) : k ∈ m.map (·.1) ↔ k ∈ B.map (·.1) := by
  rw [← getG_isSome, h.at_ k]
  unfold aggO
  constructor
  · intro q
    by_cases e : ofK B k = []
    · rw [if_pos e] at q; cases q
    · obtain ⟨r, hr⟩ := List.exists_mem_of_ne_nil _ e
      have := List.mem_filter.mp hr
      exact List.mem_map.mpr ⟨r, this.1, of_decide_eq_true this.2⟩
  · intro q
    obtain ⟨r, hr, e⟩ := List.mem_map.mp q
    have : r ∈ ofK B k := List.mem_filter.mpr ⟨hr, decide_eq_true e⟩
    rw [if_neg (fun z => by rw [z] at this; cases this)]
    rfl
theorem Right.pos {m : List (κ × (Int × Int))} {B : List (κ × Int)} (h : Right m B) {k : κ} {v : Int × Int} (e : getG m k = some v) : 0 < v.1 := by
  rw [h.at_ k] at e
  unfold aggO at e
  by_cases z : ofK B k = []
  · rw [if_pos z] at e; cases e
  · rw [if_neg z] at e
    cases e
    rw [agg_count]
    have := List.length_pos_iff.mpr z
    omega
/-- one step: what `added` does -/
def addG (m : List (κ × (Int × Int))) (k : κ) (c s : Int) : List (κ × (Int × Int)) :=
  if ((getG m k).getD (0, 0)).1 + c = 0 then dropG (putG m k (((getG m k).getD (0, 0)).1 + c, ((getG m k).getD (0, 0)).2 + s)) k
  else putG m k (((getG m k).getD (0, 0)).1 + c, ((getG m k).getD (0, 0)).2 + s)
theorem getD_aggO (b : List (κ × Int)) : (aggO b).getD (0, 0) = agg b := by
  unfold aggO
  split
  · rename_i e; subst e; rfl
  · rfl
theorem ofK_append (a b : List (κ × Int)) (k : κ) : ofK (a ++ b) k = ofK a k ++ ofK b k := List.filter_append ..
theorem ofK_all {b : List (κ × Int)} {k : κ} (h : ∀ r ∈ b, r.1 = k) : ofK b k = b := List.filter_eq_self.mpr fun r hr => decide_eq_true (h r hr)
theorem ofK_none {b : List (κ × Int)} {k j : κ} (h : ∀ r ∈ b, r.1 = k) (e : j ≠ k) : ofK b j = [] :=
  List.filter_eq_nil_iff.mpr fun r hr q => e ((of_decide_eq_true q).symm.trans (h r hr))
/-- a block of rows of one key comes -/
theorem Right.block {m : List (κ × (Int × Int))} {B b : List (κ × Int)} {k : κ} (h : Right m B) (hb : b ≠ []) (hk : ∀ r ∈ b, r.1 = k) : Right (addG m k (agg b).1 (agg b).2) (b ++ B) := by
  have hp : 0 < (agg b).1 := by rw [agg_count]; have := List.length_pos_iff.mpr hb; omega
  have h0 : 0 ≤ (agg (ofK B k)).1 := by rw [agg_count]; omega
  unfold addG
  rw [h.at_ k, getD_aggO, if_neg (by omega)]
  refine ⟨nd_put _ _ h.nd, fun j => ?_⟩
  rw [get_put, ofK_append]
  by_cases e : j = k
  · subst e
    rw [if_pos rfl, ofK_all hk]
    unfold aggO
    rw [if_neg (by simp [hb]), agg_append]
    congr 1
    refine Prod.ext ?_ ?_ <;> show _ + _ = _ + _ <;> omega
  · rw [if_neg e, ofK_none hk e, h.at_ j]
    rfl
theorem Right.come {m : List (κ × (Int × Int))} {B : List (κ × Int)} (h : Right m B) (k : κ) (a : Int) : Right (addG m k 1 a) ((k, a) :: B) := by
  have := h.block (b := [(k, a)]) (k := k) (by simp) (by simp)
  simpa [agg] using this
theorem Right.go {m : List (κ × (Int × Int))} {B : List (κ × Int)} (h : Right m B) {k : κ} {a : Int} (hm : (k, a) ∈ B) : Right (addG m k (-1) (0 - a)) (B.erase (k, a)) := by
  have pm : B.Perm ((k, a) :: B.erase (k, a)) := List.perm_cons_erase hm
  have h' := h.perm pm
  generalize hB' : B.erase (k, a) = B' at h' ⊢
  have e1 : ofK ((k, a) :: B') k = (k, a) :: ofK B' k := List.filter_cons_of_pos (by simp)
  have e2 : agg (ofK ((k, a) :: B') k) = ((agg (ofK B' k)).1 + 1, (agg (ofK B' k)).2 + a) := by rw [e1]; rfl
  unfold addG
  rw [h'.at_ k, getD_aggO, e2]
  have hc : (agg (ofK B' k)).1 = ((ofK B' k).length : Int) := agg_count _
  have he : ∀ j, j ≠ k → ofK ((k, a) :: B') j = ofK B' j := fun j hj => List.filter_cons_of_neg (by simpa using fun z => hj z.symm)
  split
  · rename_i hz
    have hz : (agg (ofK B' k)).1 + 1 + -1 = 0 := hz
    have hn : ofK B' k = [] := List.length_eq_zero_iff.mp (by omega)
    refine ⟨nd_drop _ (nd_put _ _ h'.nd), fun j => ?_⟩
    rw [get_drop, get_put]
    by_cases e : j = k
    · subst e
      rw [if_pos rfl, hn]; rfl
    · rw [if_neg e, if_neg e, h'.at_ j, he j e]
  · rename_i hz
    have hz : ¬ (agg (ofK B' k)).1 + 1 + -1 = 0 := hz
    have hn : ¬ ofK B' k = [] := fun z => hz (by rw [z]; rfl)
    refine ⟨nd_put _ _ h'.nd, fun j => ?_⟩
    rw [get_put]
    by_cases e : j = k
    · subst e
      rw [if_pos rfl]
      unfold aggO
      rw [if_neg hn]
      congr 1
      refine Prod.ext ?_ ?_ <;> show _ + _ + _ = _ <;> omega
    · rw [if_neg e, h'.at_ j, he j e]
/-- a table reckoned from another: what `reckoned` does -/
def reck (π : κ → κ') : List (κ × (Int × Int)) → List (κ' × (Int × Int)) → List (κ' × (Int × Int))
  | [], m => m
  | e :: es, m => reck π es (addG m (π e.1) e.2.1 e.2.2)
theorem reck_append (π : κ → κ') : ∀ (a b : List (κ × (Int × Int))) (m : List (κ' × (Int × Int))), reck π (a ++ b) m = reck π b (reck π a m)
  | [], _, _ => rfl
  | e :: a, b, m => reck_append π a b _
/-- the blocks of a bag, key by key -/
theorem blocks : ∀ (ks : List κ) (B : List (κ × Int)), ks.Nodup → (∀ r ∈ B, r.1 ∈ ks) → (ks.flatMap fun k => ofK B k).Perm B
  | [], B, _, h => by
    have : B = [] := List.eq_nil_iff_forall_not_mem.mpr fun r hr => by simpa using h r hr
    subst this; exact List.Perm.refl _
  | k :: ks, B, nd, h => by
    rw [List.nodup_cons] at nd
    rw [List.flatMap_cons]
    have ih := blocks ks (B.filter fun r => !decide (r.1 = k)) nd.2 fun r hr => by
      have := List.mem_filter.mp hr
      rcases List.mem_cons.mp (h r this.1) with q | q
      · simp [q] at this
      · exact q
    have e : (ks.flatMap fun j => ofK (B.filter fun r => !decide (r.1 = k)) j) = ks.flatMap fun j => ofK B j := by
      rw [List.flatMap_def, List.flatMap_def]
      refine congrArg List.flatten (List.map_congr_left fun j hj => ?_)
      unfold ofK
      rw [List.filter_filter]
      refine List.filter_congr fun r _ => ?_
      by_cases q : r.1 = j
      · have : r.1 ≠ k := fun z => nd.1 (by rw [← z, q]; exact hj)
        simp [q, this]
        exact fun z => this (q.trans z)
      · simp [q]
    rw [e] at ih
    exact (List.Perm.append_left _ ih).trans (List.filter_append_perm (fun r : κ × Int => decide (r.1 = k)) B)
theorem reck_right (π : κ → κ') : ∀ (es : List (κ × (Int × Int))) (bs : List (List (κ × Int))) (m : List (κ' × (Int × Int))) (B : List (κ' × Int)), Right m B →
    es.length = bs.length → (∀ p ∈ es.zip bs, p.2 ≠ [] ∧ (∀ r ∈ p.2, r.1 = p.1.1) ∧ p.1.2 = agg p.2) → Right (reck π es m) ((bs.flatten.map fun r => (π r.1, r.2)) ++ B)
  | [], [], m, B, h, _, _ => h
  | [], _ :: _, _, _, _, e, _ => by simp at e
  | _ :: _, [], _, _, _, e, _ => by simp at e
  | e :: es, b :: bs, m, B, h, hl, hz => by
    obtain ⟨h1, h2, h3⟩ := hz (e, b) (by simp)
    have hm := h.block (b := b.map fun r => (π r.1, r.2)) (k := π e.1) (by simpa using h1) (by
      intro r hr
      obtain ⟨q, hq, rfl⟩ := List.mem_map.mp hr
      show π q.1 = _
      rw [h2 q hq])
    rw [agg_map, ← (show e.2 = agg b from h3)] at hm
    have ih := reck_right π es bs _ _ hm (by simpa using hl) fun p hp => hz p (by simp [hp])
    refine ih.perm ?_
    rw [List.flatten_cons, List.map_append, List.append_assoc, ← List.append_assoc, ← List.append_assoc]
    exact List.Perm.append_right _ List.perm_append_comm
theorem Right.reck {m : List (κ × (Int × Int))} {B : List (κ × Int)} (h : Right m B) (π : κ → κ') : Right (KC.reck π m []) (B.map fun r => (π r.1, r.2)) := by
  have hr := reck_right π m (m.map fun e => ofK B e.1) [] [] Right.nil (by simp) (by
    intro p hp
    rw [List.zip_map_right] at hp
    obtain ⟨⟨q1, q2⟩, hq, rfl⟩ := List.mem_map.mp hp
    have hq1 := List.of_mem_zip hq
    have hqe : q1 = q2 := by
      have : ∀ (l : List (κ × (Int × Int))) (q : (κ × (Int × Int)) × (κ × (Int × Int))), q ∈ l.zip l → q.1 = q.2 := by
        intro l
        induction l with
        | nil => intro q z; simp at z
        | cons x l ih =>
          intro q z
          rw [List.zip_cons_cons] at z
          rcases List.mem_cons.mp z with z | z
          · rw [z]
          · exact ih q z
      exact this m _ hq
    subst hqe
    have hg : getG m q1.1 = some q1.2 := getG_of_mem h.nd hq1.1
    rw [h.at_] at hg
    unfold aggO at hg
    by_cases z : ofK B q1.1 = []
    · rw [if_pos z] at hg; cases hg
    · rw [if_neg z] at hg
      refine ⟨z, fun r hr => of_decide_eq_true (List.mem_filter.mp hr).2, ?_⟩
      exact (Option.some.inj hg).symm)
  rw [List.append_nil] at hr
  refine hr.perm (List.Perm.map _ ?_)
  have e : (m.map fun e => ofK B e.1).flatten = (m.map (·.1)).flatMap fun k => ofK B k := by
    rw [List.flatMap_def, List.map_map]; rfl
  rw [e]
  exact blocks _ B h.nd fun r hr => (h.key r.1).mpr (List.mem_map.mpr ⟨r, hr, rfl⟩)
theorem Right.filter {m : List (κ × (Int × Int))} {B : List (κ × Int)} (h : Right m B) (p : κ → Bool) : Right (m.filter fun e => p e.1) (B.filter fun r => p r.1) := by
  refine ⟨List.Nodup.sublist (List.Sublist.map _ List.filter_sublist) h.nd, fun k => ?_⟩
  rw [getG_filter, h.at_ k]
  have : ofK (B.filter fun r => p r.1) k = if p k = true then ofK B k else [] := by
    unfold ofK
    rw [List.filter_filter]
    split
    · rename_i hp
      refine List.filter_congr fun r _ => ?_
      by_cases q : r.1 = k
      · rw [q, hp]; simp
      · simp [q]
    · rename_i hp
      refine List.filter_eq_nil_iff.mpr fun r _ q => ?_
      simp only [Bool.and_eq_true, decide_eq_true_eq] at q
      exact hp (by rw [← q.1]; exact q.2)
  rw [this]
  split <;> rfl
theorem perm_of_get {α : Type} {m m' : List (κ × α)} (h : (m.map (·.1)).Nodup) (h' : (m'.map (·.1)).Nodup) (e : ∀ k, getG m k = getG m' k) : m.Perm m' := by
  have nd1 : m.Nodup := List.Pairwise.of_map (fun e : κ × α => e.1) (fun a b hab q => hab (by rw [q])) h
  have nd2 : m'.Nodup := List.Pairwise.of_map (fun e : κ × α => e.1) (fun a b hab q => hab (by rw [q])) h'
  refine (List.perm_ext_iff_of_nodup nd1 nd2).mpr fun p => ?_
  constructor
  · intro hp
    exact getG_mem ((e p.1).symm.trans (getG_of_mem h hp))
  · intro hp
    exact getG_mem ((e p.1).trans (getG_of_mem h' hp))
theorem Right.uniq {m m' : List (κ × (Int × Int))} {B B' : List (κ × Int)} (h : Right m B) (h' : Right m' B') (p : B.Perm B') : m.Perm m' :=
  perm_of_get h.nd h'.nd fun k => ((h.perm p).at_ k).trans (h'.at_ k).symm
/-- the keys of a bag, each once -/
def nub : List κ → List κ
  | [] => []
  | k :: l => if k ∈ nub l then nub l else k :: nub l
theorem mem_nub {k : κ} : ∀ {l : List κ}, k ∈ nub l ↔ k ∈ l
  | [] => Iff.rfl
  | j :: l => by
    have ih := mem_nub (k := k) (l := l)
    unfold nub
    split
    · rename_i h
      rw [ih, List.mem_cons]
      exact ⟨.inr, fun q => q.elim (fun z => by rw [z]; exact mem_nub.mp h) id⟩
    · rw [List.mem_cons, List.mem_cons, ih]
theorem nd_nub : ∀ l : List κ, (nub l).Nodup
  | [] => List.nodup_nil
  | j :: l => by
    unfold nub
    split
    · exact nd_nub l
    · rename_i h
      exact List.nodup_cons.mpr ⟨h, nd_nub l⟩
theorem len_nub_of {l m : List κ} (nd : m.Nodup) (h : ∀ k, k ∈ m ↔ k ∈ l) : m.length = (nub l).length :=
  ((List.perm_ext_iff_of_nodup nd (nd_nub l)).mpr fun k => (h k).trans mem_nub.symm).length_eq
theorem nub_le : ∀ l : List κ, (nub l).length ≤ l.length
  | [] => Nat.le_refl _
  | j :: l => by
    have := nub_le l
    unfold nub
    split
    · rw [List.length_cons]; omega
    · rw [List.length_cons, List.length_cons]; omega
theorem Right.len {m : List (κ × (Int × Int))} {B : List (κ × Int)} (h : Right m B) : m.length = (nub (B.map (·.1))).length := by
  rw [← len_nub_of h.nd h.key, List.length_map]
theorem Right.len_le {m : List (κ × (Int × Int))} {B : List (κ × Int)} (h : Right m B) : m.length ≤ B.length := by
  rw [h.len]
  exact Nat.le_trans (nub_le _) (by rw [List.length_map]; exact Nat.le_refl _)
end bag
end KC
end

section
set_option Elab.async false
set_option linter.all false
set_option autoImplicit false
set_option maxRecDepth 100000
set_option maxHeartbeats 4000000
/-! Values that are data (tuples of whole numbers, None, texts, nested), over the abstract heap. -/
namespace KC
open PySem L2
end KC
namespace KC
open PySem L2
open Evl (Ex Ev EvT EvA)
/-! ### data -/
mutual
inductive IsD (H : Hp) : V → PyData → Prop
  | non : IsD H .non .none
  | bl (b : Bool) : IsD H (.bl b) (.bool b)
  | int (i : Int) : IsD H (.int i) (.int i)
  | str (x : Str) : IsD H (.str x) (.str x)
  | tup {a : Addr} {o : Obj} {xs : List V} {ds : List PyData} : H a = some (.frz o (.tup xs)) → o.dict = none → IsDs H xs ds → IsD H (.ref a) (.tuple ds)
inductive IsDs (H : Hp) : List V → List PyData → Prop
  | nil : IsDs H [] []
  | cons {v : V} {vs : List V} {d : PyData} {ds : List PyData} : IsD H v d → IsDs H vs ds → IsDs H (v :: vs) (d :: ds)
end
/-- tuples stay -/
def Tp (H H' : Hp) : Prop := ∀ b o xs, H b = some (.frz o (.tup xs)) → H' b = some (.frz o (.tup xs))
theorem Tp.refl (H : Hp) : Tp H H := fun _ _ _ h => h
theorem Tp.trans {H H1 H2 : Hp} (a : Tp H H1) (b : Tp H1 H2) : Tp H H2 := fun x o xs h => b x o xs (a x o xs h)
theorem Tp.of {H H' : Hp} (e : Ex H H') : Tp H H' := fun b _ _ h => e b _ h
/-- a tuple at a (one that has no dict of its own) -/
def TupAt (H : Hp) (a : Addr) (xs : List V) : Prop := ∃ o : Obj, o.dict = none ∧ H a = some (.frz o (.tup xs))
theorem TupAt.mono {H H' : Hp} (e : Tp H H') {a : Addr} {xs : List V} (h : TupAt H a xs) : TupAt H' a xs := let ⟨o, d, h⟩ := h; ⟨o, d, e _ _ _ h⟩
theorem TupAt.sq {K : PySem.W.Frag} {H : Hp} {a : Addr} {xs : List V} (h : TupAt H a xs) : SqT K H a xs := let ⟨o, _, h⟩ := h; .inl (.inr ⟨o, h⟩)
mutual
theorem IsD.mono {H H' : Hp} (e : Tp H H') : ∀ {v : V} {d : PyData}, IsD H v d → IsD H' v d
  | _, _, .non => .non
  | _, _, .bl b => .bl b
  | _, _, .int i => .int i
  | _, _, .str x => .str x
  | _, _, .tup h d t => .tup (e _ _ _ h) d (IsDs.mono e t)
theorem IsDs.mono {H H' : Hp} (e : Tp H H') : ∀ {vs : List V} {ds : List PyData}, IsDs H vs ds → IsDs H' vs ds
  | _, _, .nil => .nil
  | _, _, .cons h t => .cons (IsD.mono e h) (IsDs.mono e t)
end
mutual
theorem IsD.dp {K : PySem.W.Frag} {H : Hp} : ∀ {v : V} {d : PyData}, IsD H v d → Dp K H v d
  | _, _, .non => .non
  | _, _, .bl b => .bl b
  | _, _, .int i => .int i
  | _, _, .str x => .str x
  | _, _, .tup h d t => .tup (TupAt.sq ⟨_, d, h⟩) (IsDs.dp t)
theorem IsDs.dp {K : PySem.W.Frag} {H : Hp} : ∀ {vs : List V} {ds : List PyData}, IsDs H vs ds → DpAll K H vs ds
  | _, _, .nil => .nil
  | _, _, .cons h t => .cons (IsD.dp h) (IsDs.dp t)
end
theorem IsDs.length {H : Hp} : ∀ {vs : List V} {ds : List PyData}, IsDs H vs ds → vs.length = ds.length
  | _, _, .nil => rfl
  | _, _, .cons _ t => by rw [List.length_cons, List.length_cons, IsDs.length t]
theorem IsDs.get {H : Hp} : ∀ {vs : List V} {ds : List PyData} {i : Nat} {v : V}, IsDs H vs ds → vs[i]? = some v → ∃ d, ds[i]? = some d ∧ IsD H v d
  | _, _, _, _, .nil, h => by simp at h
  | _, _, 0, _, .cons h _, e => by
    simp only [List.getElem?_cons_zero, Option.some.injEq] at e
    subst e
    exact ⟨_, rfl, h⟩
  | _, _, i + 1, _, .cons _ t, e => by
    obtain ⟨d, h1, h2⟩ := IsDs.get (i := i) t (by simpa using e)
    exact ⟨d, by simpa using h1, h2⟩
theorem IsDs.get' {H : Hp} : ∀ {vs : List V} {ds : List PyData} {i : Nat} {d : PyData}, IsDs H vs ds → ds[i]? = some d → ∃ v, vs[i]? = some v ∧ IsD H v d
  | _, _, _, _, .nil, h => by simp at h
  | _, _, 0, _, .cons h _, e => by
    simp only [List.getElem?_cons_zero, Option.some.injEq] at e
    subst e
    exact ⟨_, rfl, h⟩
  | _, _, i + 1, _, .cons _ t, e => by
    obtain ⟨d, h1, h2⟩ := IsDs.get' (i := i) t (by simpa using e)
    exact ⟨d, by simpa using h1, h2⟩
theorem IsDs.append {H : Hp} : ∀ {vs ws : List V} {ds es : List PyData}, IsDs H vs ds → IsDs H ws es → IsDs H (vs ++ ws) (ds ++ es)
  | _, _, _, _, .nil, h => h
  | _, _, _, _, .cons h t, q => .cons h (IsDs.append t q)
theorem IsDs.snoc {H : Hp} {vs : List V} {ds : List PyData} {v : V} {d : PyData} (h : IsDs H vs ds) (q : IsD H v d) : IsDs H (vs ++ [v]) (ds ++ [d]) := h.append (.cons q .nil)
/-- a tuple of whole numbers -/
abbrev dI (T : List Int) : List PyData := T.map PyData.int
abbrev dT (T : List Int) : PyData := .tuple (T.map PyData.int)
theorem isDs_ints {H : Hp} : ∀ (T : List Int), IsDs H (T.map V.int) (T.map PyData.int)
  | [] => .nil
  | x :: T => .cons (.int x) (isDs_ints T)
theorem ints_of_isDs {H : Hp} : ∀ {vs : List V} {T : List Int}, IsDs H vs (T.map PyData.int) → vs = T.map V.int
  | vs, [], h => by
    rw [List.map_nil] at h
    cases h; rfl
  | vs, x :: T, h => by
    rw [List.map_cons] at h
    cases h with
    | cons h t => cases h; rw [List.map_cons, ← ints_of_isDs t]
theorem isT_of {H : Hp} {a : Addr} {T : List Int} (h : TupAt H a (T.map V.int)) : IsD H (.ref a) (dT T) := let ⟨_, d, h⟩ := h; .tup h d (isDs_ints T)
theorem isTup_of {H : Hp} {a : Addr} {vs : List V} {ds : List PyData} (h : TupAt H a vs) (t : IsDs H vs ds) : IsD H (.ref a) (.tuple ds) := let ⟨_, d, h⟩ := h; .tup h d t
theorem isT_get {H : Hp} {v : V} {T : List Int} (h : IsD H v (dT T)) : ∃ a, v = .ref a ∧ TupAt H a (T.map V.int) := by
  cases h with
  | tup h d t => rw [ints_of_isDs t] at h; exact ⟨_, rfl, _, d, h⟩
theorem isInt_get {H : Hp} {v : V} {i : Int} (h : IsD H v (.int i)) : v = .int i := by cases h; rfl
theorem isBl_get {H : Hp} {v : V} {b : Bool} (h : IsD H v (.bool b)) : v = .bl b := by cases h; rfl
theorem isNon_get {H : Hp} {v : V} (h : IsD H v .none) : v = .non := by cases h; rfl
theorem isTup_get {H : Hp} {v : V} {ds : List PyData} (h : IsD H v (.tuple ds)) : ∃ a vs, v = .ref a ∧ TupAt H a vs ∧ IsDs H vs ds := by
  cases h with
  | tup h d t => exact ⟨_, _, rfl, ⟨_, d, h⟩, t⟩
theorem isDs_cons {H : Hp} {vs : List V} {d : PyData} {ds : List PyData} (h : IsDs H vs (d :: ds)) : ∃ v ws, vs = v :: ws ∧ IsD H v d ∧ IsDs H ws ds := by
  cases h with
  | cons h t => exact ⟨_, _, rfl, h, t⟩
theorem isDs_nil {H : Hp} {vs : List V} (h : IsDs H vs []) : vs = [] := by cases h; rfl
/-! ### == of data -/
theorem eqv_int (a b : Int) : PyData.eqv (.int a) (.int b) = decide (a = b) := by simp [PyData.eqv, Bool.beq_eq_decide_eq]
theorem eqvAll_ints : ∀ (a b : List Int), PyData.eqvAll (a.map PyData.int) (b.map PyData.int) = decide (a = b)
  | [], [] => by simp [PyData.eqvAll]
  | [], y :: b => by simp [PyData.eqvAll]
  | x :: a, [] => by simp [PyData.eqvAll]
  | x :: a, y :: b => by
    rw [List.map_cons, List.map_cons, PySem.W.eqv_all_cons, eqvAll_ints a b, eqv_int]
    by_cases h : x = y <;> by_cases q : a = b <;> simp [h, q]
theorem eqv_T (a b : List Int) : PyData.eqv (dT a) (dT b) = decide (a = b) := by
  show PyData.eqv (.tuple _) (.tuple _) = _
  rw [PyData.eqv]
  exact eqvAll_ints a b
end KC
end

section
set_option Elab.async false
set_option linter.all false
set_option autoImplicit false
set_option maxRecDepth 100000
set_option maxHeartbeats 4000000
/-! Rules of our own: tuples without a dict, dicts with nested keys, operators of any kind. -/
namespace KC
open PySem L2 PySem.Spec PyProof.Rows
open Evl (Ex)
/-! ### tuples -/
/-- the new tuple -/
def NewT (H : Hp) (xs : List V) (Q : VK) : Prop := ∀ (p : Addr) (o : Obj), H p = none → o.dict = none → Q (.ref p) (upd H p (.frz o (.tup xs)))
section
variable {X : Cx} {pins : List (Addr × Obj)} {σ : L2.St} {H : Hp} {s : Shared}
theorem newT {h' : Heap} {its : List Value} {xs : List V} {Q : VK} {t' : Nat} (I : Inv X pins σ H s) (k : ∀ b u, s.heap.get? b = some u → h'.get? b = some u) (hz : xs.length ≤ sizeLine) (r : Vals xs its) (q : NewT H xs Q) :
    EP X pins σ Q (.ref h'.objs.size) { s with heap := h'.push { cls := .type "tuple", data := .seq its.toArray }, toks := t' } := by
  have I1 : Inv X pins σ H { s with heap := h', toks := t' } := I.kept (t' := t') k
  have hf : H h'.objs.size = none := I1.hok.fresh (Nat.le_refl _)
  refine ⟨.ref h'.objs.size, upd H h'.objs.size (.frz { cls := .type "tuple", data := .seq its.toArray } (.tup xs)), I1.laid (t' := t') (fun b u e => Heap.get?_push_of_some _ e) (Nat.le_refl _) ?_, rfl, q _ _ hf rfl⟩
  exact ⟨Heap.get?_push_size _ rfl, hz, its, r, ⟨_, Heap.get?_push_size _ rfl, rfl, _, rfl⟩⟩
def tTupF (t : TA) : TE := fun σ H Q => t σ H fun xs H1 => xs.length ≤ sizeLine ∧ NewT H1 xs Q
theorem pe_tupF {es : List Expr} {t : TA} {pos : Pos} {x1} (h : PA X es t) : PE X (.Tuple es x1 pos) (tTupF t) := by
  refine ⟨fun pins s σ H Q I hq => ?_⟩
  refine wpAny_Tuple_spliced (thn (h.run pos pins s σ H _ I hq) fun us s1 ⟨xs, H1, I1, r, z, q⟩ => ⟨by rw [← r.length]; exact z, ?_⟩)
  exact newT (h' := s1.heap) (t' := s1.toks) I1 (fun _ _ e => e) z r q
/-- tuple(xs) -/
def rTupF (K : PySem.W.Frag) : List V → Hp → VK → Prop := fun xs H Q => ∃ p ys, xs = [.ref p] ∧ SqL K H p ys ∧ NewT H ys Q
theorem cr_tupF : CallR X (.type "tuple") (rTupF X.K) := by
  intro pins s σ H xs us Q I r h
  obtain ⟨p, ys, rfl, hq, q⟩ := h
  obtain ⟨u, rfl, rx⟩ := vals1 r
  cases rx
  obtain ⟨its, r', pl, hz⟩ := I.list hq
  have hlen := r'.length
  refine call_tuple_list pl.isList (fun h' kp => ?_) (by simp only [List.size_toArray] <;> omega)
  exact newT (t' := s.toks) I kp hz r' q
/-- tuple(range(..)) -/
def tTupRgF (te : L2.St → Hp → (Int → Int → Hp → Prop) → Prop) : TE := fun σ H Q => te σ H fun a b H1 => RgOk a b ∧ NewT H1 (rgV a b) Q
theorem pe_tupRgF {e : Expr} {te : L2.St → Hp → (Int → Int → Hp → Prop) → Prop} {p pos : Pos} (hc : X.calm = true) (hg : Gl X "tuple") (hm : X.mg "tuple" = none) (he : PRg X e te) (na : starEach [e] X.env = (false, eval e X.env) :: starEach [] X.env := by rfl) : PE X (.Call (.Name "tuple" p) [e] [] pos) (tTupRgF te) := by
  refine ⟨fun pins s σ H Q I h => ?_⟩
  refine Call_ (ld_blt I hg hm boot_tuple (PyProof.Rows.callWith_type1 (args_cons (thn (he pins s σ H _ I h) fun x s1 ⟨r, a, b, t, u, v, H1, ex, hr, I1, ok, q⟩ => args_nil ?_) na) na))
  subst ex
  obtain ⟨b1, b2, b3, b4, b5⟩ := ok
  refine call_tuple_range (n := (b - a).toNat) (I1.ok.hd hc) hr (small_one b1 b2 b3 b4) (rangeSize_nat a b) b5 fun h' tk acc hk hi => ?_
  have := newT (t' := tk) I1 hk (by rw [rgV_length, sizeLine_eq]; omega) (vals_rg hi) q
  rw [Array.toArray_toList] at this
  exact this
/-- t + u -/
def rCatF (K : PySem.W.Frag) : R2 := fun x y H Q => ∃ a b xs ys, x = .ref a ∧ y = .ref b ∧ SqT K H a xs ∧ SqT K H b ys ∧ xs.length + ys.length ≤ sizeLine ∧
  (xs = [] → Q (.ref b) H) ∧ (xs ≠ [] → ys = [] → Q (.ref a) H) ∧ (xs ≠ [] → ys ≠ [] → NewT H (xs ++ ys) Q)
theorem op_catF : OpR X (binaryOp .Add) (rCatF X.K) := by
  intro pins s σ H x y v u Q I rx ry h
  obtain ⟨a, b, xs, ys, rfl, rfl, ha, hb, hz, q0, q1, q2⟩ := h
  cases rx
  cases ry
  obtain ⟨its, r1, p1, _⟩ := I.tuple ha
  obtain ⟨its2, r2, p2, _⟩ := I.tuple hb
  have l1 := r1.length
  have l2 := r2.length
  by_cases hx : xs = []
  · subst hx
    cases r1
    exact cat_tup0 p1 p2 ⟨.ref b, H, I, rfl, q0 rfl⟩
  · have hi : its ≠ [] := fun z => hx (r1.nil_iff.mp z)
    refine HT.cat_tup p1 p2 hi (fun e => ⟨.ref a, H, I, rfl, q1 hx (r2.nil_iff.mp e)⟩) (fun e => ?_) (by omega)
    exact newT (h' := s.heap) (t' := s.toks) I (fun _ _ e => e) (by rw [List.length_append]; exact hz) (r1.append r2) (q2 hx fun z => e (r2.nil_iff.mpr z))
end
/-! ### operators, each for all that we use -/
abbrev rAddI : R2 := rI0 fun i j => .int (i + j)
abbrev rSubI : R2 := rI0 fun i j => .int (i - j)
abbrev rMulI : R2 := rI CMul fun i j => .int (i * j)
abbrev rDivI : R2 := rI CDiv fun i j => .int (i / j)
abbrev rModI : R2 := rI (fun _ j => 0 < j) fun i j => .int (i % j)
abbrev rPowI : R2 := rI CPow fun i j => .int (i ^ j.toNat)
abbrev rLtI : R2 := rI0 fun i j => .bl (decide (i < j))
abbrev rLeI : R2 := rI0 fun i j => .bl (decide (i ≤ j))
abbrev rGtI : R2 := rI0 fun i j => .bl (decide (j < i))
abbrev rGeI : R2 := rI0 fun i j => .bl (decide (j ≤ i))
abbrev rAddS : R2 := fun x y H Q => ∃ i j, x = .str i ∧ y = .str j ∧ i.length + j.length ≤ sizeLine ∧ Q (.str (i ++ j)) H
abbrev rIsN : R2 := fun x y H Q => y = .non ∧ Q (.bl (decide (x = .non))) H
abbrev rNotN : R2 := fun x y H Q => y = .non ∧ Q (.bl (!decide (x = .non))) H
/-- a + b -/
abbrev rPlus (K : PySem.W.Frag) : R2 := fun x y H Q => rAddI x y H Q ∨ (rCatF K x y H Q ∨ (rCat x y H Q ∨ rAddS x y H Q))
theorem op_plus {X : Cx} : OpR X (binaryOp .Add) (rPlus X.K) := op_add.or (op_catF.or (op_cat.or op_add_str))
/-! ### keys -/
section
variable {X : Cx} {pins : List (Addr × Obj)} {σ : L2.St} {H : Hp} {s : Shared}
mutual
theorem nested_of (I : Inv X pins σ H s) : ∀ (k : NestedKey) (v : V) (u : Value), IsD H v k.data → RelV v u → NestedIs s.heap k u
  | .none, _, _, h, r => by
    cases h
    cases r
    exact .none
  | .num i, _, _, h, r => by
    cases h
    obtain ⟨t, rfl⟩ := r
    exact .int i t
  | .text x, _, _, h, r => by
    cases h
    obtain ⟨t, rfl⟩ := r
    exact .text x t
  | .tup ks, _, _, h, r => by
    obtain ⟨a, vs, rfl, ht, hs⟩ := isTup_get (ds := NestedKey.datas ks) (by rw [NestedKey.data] at h; exact h)
    cases r
    obtain ⟨its, rv, ⟨o, ho, hc, n, hd⟩, _⟩ := I.tuple (ht.sq (K := X.K))
    exact .tup ho hc hd (nestedAll_of I ks vs its hs rv)
theorem nestedAll_of (I : Inv X pins σ H s) : ∀ (ks : List NestedKey) (vs : List V) (us : List Value), IsDs H vs (NestedKey.datas ks) → Vals vs us → NestedAll s.heap ks us
  | [], _, _, h, r => by
    rw [NestedKey.datas] at h
    cases h
    cases r
    exact .nil
  | k :: ks, _, _, h, r => by
    rw [NestedKey.datas] at h
    cases h with
    | cons h1 h2 =>
      cases r with
      | cons r1 r2 => exact .cons (nested_of I k _ _ h1 r1) (nestedAll_of I ks _ _ h2 r2)
end
/-! ### dicts whose keys are tuples -/
abbrev KRow := NestedKey × Addr × V
abbrev KR : List KRow → List (NestedKey × Addr × Value) → Prop := Paired fun r x => r.1 = x.1 ∧ r.2.1 = x.2.1 ∧ RelV r.2.2 x.2.2
/-- at d a dict of these rows: key, where its tuple stands, value -/
def KDO (P : Program) (w : World) (d : Addr) (rows : List KRow) : HO := .ext fun h => ∃ o es ep xs, h.get? d = some o ∧ o.ExactDict ∧ o.data = .dict es ep ∧ es.toList = xs.map (entryOfKey (nestedKind P w)) ∧ (xs.map (·.1)).Nodup ∧
  (d == sysModules) = false ∧ rows.length ≤ sizeLine ∧ KR rows xs
/-- the key's own tuple stands -/
def KeyAt (H : Hp) (k : NestedKey) (q : Addr) : Prop := IsD H (.ref q) k.data ∧ k.depth ≤ 8
def KeysAt (H : Hp) (rows : List KRow) : Prop := ∀ r ∈ rows, KeyAt H r.1 r.2.1
theorem KeyAt.mono {H H' : Hp} (e : Tp H H') {k : NestedKey} {q : Addr} (h : KeyAt H k q) : KeyAt H' k q := ⟨h.1.mono e, h.2⟩
theorem KeysAt.mono {H H' : Hp} (e : Tp H H') {rows : List KRow} (h : KeysAt H rows) : KeysAt H' rows := fun r m => (h r m).mono e
theorem KeyAt.is (I : Inv X pins σ H s) {k : NestedKey} {q : Addr} (h : KeyAt H k q) : (nestedKind X.prog X.w).is s.heap k q := ⟨nested_of I k _ _ h.1 rfl, h.2⟩
def kdLook (rows : List KRow) (k : NestedKey) : Option V := (rows.find? fun r => decide (r.1 = k)).map (·.2.2)
def kdPut (rows : List KRow) (k : NestedKey) (q : Addr) (v : V) : List KRow :=
  if (kdLook rows k).isSome = true then rows.map (fun r => if r.1 = k then (r.1, r.2.1, v) else r) else rows ++ [(k, q, v)]
def kdDrop (rows : List KRow) (k : NestedKey) : List KRow := rows.filter fun r => decide (r.1 ≠ k)
theorem kdLook_cons (r : KRow) (rows : List KRow) (k : NestedKey) : kdLook (r :: rows) k = if r.1 = k then some r.2.2 else kdLook rows k := by
  unfold kdLook
  by_cases e : r.1 = k
  · rw [List.find?_cons_of_pos (by simpa using e), if_pos e]; rfl
  · rw [List.find?_cons_of_neg (by simpa using e), if_neg e]
theorem atKey_cons (x : NestedKey × Addr × Value) (xs : List (NestedKey × Addr × Value)) (k : NestedKey) : atKey (x :: xs) k = if x.1 = k then some x.2 else atKey xs k := by
  unfold atKey
  by_cases e : x.1 = k
  · rw [List.find?_cons_of_pos (by simpa using e), if_pos e]; rfl
  · rw [List.find?_cons_of_neg (by simpa using e), if_neg e]
theorem KR.look : ∀ {rows : List KRow} {xs : List (NestedKey × Addr × Value)} (r : KR rows xs) (k : NestedKey), RelO (kdLook rows k) ((atKey xs k).map (·.2))
  | _, _, .nil, k => trivial
  | _, _, .cons (a := p) (b := q) h t, k => by
    rw [kdLook_cons, atKey_cons]
    by_cases e : p.1 = k
    · rw [if_pos e, if_pos (h.1 ▸ e)]; exact h.2.2
    · rw [if_neg e, if_neg (fun z => e (h.1.trans z))]; exact KR.look t k
theorem KR.isSome {rows : List KRow} {xs : List (NestedKey × Addr × Value)} (r : KR rows xs) (k : NestedKey) : (kdLook rows k).isSome = (atKey xs k).isSome := by
  have := (r.look k).isSome_eq
  rw [Option.isSome_map] at this
  exact this
theorem KR.repl {v : V} {u : Value} (ru : RelV v u) (k : NestedKey) : ∀ {rows : List KRow} {xs : List (NestedKey × Addr × Value)}, KR rows xs → KR (rows.map fun r => if r.1 = k then (r.1, r.2.1, v) else r) (xs.map (putAt k u))
  | _, _, .nil => .nil
  | _, _, .cons (a := p) (b := q) h t => by
    rw [List.map_cons, List.map_cons]
    refine .cons ?_ (KR.repl ru k t)
    unfold putAt
    by_cases e : p.1 = k
    · rw [if_pos e, if_pos (h.1 ▸ e)]; exact ⟨h.1, h.2.1, ru⟩
    · rw [if_neg e, if_neg (fun z => e (h.1.trans z))]; exact h
theorem paired_append {α β : Type} {F : α → β → Prop} : ∀ {a c : List α} {b d : List β}, Paired F a b → Paired F c d → Paired F (a ++ c) (b ++ d)
  | _, _, _, _, .nil, q => q
  | _, _, _, _, .cons h t, q => .cons h (paired_append t q)
theorem KR.put {v : V} {u : Value} (ru : RelV v u) (k : NestedKey) (q : Addr) {rows : List KRow} {xs : List (NestedKey × Addr × Value)} (r : KR rows xs) : KR (kdPut rows k q v) (storedH xs k q u) := by
  unfold kdPut storedH
  rw [r.isSome k]
  split
  · exact r.repl ru k
  · exact paired_append r (.cons ⟨rfl, rfl, ru⟩ .nil)
theorem KR.drop (k : NestedKey) : ∀ {rows : List KRow} {xs : List (NestedKey × Addr × Value)}, KR rows xs → KR (kdDrop rows k) (withoutH xs k)
  | _, _, .nil => .nil
  | _, _, .cons (a := p) (b := q) h t => by
    unfold kdDrop withoutH
    by_cases e : p.1 = k
    · rw [List.filter_cons_of_neg (by simpa using e), List.filter_cons_of_neg (by simpa using h.1 ▸ e)]
      exact KR.drop k t
    · rw [List.filter_cons_of_pos (by simpa using e), List.filter_cons_of_pos (by simpa using fun z => e (h.1.trans z))]
      exact .cons h (KR.drop k t)
theorem KR.length {rows : List KRow} {xs : List (NestedKey × Addr × Value)} (r : KR rows xs) : rows.length = xs.length := Paired.length r
theorem KR.keys : ∀ {rows : List KRow} {xs : List (NestedKey × Addr × Value)}, KR rows xs → ∀ x ∈ xs, ∃ r ∈ rows, r.1 = x.1 ∧ r.2.1 = x.2.1
  | _, _, .nil, x, h => by cases h
  | _, _, .cons (a := p) (b := q) h t, x, hx => by
    rcases List.mem_cons.mp hx with rfl | hx
    · exact ⟨p, List.mem_cons_self, h.1, h.2.1⟩
    · obtain ⟨r, m, e⟩ := KR.keys t x hx
      exact ⟨r, List.mem_cons_of_mem _ m, e⟩
/-- such a dict that may be read -/
def RdD (P : Program) (w : World) (H : Hp) (d : Addr) (rows : List KRow) : Prop := H d = some (KDO P w d rows) ∨ ∃ o, H d = some (.frz o (KDO P w d rows))
theorem RdD.full {d : Addr} {rows : List KRow} (I : Inv X pins σ H s) (r : RdD X.prog X.w H d rows) (ks : KeysAt H rows) :
    rows.length ≤ sizeLine ∧ (d == sysModules) = false ∧ ∃ xs, KR rows xs ∧ s.heap.DictOfH (nestedKind X.prog X.w) d xs := by
  have ok : ObjOk X.prog X.w H s.heap d (KDO X.prog X.w d rows) := by
    rcases r with h | ⟨o, h⟩
    · exact I.hok d _ h
    · exact (I.hok d _ h).2
  obtain ⟨⟨o, es, ep, xs, ho, hx, hd, he, hn, hs, hl, hr⟩, _⟩ := ok
  refine ⟨hl, hs, xs, hr, o, es, ep, ho, hx, hd, he, fun x hm => ?_, hn⟩
  obtain ⟨r, m, e1, e2⟩ := hr.keys x hm
  have := (ks r m).is I
  rw [e1, e2] at this
  exact this
theorem kd_new {P : Program} {w : World} {H' : Hp} {h' : Heap} {d : Addr} {rows : List KRow} {xs : List (NestedKey × Addr × Value)} (hz : rows.length ≤ sizeLine) (hd : (d == sysModules) = false) (r : KR rows xs)
    (m : h'.DictOfH (nestedKind P w) d xs) : ObjOk P w H' h' d (KDO P w d rows) := by
  obtain ⟨o, es, ep, ho, hx, hdt, he, _, hn⟩ := m
  refine ⟨⟨o, es, ep, xs, ho, hx, hdt, he, hn, hd, hz, r⟩, ⟨o, ho⟩, fun h1 h2 q k => ?_⟩
  obtain ⟨o, es, ep, xs, ho, r⟩ := q
  exact ⟨o, es, ep, xs, k o ho, r⟩
theorem length_kdPut (rows : List KRow) (k : NestedKey) (q : Addr) (v : V) : (kdPut rows k q v).length ≤ rows.length + 1 := by
  unfold kdPut
  split
  · rw [List.length_map]; omega
  · rw [List.length_append]; simp
/-- d[k] -/
def rKIx (P : Program) (w : World) : R2 := fun x y H Q => ∃ d q rows k v, x = .ref d ∧ y = .ref q ∧ RdD P w H d rows ∧ KeysAt H rows ∧ KeyAt H k q ∧ kdLook rows k = some v ∧ Q v H
theorem kd_getItem {d q : Addr} {rows : List KRow} {k : NestedKey} {v : V} {Q : VK} (hu : X.A.units + 64 < cLine) (I : Inv X pins σ H s) (hr : RdD X.prog X.w H d rows) (hk : KeysAt H rows) (hq : KeyAt H k q) (hl : kdLook rows k = some v) (h : Q v H) :
    ∃ u, wpAny (model X.prog X.w) X.A (getItem (.ref d) (.ref q)) (fun r s' => r = u ∧ EP X pins σ Q r s') X.xe s := by
  obtain ⟨hz, hd, xs, r, m⟩ := hr.full I hk
  have rl := r.look k
  rw [hl] at rl
  cases e : atKey xs k with
  | none => rw [e] at rl; exact rl.elim
  | some p =>
    rw [e] at rl
    refine ⟨p.2, wpAny_getItem_heap (knd := nestedKind X.prog X.w) (by show X.A.units + 1 + 8 < cLine; omega) (hq.is I) m e ?_⟩
    exact ⟨rfl, v, H, I.tok _, rl, h⟩
theorem ix_kd (hu : X.A.units + 64 < cLine) : IxR X (rKIx X.prog X.w) := by
  intro value slice pins s σ H x y v u Q I rx ry h hs
  obtain ⟨d, q, rows, k, z, rfl, rfl, hr, hk, hq, hl, h⟩ := h
  cases rx
  cases ry
  obtain ⟨_, _, xs, _, m⟩ := hr.full I hk
  obtain ⟨w', hw⟩ := kd_getItem hu I hr hk hq hl h
  exact subscriptTail_builtinR (x := w') m.typeIs PySem.F.slot_dict_getitem.lookup hw hs
end
end KC
end

section
set_option Elab.async false
set_option linter.all false
set_option autoImplicit false
set_option maxRecDepth 100000
set_option maxHeartbeats 4000000
/-! More rules: dicts with nested keys (in, store, get, pop, len, walked, written), methods of tuples. -/
namespace KC
open PySem L2 PySem.Spec PyProof.Rows
open Evl (Ex)
section
variable {X : Cx} {pins : List (Addr × Obj)} {σ : L2.St} {H : Hp} {s : Shared}
/-- k in d, k not in d -/
def rKIn (P : Program) (w : World) (neg : Bool) : R2 := fun x y H Q => ∃ d q rows k, y = .ref d ∧ x = .ref q ∧ RdD P w H d rows ∧ KeysAt H rows ∧ KeyAt H k q ∧ Q (.bl (if neg = true then !(kdLook rows k).isSome else (kdLook rows k).isSome)) H
theorem op_kin (hu : X.A.units + 64 < cLine) : OpR X (compareOp .In) (rKIn X.prog X.w false) := by
  intro pins s σ H x y v u Q I rx ry h
  obtain ⟨d, q, rows, k, rfl, rfl, hr, hk, hq, h⟩ := h
  cases rx
  cases ry
  obtain ⟨hz, hd, xs, r, m⟩ := hr.full I hk
  refine wpAny_in_heap (knd := nestedKind X.prog X.w) (by show X.A.units + 1 + 8 < cLine; omega) (hq.is I) hd m ?_
  rw [← r.isSome k]
  exact ⟨.bl _, H, I.tok _, rfl, h⟩
theorem op_knin (hu : X.A.units + 64 < cLine) : OpR X (compareOp .NotIn) (rKIn X.prog X.w true) := by
  intro pins s σ H x y v u Q I rx ry h
  obtain ⟨d, q, rows, k, rfl, rfl, hr, hk, hq, h⟩ := h
  cases rx
  cases ry
  obtain ⟨hz, hd, xs, r, m⟩ := hr.full I hk
  refine notIn_keyed (knd := nestedKind X.prog X.w) (by show X.A.units + 1 + 8 < cLine; omega) (hq.is I) hd ⟨xs, m, rfl⟩ ?_
  have e : (valueAt (pairsH xs) k).isSome = (kdLook rows k).isSome := by rw [valueAt_pairsH, Option.isSome_map, r.isSome k]
  rw [e]
  exact ⟨.bl _, H, I.tok _, rfl, h⟩
/-- in, not in of a list, a tuple, a dict -/
abbrev rInU (P : Program) (w : World) (K : PySem.W.Frag) (neg : Bool) : R2 := fun x y H Q => rIn K neg x y H Q ∨ rKIn P w neg x y H Q
theorem op_inU (hu : X.A.units + 64 < cLine) : OpR X (compareOp .In) (rInU X.prog X.w X.K false) := op_in_seq.or (op_kin hu)
theorem op_ninU (hu : X.A.units + 64 < cLine) : OpR X (compareOp .NotIn) (rInU X.prog X.w X.K true) := op_notIn_seq.or (op_knin hu)
/-- a[i] of a list, a tuple, a text, a dict with nested keys -/
abbrev rIxU (P : Program) (w : World) (K : PySem.W.Frag) : R2 := fun x y H Q => rIxL K x y H Q ∨ ((rIxT K x y H Q ∨ rIxS x y H Q) ∨ rKIx P w x y H Q)
theorem ix_U (hu : X.A.units + 64 < cLine) : IxR X (rIxU X.prog X.w X.K) := ix_list.or ((ix_tup.or ix_str).or (ix_kd hu))
/-- d[k] = v -/
def rKSet (P : Program) (w : World) : TSet := fun o i v H Q => ∃ d q rows k, o = .ref d ∧ i = .ref q ∧ H d = some (KDO P w d rows) ∧ KeysAt H rows ∧ KeyAt H k q ∧ rows.length < sizeLine ∧ Q (upd H d (KDO P w d (kdPut rows k q v)))
theorem kd_write {d : Addr} {rows rows' : List KRow} {xs' : List (NestedKey × Addr × Value)} {h' : Heap} {t' : Nat} (I : Inv X pins σ H s) (hH : H d = some (KDO X.prog X.w d rows)) (hs : Heap.SameBut d s.heap h') (hz : rows'.length ≤ sizeLine)
    (hd : (d == sysModules) = false) (r : KR rows' xs') (m : h'.DictOfH (nestedKind X.prog X.w) d xs') : Inv X pins σ (upd H d (KDO X.prog X.w d rows')) { s with heap := h', toks := t' } := by
  have mu : Mut (H d) := by rw [hH]; trivial
  obtain ⟨o, es, ep, ho, _⟩ := id m
  exact I.write mu (.inl rfl) (fun b u hb e => (hs.2 b hb).trans e) ⟨o, ho⟩ (kd_new hz hd r m)
theorem set_kd (hu : X.A.units + 64 < cLine) : PSet X (rKSet X.prog X.w) := by
  intro pins s σ H o i v ov iv u Q I ro ri rv h
  obtain ⟨d, q, rows, k, rfl, rfl, hH, hk, hq, hz, h⟩ := h
  cases ro
  cases ri
  obtain ⟨_, hd, xs, r, m⟩ := RdD.full I (.inl hH) hk
  refine wpAny_setItem_heap (knd := nestedKind X.prog X.w) (by show X.A.units + 1 + 8 < cLine; omega) (hq.is I) m (fun h' m' hs => ?_) (by rw [← r.length]; exact Nat.le_of_lt hz)
  refine ⟨_, kd_write I hH hs ?_ hd (r.put rv k q) m', h⟩
  have := length_kdPut rows k q v
  omega
/-- o[i] = v of a list, a dict -/
abbrev rSetU (P : Program) (w : World) : TSet := fun o i v H Q => rSetL o i v H Q ∨ rKSet P w o i v H Q
theorem set_U (hu : X.A.units + 64 < cLine) : PSet X (rSetU X.prog X.w) := by
  intro pins s σ H o i v ov iv u Q I ro ri rv h
  rcases h with h | h
  · exact set_list pins s σ H o i v ov iv u Q I ro ri rv h
  · exact set_kd hu pins s σ H o i v ov iv u Q I ro ri rv h
/-! ### methods -/
/-- the value is of that built-in type (our tuples and dicts too) -/
def tyG (P : Program) (w : World) (K : PySem.W.Frag) (T : String) (x : V) (H : Hp) : Prop := tyV K T x H ∨ (∃ p xs, x = .ref p ∧ T = "tuple" ∧ TupAt H p xs) ∨ ∃ d rows, x = .ref d ∧ T = "dict" ∧ RdD P w H d rows
theorem tyG_is {T : String} {x : V} {v : Value} (I : Inv X pins σ H s) (r : RelV x v) (ty : tyG X.prog X.w X.K T x H) :
    s.TypeIs v T ∧ ∀ a, v = .ref a → ∃ ob, s.heap.get? a = some ob ∧ ob.dict = none := by
  rcases ty with ty | ⟨p, xs, rfl, rfl, o, hd, hp⟩ | ⟨d, rows, rfl, rfl, hr⟩
  · exact tyV_is I r ty
  · cases r
    obtain ⟨ho, _, its, _, o', ho', hc, _⟩ := I.hok p _ hp
    rw [ho] at ho'
    cases ho'
    exact ⟨⟨o, ho, hc⟩, fun a e => by cases e; exact ⟨o, ho, hd⟩⟩
  · cases r
    have ok : ObjOk X.prog X.w H s.heap d (KDO X.prog X.w d rows) := by
      rcases hr with h | ⟨o, h⟩
      · exact I.hok d _ h
      · exact (I.hok d _ h).2
    obtain ⟨⟨o, es, ep, xs, ho, hx, _⟩, _⟩ := ok
    exact ⟨⟨o, ho, hx.1⟩, fun a e => by cases e; exact ⟨o, ho, hx.2.1⟩⟩
def tBG (P : Program) (w : World) (K : PySem.W.Frag) (T : String) (r : V → List V → Hp → VK → Prop) (to : TE) (t : TA) : TE := fun σ H Q => to σ H fun x H1 => tyG P w K T x H1 ∧ t σ H1 fun xs H2 => r x xs H2 Q
theorem pe_bg {o e : Expr} {es : List Expr} {to : TE} {t : TA} {name : Str} {apos cpos : Pos} {T id : String} {r : V → List V → Hp → VK → Prop} (pa : PlainAttrs T) (slot : Slot T name id) (hty : typeOf (.builtin id) = pure (.type "method_descriptor")) (hm : MtR X id r) (ho : PE X o to) (ha : PA X (e :: es) t)
    (hbase : attributeBase o name X.env (eval o X.env) = eval o X.env := by rfl)
    (hfew : ((backTo cpos (starEach (e :: es) X.env)).all (fun x => !x.1) && (backToKw cpos (keywordEach [] X.env)).all (fun x => x.1.isSome)
      && decide ((e :: es).length + ([] : List Keyword).length + (if ([] : List Keyword).isEmpty then 0 else 1) < 30)) = true := by rfl)
    (hline : (apos.endLine == cpos.line) = true := by rfl) (hs : starEach (e :: es) X.env = (false, eval e X.env) :: starEach es X.env := by rfl) (hplain : (backTo cpos (starEach es X.env)).any (·.1) = false := by rfl) :
    PE X (.Call (.Attribute o name apos) (e :: es) [] cpos) (tBG X.prog X.w X.K T r to t) := by
  refine ⟨fun pins s σ H Q I h => ?_⟩
  refine wpAny_Call_method_late hbase hfew hline rfl (thn (ho.run pins s σ H _ I h) fun v s1 ⟨x, H1, I1, r1, ty, q1⟩ => ?_)
  obtain ⟨h1, h2⟩ := tyG_is I1 r1 ty
  refine ⟨T, id, pa, slot, hty, h1, h2, ?_⟩
  have hA := ha.run cpos pins s1 σ H1 _ I1 q1
  rw [hs] at hA ⊢
  refine Calls.callWith_builtin (by show (false || (backTo cpos (starEach es X.env)).any (·.1)) = false; rw [hplain] <;> rfl) (Calls.evalArgs_plain ?_)
  exact thn hA fun us s2 ⟨vs, H2, I2, r2, q2⟩ => hm pins s2 σ H2 x vs v us Q I2 r1 r2 q2
/-- t.index(n), the first place -/
def rTIx (K : PySem.W.Frag) : V → List V → Hp → VK → Prop := fun x xs H Q => ∃ p, ∃ ys : List Int, ∃ z j, x = .ref p ∧ xs = [.int z] ∧ SqT K H p (ys.map V.int) ∧ ys[j]? = some z ∧ (∀ m, m < j → ys[m]? ≠ some z) ∧ Q (.int (j : Nat)) H
theorem flat_ints (ys : List Int) : (ys.map V.int).all flatV = true := by
  rw [List.all_map]
  exact List.all_eq_true.mpr fun _ _ => rfl
theorem mt_tix : MtR X "tuple.index" (rTIx X.K) := by
  intro pins s σ H x xs v us Q I rx rs h
  obtain ⟨p, ys, z, j, rfl, rfl, hq, hy, hno, q⟩ := h
  cases rx
  obtain ⟨u, rfl, t, rfl⟩ := vals1 rs
  obtain ⟨its, r, pl, hz⟩ := I.tuple hq
  obtain ⟨⟨cls, dd, dt, sl⟩, ho, hc, n, hd⟩ := pl
  simp only at hc hd
  subst hc
  subst hd
  have hl : its.toArray.size = ys.length := by rw [List.size_toArray, ← r.length, List.length_map]
  have hj : j < its.toArray.size := by rw [hl]; exact (List.getElem?_eq_some_iff.mp hy).1
  have at' : ∀ (m : Nat) (hm : m < its.toArray.size), ∃ y t', ys[m]? = some y ∧ its.toArray[m] = Value.int y t' := fun m hm => by
    have hm' : m < ys.length := by rw [← hl]; exact hm
    obtain ⟨w, hw, t', hw'⟩ := r.get (i := m) (x := .int ys[m]) (by simp [hm'])
    refine ⟨ys[m], t', List.getElem?_eq_getElem hm', ?_⟩
    have e := (List.getElem?_eq_some_iff.mp hw).2
    rw [← hw', ← e]
    simp
  refine call_meets PySem.F.slot_tuple_index ⟨_, ho, rfl⟩ PySem.F.entry_tuple_index (PySem.F.args_tuple_index_2 _ _) (TI.tuple_indexAt p its.toArray n dd sl (.int z t) (eqU (.int z)) j hj ?_ ?_)
    ⟨ho, fun w hw => mem_eqAt (x := .int z) ⟨t, rfl⟩ rfl r (flat_ints ys) w (by simpa using hw), ⟨.int (j : Nat), H, I.tok _, ⟨_, rfl⟩, q⟩⟩
  · obtain ⟨y, t', h1, h2⟩ := at' j hj
    rw [hy] at h1
    cases h1
    rw [h2]
    show (z == z) = true
    exact beq_self_eq_true z
  · intro m hm hmj
    obtain ⟨y, t', h1, h2⟩ := at' m hm
    rw [h2]
    show (y == z) = false
    exact beq_eq_false_iff_ne.mpr fun e => hno m hmj (e ▸ h1)
/-- d.get(k, x) -/
def rKGet (P : Program) (w : World) : V → List V → Hp → VK → Prop := fun x xs H Q => ∃ d q rows k z, x = .ref d ∧ xs = [.ref q, z] ∧ RdD P w H d rows ∧ KeysAt H rows ∧ KeyAt H k q ∧ Q ((kdLook rows k).getD z) H
theorem mt_kget (hu : X.A.units + 64 < cLine) : MtR X "dict.get" (rKGet X.prog X.w) := by
  intro pins s σ H x xs v us Q I rx rs h
  obtain ⟨d, q, rows, k, z, rfl, rfl, hr, hk, hq, h⟩ := h
  cases rx
  obtain ⟨u1, u2, rfl, r1, r2⟩ := vals2 rs
  cases r1
  obtain ⟨_, hd, ys, r, m⟩ := hr.full I hk
  refine getOr_keyed (knd := nestedKind X.prog X.w) (by show X.A.units + 1 + 8 < cLine; omega) (hq.is I) hd ⟨ys, m, rfl⟩ ?_
  refine ⟨_, H, I.tok _, ?_, h⟩
  rw [valueAt_pairsH]
  exact (r.look k).getD r2
/-- d.pop(k), there -/
def rKPop (P : Program) (w : World) : V → List V → Hp → VK → Prop := fun x xs H Q => ∃ d q rows k v, x = .ref d ∧ xs = [.ref q] ∧ H d = some (KDO P w d rows) ∧ KeysAt H rows ∧ KeyAt H k q ∧ kdLook rows k = some v ∧ Q v (upd H d (KDO P w d (kdDrop rows k)))
theorem atKey_of {rows : List KRow} {xs : List (NestedKey × Addr × Value)} (r : KR rows xs) {k : NestedKey} {v : V} (h : kdLook rows k = some v) : ∃ p, atKey xs k = some p ∧ RelV v p.2 := by
  have rl := r.look k
  rw [h] at rl
  cases e : atKey xs k with
  | none => rw [e] at rl; exact rl.elim
  | some p => rw [e] at rl; exact ⟨p, rfl, rl⟩
theorem kdDrop_length (rows : List KRow) (k : NestedKey) : (kdDrop rows k).length ≤ rows.length := List.length_filter_le _ _
theorem mt_kpop (hu : X.A.units + 64 < cLine) : MtR X "dict.pop" (rKPop X.prog X.w) := by
  intro pins s σ H x xs v us Q I rx rs h
  obtain ⟨d, q, rows, k, z, rfl, rfl, hH, hk, hq, hl, h⟩ := h
  cases rx
  obtain ⟨u1, rfl, r1⟩ := vals1 rs
  cases r1
  obtain ⟨hz, hd, ys, r, m⟩ := RdD.full I (.inl hH) hk
  obtain ⟨p, hp, rp⟩ := atKey_of r hl
  refine call_pop_heap (knd := nestedKind X.prog X.w) (more := []) (hsz := by rw [← r.length]; exact hz) (.inl rfl) (PySem.F.args_dict_pop_2 _ _) (by show X.A.units + 1 + 8 < cLine; omega) (hq.is I) hd m hp fun h' m' hs => ?_
  exact ⟨z, _, kd_write I hH hs (Nat.le_trans (kdDrop_length rows k) hz) hd (r.drop k) m', rp, h⟩
/-- d.pop(k, x), there or not -/
def rKPop2 (P : Program) (w : World) : V → List V → Hp → VK → Prop := fun x xs H Q => ∃ d q rows k z, x = .ref d ∧ xs = [.ref q, z] ∧ H d = some (KDO P w d rows) ∧ KeysAt H rows ∧ KeyAt H k q ∧
  (∀ v, kdLook rows k = some v → Q v (upd H d (KDO P w d (kdDrop rows k)))) ∧ (kdLook rows k = none → Q z H)
theorem mt_kpop2 (hu : X.A.units + 64 < cLine) : MtR X "dict.pop" (rKPop2 X.prog X.w) := by
  intro pins s σ H x xs v us Q I rx rs h
  obtain ⟨d, q, rows, k, z, rfl, rfl, hH, hk, hq, h1, h2⟩ := h
  cases rx
  obtain ⟨u1, u2, rfl, r1, r2⟩ := vals2 rs
  cases r1
  obtain ⟨hz, hd, ys, r, m⟩ := RdD.full I (.inl hH) hk
  cases e : kdLook rows k with
  | some v0 =>
    obtain ⟨p, hp, rp⟩ := atKey_of r e
    refine call_pop_heap (knd := nestedKind X.prog X.w) (more := [u2]) (hsz := by rw [← r.length]; exact hz) (.inr ⟨u2, rfl⟩) (PySem.F.args_dict_pop_3 _ _ _) (by show X.A.units + 1 + 8 < cLine; omega) (hq.is I) hd m hp fun h' m' hs => ?_
    exact ⟨v0, _, kd_write I hH hs (Nat.le_trans (kdDrop_length rows k) hz) hd (r.drop k) m', rp, h1 v0 e⟩
  | none =>
    have hn : atKey ys k = none := by
      have := r.isSome k
      rw [e] at this
      cases q : atKey ys k with
      | none => rfl
      | some p => rw [q] at this; cases this
    refine call_pop_default_heap (knd := nestedKind X.prog X.w) (hsz := by rw [← r.length]; exact hz) (by show X.A.units + 1 + 8 < cLine; omega) (hq.is I) hd m hn fun tk => ?_
    exact ⟨z, H, I.tok tk, r2, h2 e⟩
/-! ### len -/
def rLenK (P : Program) (w : World) : List V → Hp → VK → Prop := fun xs H Q => ∃ d rows, xs = [.ref d] ∧ RdD P w H d rows ∧ KeysAt H rows ∧ Q (.int (rows.length : Nat)) H
theorem call_lenK : CallR X (.builtin "len") (rLenK X.prog X.w) := by
  intro pins s σ H xs us Q I r h
  obtain ⟨d, rows, rfl, hr, hk, h⟩ := h
  obtain ⟨u, rfl, ru⟩ := vals1 r
  cases ru
  obtain ⟨hz, hd, ys, r, m⟩ := hr.full I hk
  refine call_len_dictH (knd := nestedKind X.prog X.w) hd m (by rw [← r.length]; have := line63; omega) ?_
  exact ⟨.int (rows.length : Nat), H, I.tok _, ⟨_, by rw [r.length]⟩, h⟩
def rLenQ (K : PySem.W.Frag) : List V → Hp → VK → Prop := fun xs H Q => ∃ p ys, xs = [.ref p] ∧ (SqL K H p ys ∨ SqT K H p ys) ∧ Q (.int ys.length) H
/-- len(x): a list, a tuple, a dict with nested keys, a text -/
abbrev rLenU (P : Program) (w : World) (K : PySem.W.Frag) : List V → Hp → VK → Prop := fun xs H Q => rLenQ K xs H Q ∨ (rLenK P w xs H Q ∨ ∃ z, xs = [.str z] ∧ z.length ≤ sizeLine ∧ Q (.int z.length) H)
theorem call_lenU : CallR X (.builtin "len") (rLenU X.prog X.w X.K) := CallR.or call_len_seq (CallR.or call_lenK call_len_str)
/-! ### {} -/
def tNewD (P : Program) (w : World) : TE := fun _ H Q => ∀ p, H p = none → Q (.ref p) (upd H p (KDO P w p []))
theorem pe_newD {pos : Pos} : PE X (.Dict [] [] pos) (tNewD X.prog X.w) := ⟨fun pins s σ H Q I h => by
  have hd : (s.heap.objs.size == sysModules) = false := by
    have hb : sysModules < s.heap.objs.size := I.big
    exact beq_eq_false_iff_ne.mpr (Nat.ne_of_gt hb)
  have hf := I.hok.fresh (Nat.le_refl _)
  refine wpAny_Dict_empty ?_
  refine ⟨.ref s.heap.objs.size, _, I.laid (t' := s.toks) (o := KDO X.prog X.w s.heap.objs.size []) (fun b u e => Heap.get?_push_of_some _ e) (Nat.le_refl _) (kd_new (by show 0 ≤ _; exact Nat.zero_le _) hd .nil (Heap.DictOfH.new _)), rfl, h _ hf⟩⟩
end
end KC
end

section
set_option Elab.async false
set_option linter.all false
set_option autoImplicit false
set_option maxRecDepth 100000
set_option maxHeartbeats 4000000
/-! sorted of tuples of alike items, the empty one among them. -/
namespace KC
open PySem PySem.W PySem.Calls PyProof.Rows PySem.SeqAt
section
variable {prog : Program} {w : World} {A : Around} {E : Value → Shared → Prop} {s : Shared}
theorem callTupLt {Q : Value → Shared → Prop} {l b : Addr} {items items2 : Array Value} {e r : Nat → Bool} (hl : s.heap.IsTuple l items) (hb : s.heap.IsTuple b items2)
    (he : ∀ j (h1 : j < items.size) (h2 : j < items2.size), EqAt A.in1 s items[j] items2[j] (e j)) (hr : ∀ j (h1 : j < items.size) (h2 : j < items2.size), e j = false → RcLt A.in1 s items[j] items2[j] (r j))
    (h : Q (.bool (firstLt e r (decide (items.size < items2.size)) (List.range (min items.size items2.size)))) s) : wpAny (model prog w) A (call (.builtin "tuple.__lt__") [.ref l, .ref b]) Q E s := by
  obtain ⟨⟨cls, dd, data, sl⟩, ho, hc, n, hd⟩ := id hl
  obtain ⟨⟨cls2, dd2, data2, sl2⟩, ho2, hc2, n2, hd2⟩ := id hb
  simp only at hc hd hc2 hd2
  subst hc hd hc2 hd2
  exact call_meets F.slot_tuple_lt ⟨_, ho, rfl⟩ F.entry_tuple_lt (F.args_tuple_lt_2 _ _) (tuple_ltAt l b items items2 n n2 dd dd2 sl sl2 e r) ⟨ho, ho2, he, hr, h⟩
theorem oneLt_tup {f : Bool} {xs ys : List PyData} {a b : Value} {as bs : List Addr} {Q : Bool → Shared → Prop} (ra : Reads s.heap a (.tuple xs) as) (rb : Reads s.heap b (.tuple ys) bs) (hal : alikeAll xs ys = true)
    (hu : A.units + min (PyData.tuple xs).depth (PyData.tuple ys).depth < cLine) (hq : Q (dataLt (.tuple xs) (.tuple ys)) s) : wpAny (model prog w) A (oneLt' f a b) Q E s := by
  cases f with
  | false => exact oneLt_alike (fun z => by cases z) ra rb (by rw [alike]; exact hal) (by intro z; cases z) hu hq
  | true =>
    cases ra with
    | @tuple l o vs n _ as₁ h1 h2 h3 h4 =>
      cases rb with
      | @tuple l' o' vs' n' _ bs₁ k1 k2 k3 k4 =>
        have n1 : vs.size = xs.length := by simpa using ReadsAll.length _ _ _ h4
        have n2 : vs'.size = ys.length := by simpa using ReadsAll.length _ _ _ k4
        rw [dataLt_tuple, ← firstLt_toks xs ys hal, ← n1, ← n2] at hq
        rw [oneLt'_eq]
        simp only [if_true]
        refine wpAny_bind (wpAny_cRoomFor (room_here hu) ?_)
        refine wpAny_bind (wpAny_callSpecialIfBound?_slot (T := "tuple") ⟨_, h1, h2⟩ F.slot_tuple_lt (callTupLt (e := pairEq xs ys) (r := fun j => dataLt (xs.getD j .none) (ys.getD j .none)) ⟨_, h1, h2, _, h3⟩ ⟨_, k1, k2, _, k3⟩ (fun j j1 j2 => ?_) (fun j j1 j2 hj => ?_) ?_))
        · have := eqAt_alikeAll xs ys A.in1 s vs.toList vs'.toList _ _ h4 k4 hal (room_in hu) j (by simpa using j1) (by simpa using j2)
          simpa using this
        · have := rcLt_alikeAll xs ys A.in1 s vs.toList vs'.toList _ _ h4 k4 hal (room_in hu) j (by simpa using j1) (by simpa using j2) hj
          simpa using this
        · exact wpAny_truthy_bool hq
theorem firsts_tup {M : Model} : ∀ {vs : List Value} {ts : List (List PyData)} {Q : List (Option Value) → Shared → Prop}, EachIs (fun v t => ∃ as, Reads s.heap v (.tuple t) as) vs ts → (∀ os : List (Option Value), os.map (·.isSome) = ts.map (fun t => !t.isEmpty) → Q os s) → wpAny M A (vs.mapM firstOfTuple') Q E s
  | _, _, Q, .nil, h => by rw [List.mapM_nil]; exact wpAny_pure (h [] rfl)
  | _, _, Q, .cons (b := t) ⟨as, r⟩ tl, h => by
    cases r with
    | @tuple a o xs n _ _ ho hc hd hr =>
      rw [List.mapM_cons]
      refine wpAny_bind ?_
      rw [kas_first_eq]
      refine wpAny_bind (Looks.here (show Looks M s.heap (typeOf (.ref a)) o.cls from (Looks.ld ho).andThen .now) ?_)
      rw [hc, if_neg (by first | decide | simp)]
      refine wpAny_bind (listItems_at ho hd (wpAny_pure ?_))
      refine wpAny_bind (firsts_tup (M := M) tl fun os hos => wpAny_pure (h _ ?_))
      rw [List.map_cons, List.map_cons, hos]
      congr 1
      have n1 : xs.size = t.length := by simpa using SeqAt.ReadsAll.length _ _ _ hr
      cases t with
      | nil =>
        have : xs = #[] := Array.eq_empty_of_size_eq_zero n1
        subst this
        rfl
      | cons x t =>
        have h0 : 0 < xs.size := by rw [n1]; simp
        rw [Array.getElem?_eq_getElem h0]
        rfl
/-- tuples of alike items can be sorted, the empty one among them -/
theorem SortsAt.tups {vs : List Value} {ts : List (List PyData)} (e : EachIs (fun v t => ∃ as, Reads s.heap v (.tuple t) as) vs ts) (hal : ∀ t ∈ ts, ∀ u ∈ ts, alikeAll t u = true) (hu : ∀ t ∈ ts, A.units + (PyData.tuple t).depth < cLine) : SortsAt prog w A s (dataKind s.heap (ts.map .tuple)) vs := by
  have e2 : EachIs (fun v d => ∃ as, Reads s.heap v d as) vs (ts.map .tuple) := each_map (R := fun v d => ∃ as, Reads s.heap v d as) PyData.tuple e
  have hal2 : AllAlike (ts.map .tuple) := fun d hd d' hd' => by
    obtain ⟨t, ht, rfl⟩ := List.mem_map.mp hd
    obtain ⟨u, hu, rfl⟩ := List.mem_map.mp hd'
    rw [alike]
    exact hal t ht u hu
  by_cases hne : ∀ t ∈ ts, t ≠ []
  · refine SortsAt.data e2 hal2 (.inl fun d hd => ?_) fun d hd => ?_
    · obtain ⟨t, ht, rfl⟩ := List.mem_map.mp hd
      cases t with
      | nil => exact absurd rfl (hne _ ht)
      | cons x r => exact ⟨x, r, rfl⟩
    · obtain ⟨t, ht, rfl⟩ := List.mem_map.mp hd
      exact hu t ht
  · refine ⟨fun v hv => ?_, ?_⟩
    · obtain ⟨d, hd, as, r⟩ := e2.left v hv
      exact ⟨_, dataKind_some hal2 hd r⟩
    · have lt : ∀ (f : Bool) (kd : SortKind), (∀ x y, keyLt' kd x y = oneLt' f x y) → H.LtAt prog w A s (dataKind s.heap (ts.map .tuple)) kd := fun f kd hk E x y a b Q ha hb hq => by
        obtain ⟨d, as, hd, ra, rfl⟩ := dataKind_inv ha
        obtain ⟨d', as', hd', rb, rfl⟩ := dataKind_inv hb
        obtain ⟨t, ht, rfl⟩ := List.mem_map.mp hd
        obtain ⟨u, hu', rfl⟩ := List.mem_map.mp hd'
        rw [hk]
        exact oneLt_tup ra rb (hal t ht u hu') (Nat.lt_of_le_of_lt (Nat.add_le_add_left (Nat.min_le_left _ _) _) (hu t ht)) hq
      have hany : ∃ t ∈ ts, t = [] := by
        by_cases z : ∃ t ∈ ts, t = []
        · exact z
        · exact absurd (fun t ht e => z ⟨t, ht, e⟩) hne
      obtain ⟨t0, ht0, rfl⟩ := hany
      have notall : ∀ os : List (Option Value), os.map (·.isSome) = ts.map (fun t => !t.isEmpty) → (os.toArray.all fun x => x.isSome) = false := fun os hos => by
        rw [← Bool.not_eq_true, Array.all_eq_true']
        intro h
        have hm : false ∈ ts.map (fun t => !t.isEmpty) := List.mem_map.mpr ⟨[], ht0, rfl⟩
        rw [← hos] at hm
        obtain ⟨o, ho, eo⟩ := List.mem_map.mp hm
        have := h o (by simpa using ho)
        rw [eo] at this
        cases this
      by_cases h1 : ∃ x r tr, ts = (x :: r) :: tr
      · obtain ⟨x, r, tr, rfl⟩ := h1
        refine ⟨general', lt false general' fun _ _ => rfl, fun h2 E Q hq => ?_⟩
        rw [kat_kind_eq, List.mapM_toArray, map_eq_pure_bind]
        refine wpAny_bind (wpAny_bind (firsts_tup e fun os hos => wpAny_pure ?_))
        rw [if_neg (by rw [notall os hos]; simp)]
        cases os with
        | nil => simp at hos
        | cons o os =>
          have : o.isSome = true := by
            rw [List.map_cons, List.map_cons] at hos
            injection hos
          rw [if_pos (by simpa using this)]
          exact wpAny_pure hq
      · have h1' : ts = [] ∨ ∃ tr, ts = [] :: tr := by
          cases ts with
          | nil => exact .inl rfl
          | cons t tr =>
            cases t with
            | nil => exact .inr ⟨tr, rfl⟩
            | cons x r => exact absurd ⟨x, r, tr, rfl⟩ h1
        rcases h1' with rfl | ⟨tr, rfl⟩
        · cases ht0
        · refine ⟨oneType', lt true oneType' fun _ _ => keyLt'_oneType _ _, fun h2 E Q hq => ?_⟩
          rw [kat_kind_eq, List.mapM_toArray, map_eq_pure_bind]
          refine wpAny_bind (wpAny_bind (firsts_tup e fun os hos => wpAny_pure ?_))
          rw [if_neg (by rw [notall os hos]; simp)]
          cases os with
          | nil => simp at hos
          | cons o os =>
            have : o.isSome = false := by
              rw [List.map_cons, List.map_cons] at hos
              injection hos
            rw [if_neg (by simpa using this)]
            rw [oneTypeOnly'_eq, List.mapM_toArray, map_eq_pure_bind]
            refine wpAny_bind (wpAny_bind (wpAny_bind (kas_mapM (r := Value.type "tuple") _ (fun v hv Q' hq => ?_) (wpAny_pure ?_))))
            · obtain ⟨d, hd, as, r⟩ := e2.left v hv
              obtain ⟨t, _, rfl⟩ := List.mem_map.mp hd
              exact (looks_reads (M := model prog w) r).here hq
            · cases vs with
              | nil => simp at h2
              | cons v vs =>
                have hall2 : ((List.map (fun _ => Value.type "tuple") (v :: vs)).toArray.all fun x => x == Value.type "tuple") = true := by
                  simp only [List.all_toArray, List.all_map, List.all_eq_true]
                  intro _ _
                  exact beq_self_eq_true _
                have h0 : (List.map (fun _ => Value.type "tuple") (v :: vs)).toArray[0]? = some (Value.type "tuple") := by simp
                rw [h0]
                simp only [hall2, if_true]
                exact wpAny_pure (wpAny_pure hq)
theorem each_unmap {R : Value → PyData → Prop} : ∀ {vs : List Value} {ts : List (List PyData)}, EachIs R vs (ts.map .tuple) → EachIs (fun v t => R v (.tuple t)) vs ts
  | vs, [], h => by
    rw [List.map_nil] at h
    cases h
    exact .nil
  | vs, t :: ts, h => by
    rw [List.map_cons] at h
    cases h with
    | cons h1 h2 => exact .cons h1 (each_unmap h2)
theorem sorted_tups {l : Addr} {vs : List Value} {ts : List (List PyData)} {R : Value → PyData → Prop} {Q : Value → Shared → Prop} (hl : s.heap.IsList l vs.toArray) (e : EachIs R vs (ts.map .tuple)) (er : EachIs (fun v b => ∃ as, Reads s.heap v (id b) as) vs (ts.map .tuple)) (hal : AllAlike (ts.map .tuple)) (hL : (ts.map PyData.tuple).length ≤ sizeLine)
    (hu : ∀ b, b ∈ ts.map PyData.tuple → A.units + 2 + b.depth < cLine) (h : ∀ out, out.length = (ts.map PyData.tuple).length → EachIs R out ((ts.map PyData.tuple).mergeSort (dataLe false id)) → Q (.ref (s.heap.objs.size + 1)) { s with heap := sortedAll s.heap vs (List.toArray out) }) :
    wpAny (model prog w) A (call (.builtin "sorted") [.ref l]) Q E s := by
  have er' : EachIs (fun v b => ∃ as, Reads (sortingHeap (copyHeap s.heap vs) (s.heap.objs.size + 1) vs) v (id b) as) vs (ts.map .tuple) := er.mono fun _ _ ⟨as, r⟩ => ⟨as, PyProof.Rows.Reads.keeps (fun _ _ => sorting_copy_old) r⟩
  have hal' : ∀ t ∈ ts, ∀ u ∈ ts, alikeAll t u = true := fun t ht u hu => by
    have := hal (.tuple t) (List.mem_map.mpr ⟨t, ht, rfl⟩) (.tuple u) (List.mem_map.mpr ⟨u, hu, rfl⟩)
    rw [alike] at this
    exact this
  have hal2 : AllAlike ((ts.map PyData.tuple).map id) := by rw [List.map_id]; exact hal
  have := sortVals_data (enc := id) false e er' hal2
  rw [List.map_id] at this
  exact sorted_vals hl (SortsAt.tups (s := { s with heap := sortingHeap (copyHeap s.heap vs) (s.heap.objs.size + 1) vs }) (each_unmap (R := fun v b => ∃ as, Reads (sortingHeap (copyHeap s.heap vs) (s.heap.objs.size + 1) vs) v (id b) as) er') hal' (fun t ht => by
      have := hu _ (List.mem_map.mpr ⟨t, ht, rfl⟩)
      show A.units + 1 + 1 + _ < cLine
      omega)) (by rw [e.length]; exact hL)
    (h _ (by rw [sortVals_length false rfl]; exact e.length) this)
end
end KC
end

section
set_option Elab.async false
set_option linter.all false
set_option autoImplicit false
set_option maxRecDepth 100000
set_option maxHeartbeats 4000000
/-! Walks over dicts with nested keys; {t: v}; sorted of data. -/
namespace KC
open PySem L2 PySem.Spec PyProof.Rows
open Evl (Ex)
section
variable {X : Cx} {pins : List (Addr × Obj)} {σ : L2.St} {H : Hp} {s : Shared}
theorem paired_at {α β : Type} {F : α → β → Prop} : ∀ {a : List α} {b : List β} {i : Nat} {x : α}, Paired F a b → a[i]? = some x → ∃ y, b[i]? = some y ∧ F x y
  | _, _, _, _, .nil, h => by simp at h
  | _, _, 0, _, .cons h _, e => by
    simp only [List.getElem?_cons_zero, Option.some.injEq] at e
    subst e
    exact ⟨_, rfl, h⟩
  | _, _, i + 1, _, .cons _ t, e => by
    obtain ⟨y, h1, h2⟩ := paired_at (i := i) t (by simpa using e)
    exact ⟨y, by simpa using h1, h2⟩
/-- a locked dict, as it lies -/
theorem kd_locked {d : Addr} {o : Obj} {rows : List KRow} (I : Inv X pins σ H s) (h : H d = some (.frz o (KDO X.prog X.w d rows))) :
    (d == sysModules) = false ∧ s.heap.get? d = some o ∧ o.ExactDict ∧ ∃ (es : Array DictEntry) (ep : Nat), o.data = .dict es ep ∧ es.size = rows.length ∧
      ∀ (i : Nat) (r : KRow), rows[i]? = some r → ∃ en : DictEntry, es[i]? = some en ∧ en.key = .ref r.2.1 := by
  obtain ⟨hd, ⟨o', es, ep, xs, ho, hx, hdt, he, _, hs, _, kr⟩, _⟩ := I.hok d _ h
  rw [hd] at ho
  cases ho
  have l1 : es.size = xs.length := size_of_entries he
  refine ⟨hs, hd, hx, es, ep, hdt, by rw [l1, kr.length], fun i r e => ?_⟩
  obtain ⟨x, hxi, _, e2, _⟩ := paired_at kr e
  have q := entry_at he i
  rw [hxi] at q
  exact ⟨_, q, by rw [e2]; rfl⟩
/-- the keys of a locked dict -/
def ItD (P : Program) (w : World) (d : Addr) (o : Obj) (rows : List KRow) : It :=
  ⟨fun i H => H d = some (.frz o (KDO P w d rows)) ∧ i < rows.length, fun i H x H' => H' = H ∧ ∃ r : KRow, rows[i]? = some r ∧ x = .ref r.2.1, fun i H => H d = some (.frz o (KDO P w d rows)) ∧ rows.length ≤ i⟩
theorem turn_kd {P : Program} {w : World} {K : PySem.W.Frag} {tg : Expr} {d : Addr} {o : Obj} {es : Array DictEntry} {ep : Nat} {rows : List KRow} (it : Addr) (hod : o.data = .dict es ep) :
    Turn P w K tg (ItD P w d o rows) [it] it (fun i h => h.IsKeyIter it d i rows.length ep) where
  mem := List.mem_singleton.mpr rfl
  obj := fun i h st b hb => by
    obtain rfl : b = it := List.mem_singleton.mp hb
    obtain ⟨ob, e1, _, e2⟩ := st
    exact ⟨ob, e1, fun v z => by rw [e2] at z; cases z⟩
  keep := fun i h h' st kp => st.at fun ob e => kp it (List.mem_singleton.mpr rfl) ob e
  item := by
    intro X hP hw hK hcalm i pins s σ H E I hfp st hgo
    subst hP hw hK
    obtain ⟨hlock, hi⟩ := hgo
    obtain ⟨g0, g1, g2, g3, g4, g5⟩ := hfp it (List.mem_singleton.mpr rfl)
    obtain ⟨hs, hget, hx, es', ep', hdt, hsz, ent⟩ := kd_locked I hlock
    obtain ⟨rfl, rfl⟩ := dict_ep hod hdt
    have hr : rows[i]? = some rows[i] := List.getElem?_eq_getElem hi
    obtain ⟨en, hen, hkey⟩ := ent i _ hr
    refine next_key_item st hget hdt hsz hen fun h2 st2 sb => ?_
    have I2 : Inv X pins σ H { s with heap := h2 } := I.turned (t' := s.toks) (fun b ob hb e => (sb.2 b hb).trans e) g0 g1 g3 g4 g5
    obtain ⟨oi, q1, q2, q3⟩ := id st2
    exact ⟨en.key, rfl, go_of (s := { s with heap := h2 }) q1 q2 q3 (by decide) ⟨.ref rows[i].2.1, H, I2, hkey, ⟨rfl, _, hr, rfl⟩, st2, fun b hb => (hfp b hb).1⟩⟩
  done := by
    intro X hP hw hK hcalm i pins s σ H E I hfp st hstop
    subst hP hw hK
    obtain ⟨hlock, hi⟩ := hstop
    obtain ⟨g0, g1, g2, g3, g4, g5⟩ := hfp it (List.mem_singleton.mpr rfl)
    obtain ⟨hs, hget, hx, es', ep', hdt, hsz, ent⟩ := kd_locked I hlock
    obtain ⟨rfl, rfl⟩ := dict_ep hod hdt
    exact next_key_end (I.ok.hd hcalm) st hget hdt hsz hi fun h2 eb => ⟨rfl, I.turned (t' := s.toks) (fun b ob hb e => eb b ob hb e) g0 g1 g3 g4 g5⟩
  self := fun A i s Q E st h => by
    have ht := st.typeIs
    refine wpAny_pyIter_slot ht F.slot_dict_keyiterator_iter ?_
    refine wpAny_call_entry F.slot_dict_keyiterator_iter ht F.entry_dict_keyiterator_iter ?_ (F.args_dict_keyiterator_iter_1 _)
    show wpAny _ _ (ret (.ref it)) _ _ s
    exact wpAny_pure ⟨_, rfl, "dict_keyiterator", _, ht, F.slot_dict_keyiterator_next.lookup, h⟩
/-- for k in d (d locked) -/
def iKd (P : Program) (w : World) (td : TE) : TI := fun σ H R => td σ H fun x H1 => ∃ d o rows, x = .ref d ∧ H1 d = some (.frz o (KDO P w d rows)) ∧ R (ItD P w d o rows) H1
theorem pi_kd {tg e : Expr} {td : TE} (he : PE X e td) : PI X tg e (iKd X.prog X.w td) := by
  refine ⟨fun pins s σ H R I h => ?_⟩
  refine thn (he.run pins s σ H _ I h) fun u s1 ⟨x, H1, I1, rx, d, o, rows, ex, hlock, q⟩ => ?_
  subst ex
  cases rx
  obtain ⟨hs, hget, hx, es, ep, hdt, hsz, ent⟩ := kd_locked I1 hlock
  refine iter_keys hs hget hx hdt (pi_one (tk := s1.toks) I1 _ (turn_kd _ hdt) ⟨_, Heap.get?_push_size _ rfl, rfl, ?_⟩ q)
  rw [hsz] <;> rfl
/-! ### sorted -/
/-- sorted(xs), xs a list that reads as the alike data ds -/
def rSortD (K : PySem.W.Frag) : List V → Hp → VK → Prop := fun vs H Q => ∃ (a : Addr) (xs : List V) (ds : List PyData), vs = [.ref a] ∧ SqL K H a xs ∧ IsDs H xs ds ∧ PySem.W.AllAlike ds ∧ (PySem.W.Sortable ds ∨ ∃ ts : List (List PyData), ds = ts.map PyData.tuple) ∧ (∀ d ∈ ds, d.depth ≤ 50) ∧
  ∀ ys p, IsDs H ys (ds.mergeSort (PySem.W.dataLe false id)) → ys.length = xs.length → H p = none → Q (.ref p) (upd H p (.lst ys))
theorem each_of_isDs : ∀ {xs : List V} {us : List Value} {ds : List PyData}, IsDs H xs ds → Vals xs us → PySem.W.EachIs (fun u d => ∃ x : V, RelV x u ∧ IsD H x d) us ds
  | _, _, _, .nil, .nil => .nil
  | _, _, _, .cons h t, .cons r q => .cons ⟨_, r, h⟩ (each_of_isDs t q)
theorem isDs_of_each : ∀ {us : List Value} {ds : List PyData}, PySem.W.EachIs (fun u d => ∃ x : V, RelV x u ∧ IsD H x d) us ds → ∃ ys, Vals ys us ∧ IsDs H ys ds
  | _, _, .nil => ⟨[], .nil, .nil⟩
  | _, _, .cons ⟨x, r, h⟩ t => by
    obtain ⟨ys, q1, q2⟩ := isDs_of_each t
    exact ⟨x :: ys, .cons r q1, .cons h q2⟩
theorem cr_sortD (hu : X.A.units + 64 < cLine) : CallR X (.builtin "sorted") (rSortD X.K) := by
  intro pins s σ H vs us Q I r h
  obtain ⟨a, xs, ds, rfl, hs, hd, hal, hk, hdep, q⟩ := h
  obtain ⟨u, rfl, ru⟩ := vals1 r
  cases ru
  obtain ⟨its, rv, hl, hz⟩ := I.list hs
  have l1 := rv.length
  have l2 := hd.length
  have e0 := each_of_isDs hd rv
  have er : PySem.W.EachIs (fun v b => ∃ as, Reads s.heap v (id b) as) its ds := e0.mono fun u d ⟨x, rx, hx⟩ => Dp.reads I d x u hx.dp rx
  rcases hk with hk | ⟨ts, rfl⟩
  · refine PySem.W.sorted_data (enc := id) hl.isList e0 er (by rw [List.map_id]; exact hal) (by rw [List.map_id]; exact hk) (by omega) (fun d m => ?_) fun out ho hout => ?_
    · have := hdep d m
      show X.A.units + 2 + d.depth < cLine
      omega
    · obtain ⟨ys, q1, q2⟩ := isDs_of_each hout
      have ly := q1.length
      have kp : ∀ b o, s.heap.get? b = some o → (sortedAll s.heap its out.toArray).get? b = some o := fun b o e => sortedAll_old e
      obtain ⟨n, hn⟩ := sortedAll_at s.heap its out.toArray
      have hf := I.hok.fresh (Nat.le_succ s.heap.objs.size)
      have lm : (ds.mergeSort (PySem.W.dataLe false id)).length = ds.length := List.length_mergeSort ds
      refine ⟨.ref (s.heap.objs.size + 1), _, I.laid (t' := s.toks) (o := .lst ys) kp (Nat.le_succ _) ⟨?_, out, n, q1, hn⟩, rfl, q ys _ q2 (by omega) hf⟩
      omega
  · refine sorted_tups hl.isList e0 er hal (by omega) (fun d m => ?_) fun out ho hout => ?_
    · have := hdep d m
      show X.A.units + 2 + d.depth < cLine
      omega
    · obtain ⟨ys, q1, q2⟩ := isDs_of_each hout
      have ly := q1.length
      have kp : ∀ b o, s.heap.get? b = some o → (sortedAll s.heap its out.toArray).get? b = some o := fun b o e => sortedAll_old e
      obtain ⟨n, hn⟩ := sortedAll_at s.heap its out.toArray
      have hf := I.hok.fresh (Nat.le_succ s.heap.objs.size)
      have lm : ((ts.map PyData.tuple).mergeSort (PySem.W.dataLe false id)).length = (ts.map PyData.tuple).length := List.length_mergeSort _
      refine ⟨.ref (s.heap.objs.size + 1), _, I.laid (t' := s.toks) (o := .lst ys) kp (Nat.le_succ _) ⟨?_, out, n, q1, hn⟩, rfl, q ys _ q2 (by omega) hf⟩
      omega
end
end KC
end

section
set_option Elab.async false
set_option linter.all false
set_option autoImplicit false
set_option maxRecDepth 100000
set_option maxHeartbeats 4000000
/-! sorted of pairs (tuple of ints, anything) whose firsts are all different. -/
namespace KC
open PySem PySem.W PySem.Calls PyProof.Rows PySem.SeqAt
def pD (p : List Int × PyData) : PyData := .tuple [dT p.1, p.2]
def fToks (p : List Int × PyData) : List (Int ⊕ List Nat) := keyToks (dT p.1)
noncomputable def pairKind (h : Heap) (ps : List (List Int × PyData)) : PyProof.Rows.KeyKind where
  toKeyOrd := listOrd itemOrd
  keyOf v := open Classical in if q : ∃ p, p ∈ ps ∧ ∃ as, Reads h v (pD p) as then some (fToks q.choose) else none
  dflt := ([] : List (Int ⊕ List Nat))
theorem alike_TT (S T : List Int) : alike (dT S) (dT T) = true := by
  show alike (.tuple _) (.tuple _) = true
  rw [alike]
  exact alike_ints S T
theorem pD_inv {h : Heap} {v : Value} {p : List Int × PyData} {as : List Addr} (r : Reads h v (pD p) as) : ∃ a o f g n a1 a2, v = .ref a ∧ h.get? a = some o ∧ o.cls = .type "tuple" ∧ o.data = .seq #[f, g] n ∧ Reads h f (dT p.1) a1 ∧ Reads h g p.2 a2 := by
  unfold pD at r
  cases r with
  | @tuple a o xs n _ _ ho hc hd hr =>
    cases q : xs.toList with
    | nil => rw [q] at hr; cases hr
    | cons f fr =>
      rw [q] at hr
      cases hr with
      | cons r1 r2 =>
        cases r2 with
        | cons r3 r4 =>
          cases r4
          have : xs = #[_, _] := Array.toList_inj.mp q
          subst this
          exact ⟨a, o, _, _, n, _, _, rfl, ho, hc, hd, r1, r3⟩
theorem pD_first {h : Heap} {v : Value} {p q : List Int × PyData} {as bs : List Addr} (r : Reads h v (pD p) as) (r' : Reads h v (pD q) bs) : dT p.1 = dT q.1 := by
  obtain ⟨a, o, f, g, n, a1, a2, rfl, h1, h2, h3, h4, h5⟩ := pD_inv r
  obtain ⟨a', o', f', g', n', a1', a2', e, k1, k2, k3, k4, k5⟩ := pD_inv r'
  cases e
  rw [h1] at k1
  cases k1
  rw [h3] at k3
  cases k3
  exact alike_unique _ _ _ _ _ (alike_TT _ _) h4 k4
theorem pk_some {h : Heap} {ps : List (List Int × PyData)} {v : Value} {p : List Int × PyData} {as : List Addr} (hp : p ∈ ps) (r : Reads h v (pD p) as) : (pairKind h ps).keyOf v = some (fToks p) := by
  have q : ∃ p, p ∈ ps ∧ ∃ as, Reads h v (pD p) as := ⟨p, hp, as, r⟩
  show (open Classical in if q : ∃ p, p ∈ ps ∧ ∃ as, Reads h v (pD p) as then some (fToks q.choose) else none) = _
  rw [dif_pos q]
  obtain ⟨h1, as', h2⟩ := q.choose_spec
  have e := pD_first h2 r
  unfold fToks
  rw [e]
theorem pk_inv {h : Heap} {ps : List (List Int × PyData)} {v : Value} {k : List (Int ⊕ List Nat)} (e : (pairKind h ps).keyOf v = some k) : ∃ p as, p ∈ ps ∧ Reads h v (pD p) as ∧ k = fToks p := by
  by_cases q : ∃ p, p ∈ ps ∧ ∃ as, Reads h v (pD p) as
  · have e' : (pairKind h ps).keyOf v = some (fToks q.choose) := by
      show (open Classical in if q : ∃ p, p ∈ ps ∧ ∃ as, Reads h v (pD p) as then some (fToks q.choose) else none) = _
      rw [dif_pos q]
    obtain ⟨h1, as', h2⟩ := q.choose_spec
    rw [e'] at e
    exact ⟨_, as', h1, h2, (Option.some.inj e).symm⟩
  · have e' : (pairKind h ps).keyOf v = none := by
      show (open Classical in if q : ∃ p, p ∈ ps ∧ ∃ as, Reads h v (pD p) as then some (fToks q.choose) else none) = _
      rw [dif_neg q]
      rfl
    rw [e'] at e
    exact absurd e (by simp)
theorem eqT_iff (S T : List Int) : PyData.eqv (dT S) (dT T) = true ↔ S = T := by rw [eqv_T]; exact decide_eq_true_iff
section
variable {prog : Program} {w : World} {A : Around} {E : Value → Shared → Prop} {s : Shared}
theorem depT_le (T : List Int) : (dT T).depth ≤ 1 := by
  show PyData.depth (.tuple _) ≤ 1
  rw [PyData.depth]
  have h2 : PyData.depthAll (T.map PyData.int) = 0 := depth_ints T
  omega
theorem dep_pD (p : List Int × PyData) (h : p.2.depth ≤ 1) : (pD p).depth ≤ 2 := by
  have h1 := depT_le p.1
  unfold pD
  rw [PyData.depth.eq_def]
  show PyData.depthAll [_, _] + 1 ≤ 2
  rw [PyData.depthAll, PyData.depthAll, PyData.depthAll]
  omega
theorem SortsAt.pairs {vs : List Value} {ps : List (List Int × PyData)} (e : EachIs (fun v p => ∃ as, Reads s.heap v (pD p) as) vs ps) (hd : ∀ p ∈ ps, ∀ q ∈ ps, p.1 = q.1 → p = q) (hal : ∀ p ∈ ps, alike p.2 p.2 = true ∧ p.2.depth ≤ 1) (hu : A.units + 8 < cLine) : SortsAt prog w A s (pairKind s.heap ps) vs := by
  refine ⟨fun v hv => ?_, ?_⟩
  · obtain ⟨d, hd, as, r⟩ := e.left v hv
    exact ⟨_, pk_some hd r⟩
  · refine ⟨tuples' false, ?_, fun h2 E Q hq => ?_⟩
    · intro E x y a b Q ha hb hq
      obtain ⟨p, as, hp, ra, rfl⟩ := pk_inv ha
      obtain ⟨q, as', hq', rb, rfl⟩ := pk_inv hb
      have hq1 : Q (dataLt (dT p.1) (dT q.1)) s := hq
      by_cases hpq : p.1 = q.1
      · have epq := hd p hp q hq' hpq
        subst epq
        have hz : Q (dataLt (dT p.1) (dT p.1)) s := hq
        have e0 : dataLt (dT p.1) (dT p.1) = false := lex_irrefl _
        rw [e0] at hz
        have e1 : lexLt itemOrd (keyToksAll [dT p.1, p.2]) (keyToksAll [dT p.1, p.2]) = false := lex_irrefl _
        rw [← e1] at hz
        unfold pD at ra rb
        cases ra with
        | @tuple l o xs n _ _ h1 h2 h3 h4 =>
          cases rb with
          | @tuple l' o' xs' n' _ _ k1 k2 k3 k4 =>
            have n1 : xs.size = [dT p.1, p.2].length := by simpa using SeqAt.ReadsAll.length _ _ _ h4
            have n2 : xs'.size = [dT p.1, p.2].length := by simpa using SeqAt.ReadsAll.length _ _ _ k4
            have hdep : PyData.depthAll [dT p.1, p.2] ≤ 2 := by
              have h1 := depT_le p.1
              have h2 := (hal p hp).2
              rw [PyData.depthAll, PyData.depthAll, PyData.depthAll]
              omega
            refine kat_lt h1 h3 k1 k3 (katLex_alike [dT p.1, p.2] [dT p.1, p.2] 0 _ _ _ _ h4 k4 (by rw [alikeAll, alikeAll, alikeAll, alike_TT, (hal p hp).1]; rfl) (by omega) (fun hb => by cases hb) (by rw [n1, n2]) hz)
      · obtain ⟨l, o, f, g, n, a1, a2, rfl, h1, h2, h3, h4, h5⟩ := pD_inv ra
        obtain ⟨l', o', f', g', n', a1', a2', rfl, k1, k2, k3, k4, k5⟩ := pD_inv rb
        have hne : PyData.eqv (dT p.1) (dT q.1) = false := by
          cases z : PyData.eqv (dT p.1) (dT q.1) with
          | false => rfl
          | true => exact absurd ((eqT_iff _ _).mp z) hpq
        have d1 := depT_le p.1
        refine kat_lt h1 h3 k1 k3 ?_
        show KatLex prog w A false _ _ [(f, f'), (g, g')] 0 s
        refine kat_cons (eqAt_alike (dT p.1) (dT q.1) A s f f' _ _ h4 k4 (alike_TT _ _) (by omega) prog w _ _ ?_)
        rw [hne]
        refine kat_no ?_
        show wpAny (model prog w) A (oneLt' false f f') Q (fun _ _ => False) s
        refine kat_one f f' ?_
        exact rcLt_alike (dT p.1) (dT q.1) A s f f' _ _ h4 k4 (alike_TT _ _) (by intro z; cases z) (by omega) prog w _ _ hq1
    · have e2 : EachIs (fun v d => ∃ as, Reads s.heap v d as) vs (ps.map pD) := each_map (R := fun v d => ∃ as, Reads s.heap v d as) pD e
      obtain ⟨fs, t1, t2, t3⟩ := each_katTups e2 fun d hd => by
        obtain ⟨p, _, rfl⟩ := List.mem_map.mp hd
        exact ⟨_, _, rfl⟩
      have := kat_kind (M := model prog w) (A := A) (E := E) (Q := Q) (T := .type "tuple") t1 (by omega) (fun f hf => ?_) (beq_self_eq_true _) (by
        have ez : ((Value.type "tuple") != Value.type "tuple") = false := by first | decide +kernel | rfl | decide
        rw [ez]
        exact hq)
      · exact this
      · obtain ⟨x, r, as, m1, m2⟩ := t3 f hf
        obtain ⟨p, _, ep⟩ := List.mem_map.mp m1
        unfold pD at ep
        injection ep with ep
        injection ep with ep _
        rw [← ep] at m2
        exact looks_reads m2
/-- the pairs by their firsts -/
abbrev pLe : List Int × PyData → List Int × PyData → Bool := sortLe (listOrd itemOrd) false fToks
theorem sorted_pairsD {l : Addr} {vs : List Value} {ps : List (List Int × PyData)} {R : Value → List Int × PyData → Prop} {Q : Value → Shared → Prop} (hl : s.heap.IsList l vs.toArray) (eR : EachIs R vs ps) (er : EachIs (fun v p => ∃ as, Reads s.heap v (pD p) as) vs ps)
    (hd : ∀ p ∈ ps, ∀ q ∈ ps, p.1 = q.1 → p = q) (hal : ∀ p ∈ ps, alike p.2 p.2 = true ∧ p.2.depth ≤ 1) (hL : ps.length ≤ sizeLine) (hu : A.units + 16 < cLine)
    (h : ∀ out, out.length = ps.length → EachIs R out (ps.mergeSort pLe) → Q (.ref (s.heap.objs.size + 1)) { s with heap := sortedAll s.heap vs (List.toArray out) }) : wpAny (model prog w) A (call (.builtin "sorted") [.ref l]) Q E s := by
  have er' : EachIs (fun v p => ∃ as, Reads (sortingHeap (copyHeap s.heap vs) (s.heap.objs.size + 1) vs) v (pD p) as) vs ps := er.mono fun _ _ ⟨as, r⟩ => ⟨as, PyProof.Rows.Reads.keeps (fun _ _ => sorting_copy_old) r⟩
  refine sorted_vals hl (SortsAt.pairs (s := { s with heap := sortingHeap (copyHeap s.heap vs) (s.heap.objs.size + 1) vs }) er' hd hal (by show A.units + 1 + 1 + 8 < cLine; omega)) (by rw [eR.length]; exact hL)
    (h _ (by rw [sortVals_length false rfl]; exact eR.length) (sortVals_each (κ := pairKind (sortingHeap (copyHeap s.heap vs) (s.heap.objs.size + 1) vs) ps) fToks eR ((each_mem er').mono fun _ _ ⟨⟨_, r⟩, hp⟩ => pk_some hp r)))
end
end KC
namespace KC
open PySem L2 PySem.Spec PyProof.Rows
section
variable {X : Cx} {H : Hp}
theorem isDs_of_eachP : ∀ {us : List Value} {ps : List (List Int × PyData)}, PySem.W.EachIs (fun u p => ∃ x : V, RelV x u ∧ IsD H x (pD p)) us ps → ∃ ys, Vals ys us ∧ IsDs H ys (ps.map pD)
  | _, _, .nil => ⟨[], .nil, .nil⟩
  | _, _, .cons ⟨x, r, h⟩ t => by
    obtain ⟨ys, q1, q2⟩ := isDs_of_eachP t
    exact ⟨x :: ys, .cons r q1, .cons h q2⟩
theorem each_of_isDsP : ∀ {xs : List V} {us : List Value} {ps : List (List Int × PyData)}, IsDs H xs (ps.map pD) → Vals xs us → PySem.W.EachIs (fun u p => ∃ x : V, RelV x u ∧ IsD H x (pD p)) us ps
  | xs, us, [], h, r => by
    rw [List.map_nil] at h
    cases h
    cases r
    exact .nil
  | xs, us, p :: ps, h, r => by
    rw [List.map_cons] at h
    cases h with
    | cons h1 h2 =>
      cases r with
      | cons r1 r2 => exact .cons ⟨_, r1, h1⟩ (each_of_isDsP h2 r2)
/-- sorted(xs), xs a list of pairs with different firsts -/
def rSortP (K : PySem.W.Frag) : List V → Hp → VK → Prop := fun vs H Q => ∃ (a : Addr) (xs : List V) (ps : List (List Int × PyData)), vs = [.ref a] ∧ SqL K H a xs ∧ IsDs H xs (ps.map pD) ∧ (∀ p ∈ ps, ∀ q ∈ ps, p.1 = q.1 → p = q) ∧ (∀ p ∈ ps, PySem.W.alike p.2 p.2 = true ∧ p.2.depth ≤ 1) ∧ ps.length ≤ sizeLine ∧
  ∀ ys p, IsDs H ys ((ps.mergeSort pLe).map pD) → H p = none → Q (.ref p) (upd H p (.lst ys))
theorem cr_sortP (hu : X.A.units + 64 < cLine) : CallR X (.builtin "sorted") (rSortP X.K) := by
  intro pins s σ H vs us Q I r h
  obtain ⟨a, xs, ps, rfl, hs, hd, hdis, hal, hz, q⟩ := h
  obtain ⟨u, rfl, ru⟩ := vals1 r
  cases ru
  obtain ⟨its, rv, hl, _⟩ := I.list hs
  have l1 := rv.length
  have l2 := hd.length
  have e0 := each_of_isDsP hd rv
  have er : PySem.W.EachIs (fun v p => ∃ as, Reads s.heap v (pD p) as) its ps := e0.mono fun u d ⟨x, rx, hx⟩ => Dp.reads I (pD d) x u hx.dp rx
  refine sorted_pairsD hl.isList e0 er hdis hal hz (by omega) fun out ho hout => ?_
  obtain ⟨ys, q1, q2⟩ := isDs_of_eachP hout
  have ly := q1.length
  have kp : ∀ b o, s.heap.get? b = some o → (sortedAll s.heap its out.toArray).get? b = some o := fun b o e => sortedAll_old e
  obtain ⟨n, hn⟩ := sortedAll_at s.heap its out.toArray
  have hf := I.hok.fresh (Nat.le_succ s.heap.objs.size)
  refine ⟨.ref (s.heap.objs.size + 1), _, I.laid (t' := s.toks) (o := .lst ys) kp (Nat.le_succ _) ⟨?_, out, n, q1, hn⟩, rfl, q ys _ q2 hf⟩
  omega
end
end KC
end

section
set_option Elab.async false
set_option linter.all false
set_option autoImplicit false
set_option maxRecDepth 100000
set_option maxHeartbeats 4000000
/-! Sets: set(a list), by what each added item brings; set - set. -/
namespace KC
open PySem L2 PySem.Spec PyProof.Rows
section
variable {P : Program} {w : World} {A : Around} {E : Value → Shared → Prop} {s : Shared}
abbrev bareSet (w : World) : Obj := { cls := .type "set", dict := none, data := .set #[] 0 (.fresh 0 0 (!w.params.followText "set-order")) }
/-- what holds of the set at S behind the first i items: Good leans on S's own object and on what stood -/
structure Filling (P : Program) (w : World) (A : Around) (S : Addr) (items : Array Value) (h0 : Heap) (Good : Nat → Heap → Prop) : Prop where
  start : ∀ h : Heap, h.get? S = some (bareSet w) → (∀ b o, h0.get? b = some o → h.get? b = some o) → Good 0 h
  there : ∀ (i : Nat) (h : Heap), Good i h → ∃ o, h.get? S = some o
  stay : ∀ (i : Nat) (h h' : Heap), Good i h → (∀ o, h.get? S = some o → h'.get? S = some o) → (∀ b o, h0.get? b = some o → h'.get? b = some o) → Good i h'
  add : ∀ (i : Nat) (v : Value) (s : Shared) (E : Value → Shared → Prop) (Q : Bool → Shared → Prop), items[i]? = some v → Good i s.heap → (∀ b o, h0.get? b = some o → s.heap.get? b = some o) →
    (∀ (r : Bool) (h' : Heap) (tk : Nat), s.toks ≤ tk → Heap.SameBut S s.heap h' → Good (i + 1) h' → Q r { s with heap := h', toks := tk }) → wpAny (model P w) A.in1 (setAdd S v) Q E s
theorem fill_loop {I : Addr} {fp wr : List Addr} {G : Array GenState → Array GenState → Prop} {Pv : Nat → Value → Prop} {St : Nat → Shared → Prop} {items : Array Value} {h0 : Heap} {Good : Nat → Heap → Prop} {S : Addr}
    (W : WalksS P w A.in1 I fp wr G items.size Pv St) (hS : S ∉ fp) (F : Filling P w A S items h0 Good) (hv : ∀ i v, Pv i v → items[i]? = some v) (hS0 : h0.get? S = none) (hw0 : ∀ b ∈ wr, h0.get? b = none) {R : Result → Shared → Prop} :
    ∀ (k i : Nat) (s : Shared), items.size - i = k → i ≤ items.size → St i s → (∀ b o, h0.get? b = some o → s.heap.get? b = some o) → Good i s.heap →
      (∀ s', Moved (S :: wr) G s s' → Good items.size s'.heap → (∀ b o, h0.get? b = some o → s'.heap.get? b = some o) → R (.ok (.ret .none)) s') →
      codeAny (model P w) A (.builtin "set.update.loop" ⟨[.ref S, .ref I], []⟩) R s := by
  have hSw : S ∉ wr := fun z => hS (W.sub _ z)
  have hin : ∀ b ∈ wr, b ∈ S :: wr := fun b hb => List.mem_cons_of_mem _ hb
  have old : ∀ {s s' : Shared}, Moved wr G s s' → (∀ b o, h0.get? b = some o → s.heap.get? b = some o) → ∀ b o, h0.get? b = some o → s'.heap.get? b = some o := fun mv kp b o e =>
    mv.heap b o (fun hb => by rw [hw0 b hb] at e; cases e) (kp b o e)
  intro k
  induction k with
  | zero =>
    intro i s hk hi hst kp g hR
    obtain rfl : i = items.size := by omega
    refine codeAny_builtin PyProof.Rows.F.entry_set_update_loop ?_
    rw [Around.under_plainId PyProof.Rows.F.plain_set_update_loop _]
    show wpAny _ A.in1 (pyNext (.ref I) >>= _) _ _ s
    refine wpAny_bind (W.done s _ _ hst fun s' mv => ?_)
    show wpAny _ A.in1 (ret Value.none) _ _ s'
    exact wpAny_pure (hR s' (mv.mono hin) (F.stay _ _ _ g (fun o e => mv.heap S o hSw e) (old mv kp)) (old mv kp))
  | succ k ih =>
    intro i s hk hi hst kp g hR
    have hlt : i < items.size := by omega
    refine codeAny_builtin PyProof.Rows.F.entry_set_update_loop ?_
    rw [Around.under_plainId PyProof.Rows.F.plain_set_update_loop _]
    show wpAny _ A.in1 (pyNext (.ref I) >>= _) _ _ s
    refine wpAny_bind (W.item i s _ _ hlt hst fun v s' hP hst' mv => ?_)
    have kp1 := old mv kp
    have g1 : Good i s'.heap := F.stay _ _ _ g (fun o e => mv.heap S o hSw e) kp1
    show wpAny _ A.in1 (holding [v] (setAdd S v) >>= _) _ _ s'
    refine wpAny_bind (wpAny_holding ?_)
    refine F.add i v s' _ _ (hv i v hP) g1 kp1 fun r h' tk htk hsb g2 => ?_
    have kp2 : ∀ b o, h0.get? b = some o → h'.get? b = some o := fun b o e => (hsb.2 b (fun z => by rw [z, hS0] at e; cases e)).trans (kp1 b o e)
    refine wpAny_pure ⟨plainId_quiet PyProof.Rows.F.plain_set_update_loop _, ih (i + 1) _ (by omega) hlt (W.frame _ s' _ _ hst' htk fun b hb o e => ?_) kp2 g2 fun s2 mv2 g3 kp3 => ?_⟩
    · exact (hsb.2 b fun z => hS (by rw [← z]; exact hb)).trans e
    · refine hR s2 (Moved.trans W.gtrans ((mv.mono hin).then_heap htk fun b o hb e => ?_) mv2) g3 kp3
      exact (hsb.2 b fun z => hb (by rw [z]; exact List.mem_cons_self)).trans e
/-- set(xs) of a list -/
theorem set_of_list {l : Addr} {items : Array Value} {Good : Nat → Heap → Prop} {Q : Value → Shared → Prop} (hh : A.handled = none) (hl : s.heap.IsList l items) (F : Filling P w A.in1.in1 s.heap.objs.size items s.heap Good)
    (h : ∀ (h' : Heap) (tk : Nat), Good items.size h' → (∀ b o, s.heap.get? b = some o → h'.get? b = some o) → Q (.ref s.heap.objs.size) { s with heap := h', toks := tk }) :
    wpAny (model P w) A (call (.type "set") [.ref l]) Q E s := by
  obtain ⟨c, tl, hmro⟩ := PySem.F.called_set.mro
  have hmade := PySem.F.called_set.made
  have hsub := PySem.F.called_set.sub
  refine wpAny_call (codeAny_of_tree ?_)
  show wpAny _ _ (callAny (.type "set") _) _ _ _
  refine wpAny_pure ⟨Code.quiet_builtin _ (by decide +kernel), codeAny_builtin PySem.F.entry_type_call ?_⟩
  rw [Around.under_plain (weight_type_call_type "set" [.ref l] []) rfl]
  have h1 := PySem.F.called_set.notType
  have h2 := PySem.F.called_set.canCreate
  have hct := PySem.F.typeCall_set_1 (.ref l)
  repeat (any_goals (first | assumption | wp_step))
  refine codeAny_mono (code_set_led1 (.ref l) (E := E) (Q₁ := fun obj s1 => obj = .ref s.heap.objs.size ∧ s1 = { s with heap := s.heap.push (bareSet w) }) ⟨rfl, rfl⟩) fun r s1 hr => ?_
  cases r with
  | error e => exact hr
  | ok fl =>
    cases fl with
    | ret obj =>
      obtain ⟨rfl, rfl⟩ := hr
      have hS : (s.heap.push (bareSet w)).get? s.heap.objs.size = some (bareSet w) := Heap.get?_push_size _ rfl
      have hT : Shared.TypeIs { s with heap := s.heap.push (bareSet w) } (.ref s.heap.objs.size) "set" := ⟨_, hS, rfl⟩
      have hli := PySem.F.called_set.init.lookup
      have hbi := PySem.F.called_set.init.bind (.ref s.heap.objs.size)
      repeat (any_goals (first | assumption | wp_step))
      refine codeAny_mono (codeAny_call_builtin (R := wants (fun r s2 => r = .none ∧ ∃ h' tk, s2 = { s with heap := h', toks := tk } ∧ Good items.size h' ∧ ∀ b o, s.heap.get? b = some o → h'.get? b = some o) E) PySem.F.called_set.init.plain PySem.F.entry_set_init (check_set_init_1 hT ?_)) fun r2 s2 hr2 => ?_
      · obtain ⟨ol, hol, hcl, nl, hdl⟩ := hl
        obtain ⟨ocls, odict, odata, oslots⟩ := ol
        simp only at hcl hdl
        subst hcl; subst hdl
        have hol' : (s.heap.push (bareSet w)).get? l = some { cls := .type "list", dict := odict, data := .seq items nl, slots := oslots } := Heap.get?_push_of_some _ hol
        have hsls := PySem.F.sub_list_set
        have hslf := PySem.F.sub_list_frozenset
        have hne : (Value.type "list" == Value.type "dict") = false := by decide
        have hl1 : (s.heap.push (bareSet w)).IsList l items := ⟨_, hol', rfl, nl, rfl⟩
        unfold Builtin.«set.__init__» noKeywords Builtin.Frozenset.updateFrom
        generalize hPI : pyIter = PI
        wp_walk
        subst hPI
        refine wpAny_pyIter_list hl1 ?_
        refine wpAny_bind (wpAny_runValue ?_)
        have hlS : l < s.heap.objs.size := Heap.lt_size hol
        have hh3 : A.in1.in1.in1.handled = none := by simp [hh]
        have hsz : (s.heap.push (bareSet w)).objs.size = s.heap.objs.size + 1 := Heap.size_push ..
        have hneI : l ≠ (s.heap.push (bareSet w)).objs.size := by rw [hsz]; exact Nat.ne_of_lt (Nat.lt_succ_of_lt hlS)
        have hSf : s.heap.objs.size ∉ [(s.heap.push (bareSet w)).objs.size, l] := by
          rw [hsz]
          simp only [List.mem_cons, List.not_mem_nil, or_false, not_or]
          exact ⟨Nat.ne_of_lt (Nat.lt_succ_self _), Nat.ne_of_gt hlS⟩
        have gone : ∀ b, s.heap.objs.size ≤ b → s.heap.get? b = none := fun b hb => Heap.get?_none_of_le hb
        have kp0 : ∀ b o, s.heap.get? b = some o → ((s.heap.push (bareSet w)).push { cls := .type "list_iterator", data := .fields #[.ref l, .int 0 0] }).get? b = some o := fun b o e => Heap.get?_push_of_some _ (Heap.get?_push_of_some _ e)
        refine fill_loop (h0 := s.heap) (Good := Good) ((Walks.list hh3 _ l hneI items).toS) hSf F (fun _ _ e => e) (gone _ (Nat.le_refl _)) (fun b hb => gone b (by rw [List.mem_singleton.mp hb, hsz]; exact Nat.le_succ _))
          (items.size - 0) 0 _ (by omega) (Nat.zero_le _) ⟨⟨_, Heap.get?_push_size _ rfl, rfl, rfl⟩, hl1.push _⟩ kp0 (F.start _ (Heap.get?_push_of_some _ hS) kp0) fun s' mv g kp => ?_
        obtain ⟨h', g2, d', tk', os'⟩ := s'
        have eg : g2 = s.gens := mv.gens
        have ed : d' = s.drawn := mv.drawn
        have eo : os' = s.os := mv.os
        subst eg; subst ed; subst eo
        show wpAny _ _ _ _ _ _
        refine wpAny_pure ?_
        show wpAny _ _ (ret Value.none) _ _ _
        exact wpAny_pure ⟨rfl, h', tk', rfl, g, kp⟩
      · cases r2 with
        | error e => exact hr2
        | ok fl2 =>
          cases fl2 with
          | ret r =>
            obtain ⟨rfl, h', tk, rfl, g, kp⟩ := hr2
            repeat (any_goals (first | assumption | wp_step))
            exact h _ _ g kp
          | _ => exact hr2.elim
    | _ => exact hr.elim
/-- .. of ints -/
theorem filling_ints {S : Addr} {items : Array Value} {ns : List Int} {h0 : Heap} (hi : IntsAre items.toList ns) (hb : ns.length + 1 < scanBound) :
    Filling P w A S items h0 (fun i h => ∃ c, c ≤ i ∧ SetR w h S (fun j => decide (j ∈ ns.take i)) c) where
  start := fun h e _ => ⟨0, Nat.le_refl 0, setR_new_at e⟩
  there := fun i h ⟨c, _, R⟩ => by obtain ⟨o, _, _, _, e, _⟩ := R; exact ⟨o, e⟩
  stay := fun i h h' ⟨c, hc, R⟩ k _ => ⟨c, hc, R.at k⟩
  add := fun i v s E Q hv ⟨c, hc, R⟩ kp k => by
    have hsz : items.size = ns.length := by
      have q := IntsAre.length hi
      rw [Array.length_toList] at q
      exact q
    have hil : i < ns.length := by rw [← hsz]; exact (Array.getElem?_eq_some_iff.mp hv).1
    obtain ⟨t, e⟩ := PyProof.Rows.IntsAre.int_at hi i v (by rw [Array.getElem?_toList]; exact hv)
    have e2 : v = .int ns[i] t := by rw [e, List.getD_eq_getElem?_getD, List.getElem?_eq_getElem hil]; rfl
    subst e2
    unfold setAdd
    refine wpAny_holding ?_
    refine wpAny_bind ((intKind P w).pyHash (k := ns[i]) (intKind_is _ _ _ _) ?_)
    have hj : ∀ j : Int, decide (j ∈ ns.take (i + 1)) = (decide (j ∈ ns.take i) || decide (j = ns[i])) := fun j => by
      rw [List.take_add_one, List.getElem?_eq_getElem hil]
      simp only [Option.toList_some, List.mem_append, List.mem_singleton, Bool.decide_or]
    have hc2 : (if decide (ns[i] ∈ ns.take i) = true then c else c + 1) ≤ i + 1 := by split <;> omega
    refine setR_add_hashed (s := { s with toks := s.toks + 1 }) R (by omega) fun h' hsb R2 => ?_
    exact k _ h' (s.toks + 1) (Nat.le_succ _) hsb ⟨_, hc2, R2.congr hj⟩
end
section
variable {X : Cx} {pins : List (Addr × Obj)} {σ : L2.St} {H : Hp} {s : Shared}
/-- set(xs), xs a list or a tuple of ints -/
def rSetI (K : PySem.W.Frag) (w : World) : List V → Hp → VK → Prop := fun xs H Q => ∃ (l : Addr) (ns : List Int), xs = [V.ref l] ∧ (SqL K H l (ns.map V.int) ∨ SqT K H l (ns.map V.int)) ∧ ns.length < 50 ∧
  ∀ a c, H a = none → c ≤ ns.length → Q (.ref a) (upd H a (SetO w a (fun j => decide (j ∈ ns)) c))
theorem scan50 : 51 < scanBound := by decide
theorem cr_setI (hc : X.calm = true) : CallR X (.type "set") (rSetI X.K X.w) := by
  intro pins s σ H xs us Q I r h
  obtain ⟨l, ns, rfl, hs, hf, q⟩ := h
  obtain ⟨u, rfl, ru⟩ := vals1 r
  cases ru
  have hb : ns.length + 1 < scanBound := by have := scan50; omega
  have hn : H s.heap.objs.size = none := I.hok.fresh (Nat.le_refl _)
  rcases hs with hs | hs
  · obtain ⟨its, rv, pl, hz⟩ := I.list hs
    have hi : IntsAre its.toArray.toList ns := by simpa using Vals.ints rv
    refine set_of_list (P := X.prog) (w := X.w) (I.ok.hd hc) pl.isList (filling_ints hi hb) fun h' tk g kp => ?_
    obtain ⟨c, hc, R⟩ := g
    have hl : its.toArray.size = ns.length := by rw [List.size_toArray, ← rv.length, List.length_map]
    rw [hl, List.take_length] at R
    exact ⟨.ref s.heap.objs.size, _, I.laid (t' := tk) kp (Nat.le_refl _) (setO_new R), rfl, q _ c hn (by omega)⟩
  · obtain ⟨its, rv, ⟨o, ho, hcl, n, hd⟩, hz⟩ := I.tuple hs
    have hi : IntsAre its.toArray.toList ns := by simpa using Vals.ints rv
    refine call_set_tupI (P := X.prog) (w := X.w) ns (I.ok.hd hc) ⟨o, ho, hcl, n, hd⟩ hi hb fun h' tk c R hc kp => ?_
    exact ⟨.ref s.heap.objs.size, _, I.laid (t' := tk) kp (Nat.le_refl _) (setO_new R), rfl, q _ c hn hc⟩
end
end KC
end

section
set_option Elab.async false
set_option linter.all false
set_option autoImplicit false
set_option maxRecDepth 100000
set_option maxHeartbeats 4000000
/-! set - set, of ints. -/
namespace KC
open PySem L2 PySem.Spec PyProof.Rows
section
variable {P : Program} {w : World} {A : Around} {E : Value → Shared → Prop} {s : Shared}
theorem entry_set_sub : entryFor table "set.__sub__" = some Builtin.«frozenset.__sub__» := entryFor_alias (id' := "frozenset.__sub__") (by kernel_rfl) rfl (by decide +kernel) (by kernel_rfl)
theorem entry_set_eq : entryFor table "set.__eq__" = some Builtin.«frozenset.__eq__» := entryFor_alias (id' := "frozenset.__eq__") (by kernel_rfl) rfl (by decide +kernel) (by kernel_rfl)
theorem sub_set_frozen : isSubtype (.type "set") (.type "frozenset") = pure false := by rw [isSubtype_type]; kernel_rfl
/-- what is a set of ints -/
def IntSet (P : Program) (w : World) (h : Heap) (a : Addr) : Prop := ∃ S n, h.SetOf (intKind P w) a S n
theorem elems_ints {l : List (Int × Value)} (h : ElemsOf (intKind P w) l) : ∀ e ∈ l, ∃ k t, e.2 = Value.int k t ∧ e.1 = hashInt k := fun e he => by
  obtain ⟨⟨k, hk, hh⟩, _⟩ := h e he
  obtain ⟨t, et⟩ := Value.isInt_shape hk
  exact ⟨k, t, et, hh⟩
/-- ints are quiet -/
theorem quiet_ints {l : List Addr} (h : ∀ a ∈ l, IntSet P w s.heap a) {Q : Bool → Shared → Prop} (hq : Q true s) : wpAny (model P w) A (setsQuiet l) Q E s := by
  unfold setsQuiet
  refine wpAny_bind (wpAny_forIn_list _ (fun rest r s' => r.1 = none ∧ s' = s ∧ ∀ a ∈ rest, IntSet P w s.heap a) _ ?_ ?_ _ _ ⟨rfl, rfl, h⟩)
  · rintro a rest r s' ⟨hr, rfl, hall⟩
    obtain ⟨S, n, o, es, ep, t, ho, hx, hd, hel, hm, hb, hf, hn⟩ := hall a List.mem_cons_self
    refine wpAny_bind (wpAny_setEntries_of ho hd hf ?_)
    refine wpAny_bind ?_
    show wpAny _ _ (forIn es _ _) _ _ _
    rw [← Array.forIn_toList]
    refine wpAny_forIn_list _ (fun rest r s2 => r.1 = none ∧ s2 = s' ∧ ∀ e ∈ rest, ∃ k t, e.2 = Value.int k t ∧ e.1 = hashInt k) _ ?_ ?_ _ _ ⟨rfl, rfl, elems_ints hel⟩
    · rintro ⟨hx, x⟩ rest2 r2 s2 ⟨hr2, rfl, hall2⟩
      obtain ⟨k, t, e1, e2⟩ := hall2 (hx, x) List.mem_cons_self
      have e1 : x = Value.int k t := e1
      subst e1
      exact wpAny_pure ⟨rfl, rfl, fun e he => hall2 e (List.mem_cons_of_mem _ he)⟩
    · rintro ⟨b1, b2⟩ s2 ⟨hr2, rfl, _⟩
      simp only at hr2
      subst hr2
      exact wpAny_pure ⟨rfl, rfl, fun a ha => hall a (List.mem_cons_of_mem _ ha)⟩
  · rintro ⟨b1, b2⟩ s' ⟨hr, rfl, _⟩
    simp only at hr
    subst hr
    exact wpAny_pure hq
/-- SetOf is kept by other flags -/
theorem setOf_flags {h : Heap} {a : Addr} {S : Int → Bool} {n : Nat} (H : h.SetOf (intKind P w) a S n) {o : Obj} {es : Array (Int × Value)} {ep : Nat} {t : SetTable} (ho : h.get? a = some o) (hd : o.data = .set es ep t) (x y : Bool) :
    (h.update a (Obj.putSet es { t with led := x, plain := y })).SetOf (intKind P w) a S n := by
  obtain ⟨o', es', ep', t', ho', hx, hd', hel, hm, hb, hf, hn⟩ := H
  rw [ho] at ho'
  cases ho'
  rw [hd] at hd'
  cases hd'
  have := (SetOf_store (knd := intKind P w) (es' := es) (t' := { t with led := x, plain := y }) ho hx hd hel hm hb hf).2
  rw [hn] at this
  exact this
/-- the walk of a set of ints that nobody sees: its entries in some order -/
theorem walk_ints {a r : Addr} {others : List Addr} {S T : Int → Bool} {n m : Nat} {o : Obj} {es : Array (Int × Value)} {ep : Nat} {t : SetTable} (ha : s.heap.SetOf (intKind P w) a S n) (ho : s.heap.get? a = some o) (hd : o.data = .set es ep t) (hf : t.fits es.size = true)
    (hr : s.heap.SetOf (intKind P w) r T m) (hra : r ≠ a) (hoth : ∀ b ∈ others, IntSet P w s.heap b) {Q : Array (Int × Value) → Shared → Prop}
    (h : ∀ (es' : Array (Int × Value)) (h' : Heap) (d' : Drawn), es'.toList.Perm es.toList → Heap.SameBut r s.heap h' → h'.SetOf (intKind P w) r T m → Q es' { s with heap := h', drawn := d' }) :
    wpAny (model P w) A (setWalkUnseen a others (some r)) Q E s := by
  by_cases hbt : w.params.followText "set-order" = true
  · unfold setWalkUnseen
    refine wpAny_bind (wpAny_setState_of ho hd hf (wpAny_bind (wpAny_byText ?_)))
    refine wp_if_pos (by simp [hbt]) ?_
    unfold setWalk
    refine wpAny_bind (wpAny_setState_of ho hd hf (wpAny_bind (wpAny_byText ?_)))
    refine wp_if_pos hbt ?_
    exact wpAny_bind (wpAny_askSetting (wpAny_pure (h _ s.heap s.drawn (pick_perm _ es) (Heap.SameBut.refl _ _) hr)))
  · have hbf : w.params.followText "set-order" = false := by simpa using hbt
    by_cases hpl : (t.led && t.plain || decide (es.size ≤ 1)) = true
    · unfold setWalkUnseen
      refine wpAny_bind (wpAny_setState_of ho hd hf (wpAny_bind (wpAny_byText ?_)))
      refine wp_if_pos (by rw [hbf, Bool.false_or]; exact hpl) ?_
      unfold setWalk
      refine wpAny_bind (wpAny_setState_of ho hd hf (wpAny_bind (wpAny_byText ?_)))
      refine wp_if_neg hbt ?_
      try refine wpAny_bind (wpAny_pure ?_)
      refine wp_if_neg (by
        show ¬ ((!t.plain && decide (es.size > 1)) = true)
        intro q
        simp only [Bool.and_eq_true, Bool.not_eq_true', decide_eq_true_eq] at q
        simp only [Bool.or_eq_true, Bool.and_eq_true, decide_eq_true_eq] at hpl
        rcases hpl with ⟨_, p⟩ | p
        · rw [q.1] at p; cases p
        · omega) ?_
      try refine wpAny_bind (wpAny_pure ?_)
      refine wpAny_bind (wpAny_of_eq (a := ()) ?_ ?_)
      · show (if (!t.led && decide (es.size > 1)) = true then unsupported "set:maker-not-led" else pure ()) = pure ()
        rw [if_neg (by
          intro q
          simp only [Bool.and_eq_true, Bool.not_eq_true', decide_eq_true_eq] at q
          simp only [Bool.or_eq_true, Bool.and_eq_true, decide_eq_true_eq] at hpl
          rcases hpl with ⟨p, _⟩ | p
          · rw [q.1] at p; cases p
          · omega)]
      · exact wpAny_pure (h es s.heap s.drawn (List.Perm.refl _) (Heap.SameBut.refl _ _) hr)
    · unfold setWalkUnseen
      refine wpAny_bind (wpAny_setState_of ho hd hf (wpAny_bind (wpAny_byText ?_)))
      refine wp_if_neg (by rw [hbf, Bool.false_or]; exact hpl) ?_
      try refine wpAny_bind (wpAny_pure ?_)
      refine wpAny_bind (quiet_ints (P := P) (w := w) (fun b hb => ?_) ?_)
      · rcases List.mem_cons.mp hb with rfl | hb
        · exact ⟨S, n, ha⟩
        · exact hoth b hb
      refine wp_if_neg (by simp) ?_
      try refine wpAny_bind (wpAny_pure ?_)
      refine wpAny_bind (wpAny_rule ?_)
      obtain ⟨or, er, epr, tr, hor, hxr, hdr, helr, hmr, hbr, hfr, hnr⟩ := id hr
      show wpAny (model P w) A (setState r >>= _) Q E s
      refine wpAny_bind (wpAny_setState_of hor hdr hfr ?_)
      dsimp only
      split
      · refine wpAny_bind (wpAny_storeSet_of hor hdr ?_ (fits_of_scanBound hbr))
        refine wpAny_pure ?_
        exact h es _ s.drawn (List.Perm.refl _) (Heap.SameBut.update _ _ _) (setOf_flags hr hor hdr _ _)
      · refine wpAny_pure ?_
        exact h es s.heap s.drawn (List.Perm.refl _) (Heap.SameBut.refl _ _) hr
theorem isAny_set {M : Model} {a : Addr} (h : s.TypeIs (.ref a) "set") {Q : Bool → Shared → Prop} (hq : Q true s) : wpAny M A (Builtin.Frozenset.isAnySet (.ref a)) Q E s := by
  unfold Builtin.Frozenset.isAnySet
  show wpAny _ _ (isInstance (.ref a) (.type "set") >>= _) _ _ _
  refine wpAny_bind (wpAny_isInstance h sub_set_self ?_)
  exact wpAny_pure hq
theorem base_set {M : Model} {a : Addr} (h : s.TypeIs (.ref a) "set") {Q : Value → Shared → Prop} (hq : Q (.type "set") s) : wpAny M A (Builtin.Frozenset.baseOf a) Q E s := by
  unfold Builtin.Frozenset.baseOf
  refine wpAny_bind (wpAny_isInstance h sub_set_self ?_)
  exact wpAny_pure hq
theorem size_set {a : Addr} {S : Int → Bool} {n : Nat} (h : s.heap.SetOf (intKind P w) a S n) {Q : Nat → Shared → Prop} (hq : Q n s) : wpAny (model P w) A (Builtin.Frozenset.sizeOf a) Q E s := by
  obtain ⟨o, es, ep, t, ho, hx, hd, hel, hm, hb, hf, hn⟩ := h
  unfold Builtin.Frozenset.sizeOf
  refine wpAny_bind (wpAny_setEntries_of ho hd hf (wpAny_pure ?_))
  rw [hn]
  exact hq
theorem setOf_fresh {h : Heap} {led : Bool} : (h.push { cls := .type "set", dict := none, data := .set #[] 0 (.fresh 0 0 led) }).SetOf (intKind P w) h.objs.size (fun _ => false) 0 :=
  ⟨_, #[], 0, _, Heap.get?_push_size _ rfl, ⟨rfl, rfl, rfl⟩, rfl, (fun e he => by simp at he), (fun k => by simp), (by decide), (by rfl), rfl⟩
theorem setOf_at {h h' : Heap} {a : Addr} {S : Int → Bool} {n : Nat} (H : h.SetOf (intKind P w) a S n) (k : ∀ o, h.get? a = some o → h'.get? a = some o) : h'.SetOf (intKind P w) a S n := by
  obtain ⟨o, es, ep, t, ho, r⟩ := H
  exact ⟨o, es, ep, t, k o ho, r⟩
/-- a - b -/
theorem difference_ints {a b : Addr} {S T : Int → Bool} {n m : Nat} {nm : String} (hab : s.heap.SetOf (intKind P w) a S n) (hbb : s.heap.SetOf (intKind P w) b T m) (hn : n / 4 ≤ m) {Q : Value → Shared → Prop}
    (h : ∀ (r : Addr) (U : Int → Bool) (c : Nat) (h' : Heap) (d' : Drawn) (tk : Nat), s.heap.objs.size ≤ r → h'.SetOf (intKind P w) r U c → (∀ k, U k = (S k && !T k)) → (∀ x o, s.heap.get? x = some o → h'.get? x = some o) → Q (.ref r) { s with heap := h', drawn := d', toks := tk }) :
    wpAny (model P w) A (Builtin.Frozenset.difference nm a (.ref b)) Q E s := by
  obtain ⟨o, es, ep, t, ho, hx, hd, hel, hm, hb, hf, hsz⟩ := id hab
  obtain ⟨o2, es2, ep2, t2, ho2, hx2, hd2, hel2, hm2, hb2, hf2, hsz2⟩ := id hbb
  have hTa : s.TypeIs (.ref a) "set" := ⟨o, ho, hx.1⟩
  have hTb : s.TypeIs (.ref b) "set" := ⟨o2, ho2, hx2.1⟩
  unfold Builtin.Frozenset.difference
  refine wpAny_bind (isAny_set hTb ?_)
  refine wp_if_neg (by simp) ?_
  try refine wpAny_bind (wpAny_pure ?_)
  show wpAny (model P w) A (Builtin.Frozenset.sizeOf b >>= _) _ _ _
  refine wpAny_bind (size_set hbb ?_)
  refine wpAny_bind (size_set hab ?_)
  refine wp_if_neg (by omega) ?_
  try refine wpAny_bind (wpAny_pure ?_)
  refine wpAny_bind (base_set hTa ?_)
  unfold newSet
  refine wpAny_bind (wpAny_bind (wpAny_byText ?_))
  refine wpAny_newObj_type ?_
  generalize hh0 : s.heap.push { cls := .type "set", dict := none, data := .set #[] 0 (.fresh 0 0 (!w.params.followText "set-order")) } = h0
  have kp0 : ∀ x o, s.heap.get? x = some o → h0.get? x = some o := fun x o e => by rw [← hh0]; exact Heap.get?_push_of_some _ e
  have hR0 : h0.SetOf (intKind P w) s.heap.objs.size (fun _ => false) 0 := by rw [← hh0]; exact setOf_fresh
  have hra : s.heap.objs.size ≠ a := Nat.ne_of_gt (Heap.lt_size ho)
  have hrb : s.heap.objs.size ≠ b := Nat.ne_of_gt (Heap.lt_size ho2)
  unfold Builtin.Frozenset.addrOf
  refine wpAny_bind (wpAny_pure ?_)
  refine wpAny_bind (wpAny_setEpoch_of (kp0 a o ho) hd hf ?_)
  refine wpAny_bind (wpAny_holding ?_)
  simp only [if_true]
  refine wpAny_bind (walk_ints (P := P) (w := w) (setOf_at hab fun o e => kp0 a o e) (kp0 a o ho) hd hf hR0 hra (fun x hx => ?_) fun es' h1 d1 hperm hsb hR1 => ?_)
  · rcases List.mem_cons.mp hx with rfl | hx
    · exact ⟨T, m, setOf_at hbb fun o e => kp0 _ o e⟩
    · rw [List.mem_singleton.mp hx]
      exact ⟨_, _, hR0⟩
  have kp1 : ∀ x o, s.heap.get? x = some o → h1.get? x = some o := fun x o e => (hsb.2 x (fun z => by rw [z] at e; exact absurd (Heap.lt_size e) (Nat.lt_irrefl _))).trans (kp0 x o e)
  have hel' : ElemsOf (intKind P w) es'.toList := hel.perm hperm
  refine wpAny_bind ?_
  show wpAny _ _ (forIn es' _ _) _ _ _
  rw [← Array.forIn_toList]
  refine wpAny_forIn_list _ (fun rest _ s' => ∃ (done : List (Int × Value)) (h' : Heap) (tk : Nat) (U : Int → Bool) (c : Nat), s' = { s with heap := h', drawn := d1, toks := tk } ∧ done ++ rest = es'.toList ∧ h'.SetOf (intKind P w) s.heap.objs.size U c ∧ c ≤ done.length ∧
      (∀ k, U k = true ↔ T k = false ∧ ∃ e ∈ done, (intKind P w).is k e.2 = true) ∧ ∀ x o, s.heap.get? x = some o → h'.get? x = some o) _ ?_ ?_ _ _ ⟨[], h1, s.toks, _, _, rfl, rfl, hR1, Nat.le_refl _, fun k => by simp, kp1⟩
  · rintro ⟨hx, x⟩ rest _ s' ⟨done, h', tk, U, c, rfl, hdone, hU, hc, hmU, kp'⟩
    have hmem : (hx, x) ∈ es'.toList := by rw [← hdone]; simp
    obtain ⟨k, t', e1, e2⟩ := elems_ints hel' _ hmem
    have e1 : x = Value.int k t' := e1
    have e2 : hx = hashInt k := e2
    subst e1
    subst e2
    have hB' : h'.SetOf (intKind P w) b T m := setOf_at hbb fun o e => kp' _ o e
    have hA' := kp' a o ho
    have hlen : done.length < es.size := by
      have q := congrArg List.length hdone
      rw [List.length_append, List.length_cons, hperm.length_eq] at q
      have el : es.toList.length = es.size := by simp
      omega
    dsimp only
    refine wpAny_bind (wpAny_holding ?_)
    refine wpAny_bind (wpAny_setFind_of (knd := intKind P w) (k := k) (s := { s with heap := h', drawn := d1, toks := tk }) (intKind_is _ _ _ _) rfl hB' fun r hr => ?_)
    refine wpAny_bind (wpAny_pure ?_)
    have fin : ∀ (h2 : Heap) (R : ForInStep PUnit → Shared → Prop), Heap.SameBut s.heap.objs.size h' h2 → R (ForInStep.yield PUnit.unit) { s with heap := h2, drawn := d1, toks := tk } →
        wpAny (model P w) A (do Builtin.Frozenset.unchanged nm a ep; pure (ForInStep.yield PUnit.unit)) R E { s with heap := h2, drawn := d1, toks := tk } := fun h2 R hs2 hR => by
      have hA2 := (hs2.2 a hra.symm).trans hA'
      unfold Builtin.Frozenset.unchanged
      refine wpAny_bind (wpAny_bind (wpAny_setEpoch_of hA2 hd hf ?_))
      exact wp_if_neg (by simp) (wpAny_pure (wpAny_pure hR))
    have mk : ∀ (U2 : Int → Bool) (c2 : Nat) (h2 : Heap), Heap.SameBut s.heap.objs.size h' h2 → h2.SetOf (intKind P w) s.heap.objs.size U2 c2 → c2 ≤ done.length + 1 → (∀ j, U2 j = true ↔ T j = false ∧ ∃ e ∈ done ++ [(hashInt k, Value.int k t')], (intKind P w).is j e.2 = true) →
        ∃ (done : List (Int × Value)) (h'' : Heap) (tk' : Nat) (U : Int → Bool) (c : Nat), ({ s with heap := h2, drawn := d1, toks := tk } : Shared) = { s with heap := h'', drawn := d1, toks := tk' } ∧ done ++ rest = es'.toList ∧ h''.SetOf (intKind P w) s.heap.objs.size U c ∧ c ≤ done.length ∧
            (∀ k, U k = true ↔ T k = false ∧ ∃ e ∈ done, (intKind P w).is k e.2 = true) ∧ ∀ x o, s.heap.get? x = some o → h''.get? x = some o := fun U2 c2 h2 hs2 hU2 hc2 hm2 => by
      refine ⟨done ++ [(hashInt k, Value.int k t')], h2, tk, U2, c2, rfl, by rw [List.append_assoc]; exact hdone, hU2, by rw [List.length_append]; exact hc2, hm2, fun x o e => ?_⟩
      exact (hs2.2 x (fun z => by rw [z] at e; exact absurd (Heap.lt_size e) (Nat.lt_irrefl _))).trans (kp' x o e)
    cases hT : T k with
    | true =>
      rw [hT] at hr
      refine wp_if_neg (by rw [hr]; simp) ?_
      refine wpAny_pure ?_
      refine fin h' _ (Heap.SameBut.refl _ _) (mk U c h' (Heap.SameBut.refl _ _) hU (Nat.le_succ_of_le hc) fun j => ?_)
      rw [hmU j]
      refine and_congr_right fun hj => ⟨fun ⟨e, he, q⟩ => ⟨e, List.mem_append_left _ he, q⟩, fun ⟨e, he, q⟩ => ?_⟩
      rcases List.mem_append.mp he with he | he
      · exact ⟨e, he, q⟩
      · rw [List.mem_singleton.mp he] at q
        have : j = k := (intKind P w).inj _ _ _ q (intKind_is _ _ _ _)
        rw [this, hT] at hj
        cases hj
    | false =>
      rw [hT] at hr
      refine wp_if_pos (by rw [hr]; rfl) ?_
      refine wpAny_bind (wpAny_setAddHashed_of (knd := intKind P w) (k := k) (s := { s with heap := h', drawn := d1, toks := tk }) (intKind_is _ _ _ _) rfl hU (by omega) fun h2 hs2 hU2 => ?_)
      refine wpAny_pure ?_
      refine fin h2 _ hs2 (mk _ _ h2 hs2 hU2 (by split <;> omega) fun j => ?_)
      rw [Bool.or_eq_true, hmU j, decide_eq_true_eq]
      constructor
      · rintro (⟨h1, e, he, q⟩ | rfl)
        · exact ⟨h1, e, List.mem_append_left _ he, q⟩
        · exact ⟨hT, _, List.mem_append_right _ (List.mem_singleton.mpr rfl), intKind_is _ _ _ _⟩
      · rintro ⟨h1, e, he, q⟩
        rcases List.mem_append.mp he with he | he
        · exact .inl ⟨h1, e, he, q⟩
        · rw [List.mem_singleton.mp he] at q
          exact .inr ((intKind P w).inj _ _ _ q (intKind_is _ _ _ _))
  · rintro _ s' ⟨done, h', tk, U, c, rfl, hdone, hU, hc, hmU, kp'⟩
    rw [List.append_nil] at hdone
    refine wpAny_pure (wpAny_pure ?_)
    refine h _ U c h' d1 tk (Nat.le_refl _) hU (fun k => ?_) kp'
    have q := hmU k
    have q2 := hm k
    rw [hdone] at q
    have q3 : (∃ e ∈ es'.toList, (intKind P w).is k e.2 = true) ↔ S k = true := by
      rw [q2]
      exact ⟨fun ⟨e, he, p⟩ => ⟨e, hperm.mem_iff.mp he, p⟩, fun ⟨e, he, p⟩ => ⟨e, hperm.mem_iff.mpr he, p⟩⟩
    rw [q3] at q
    cases hU' : U k with
    | true => obtain ⟨z1, z2⟩ := q.mp hU'; rw [z1, z2]; rfl
    | false =>
      cases hS' : S k with
      | false => rfl
      | true =>
        cases hT' : T k with
        | true => rfl
        | false => exact absurd (q.mpr ⟨hT', hS'⟩) (by rw [hU']; exact Bool.false_ne_true)
theorem not_set_notImpl (r : Addr) : Value.ref r ≠ .notImplemented := fun q => nomatch q
/-- a - b, as an operator -/
theorem setsub_ints {a b : Addr} {S T : Int → Bool} {n m : Nat} (hab : s.heap.SetOf (intKind P w) a S n) (hbb : s.heap.SetOf (intKind P w) b T m) (hn : n / 4 ≤ m) {Q : Value → Shared → Prop}
    (h : ∀ (r : Addr) (U : Int → Bool) (c : Nat) (h' : Heap) (d' : Drawn) (tk : Nat), s.heap.objs.size ≤ r → h'.SetOf (intKind P w) r U c → (∀ k, U k = (S k && !T k)) → (∀ x o, s.heap.get? x = some o → h'.get? x = some o) → Q (.ref r) { s with heap := h', drawn := d', toks := tk }) :
    wpAny (model P w) A (binaryOp .Sub (.ref a) (.ref b)) Q E s := by
  have hTa := hab.typeIs
  have hTb := hbb.typeIs
  refine wpAny_binaryOp_same hTa hTb PySem.F.fills_set_sub PySem.F.slot_set_sub ?_
  refine call_meetsIn (S := fun A R s1 => s1 = s ∧ ∀ (r : Addr) (U : Int → Bool) (c : Nat) (h' : Heap) (d' : Drawn) (tk : Nat), s.heap.objs.size ≤ r → h'.SetOf (intKind P w) r U c → (∀ k, U k = (S k && !T k)) → (∀ x o, s.heap.get? x = some o → h'.get? x = some o) → R (.ok (.ret (.ref r))) { s with heap := h', drawn := d', toks := tk })
    PySem.F.slot_set_sub hTa entry_set_sub (PySem.F.args_set_sub_2 _ _) (MeetsIn.of_wp fun A R s1 ⟨e1, hR⟩ => ?_) ⟨rfl, fun r U c h' d' tk h1 h2 h3 h4 => ⟨not_set_notImpl r, h r U c h' d' tk h1 h2 h3 h4⟩⟩
  subst e1
  unfold Builtin.«frozenset.__sub__»
  show wpAny _ _ (Builtin.Frozenset.slot1 "__sub__" _ >>= _) _ _ _
  unfold Builtin.Frozenset.slot1
  refine wpAny_bind (wpAny_bind (m := slotArgs "__sub__" 1 _) (wpAny_pure (wpAny_pure ?_)))
  show wpAny _ _ ((Builtin.Frozenset.isAnySet (.ref a) <&&> Builtin.Frozenset.isAnySet (.ref b)) >>= _) _ _ _
  refine wpAny_bind ?_
  show wpAny _ _ (Builtin.Frozenset.isAnySet (.ref a) >>= _) _ _ _
  refine wpAny_bind (isAny_set hTa ?_)
  show wpAny _ _ (Builtin.Frozenset.isAnySet (.ref b)) _ _ _
  refine isAny_set hTb ?_
  refine wp_if_neg (by simp) ?_
  unfold Builtin.Frozenset.addrOf
  refine wpAny_bind (wpAny_pure ?_)
  refine wpAny_bind (difference_ints hab hbb hn fun r U c h' d' tk h1 h2 h3 h4 => ?_)
  exact wpAny_pure ⟨_, rfl, hR r U c h' d' tk h1 h2 h3 h4⟩
/-- a == b, b empty -/
theorem seteq_empty {a b : Addr} {S T : Int → Bool} {n : Nat} (hab : s.heap.SetOf (intKind P w) a S n) (hbb : s.heap.SetOf (intKind P w) b T 0) (hu : A.units < cLine) {Q : Value → Shared → Prop} (h : Q (.bool (decide (n = 0))) s) :
    wpAny (model P w) A (compareOp .Eq (.ref a) (.ref b)) Q E s := by
  have hTa := hab.typeIs
  have hTb := hbb.typeIs
  show wpAny _ _ (richCompare .Eq (.ref a) (.ref b)) _ _ _
  refine wpAny_richCompare_same_room (op := .Eq) hTa hTb PySem.F.slot_set_eq ?_ hu
  refine call_meetsIn (S := fun A R s1 => s1 = s ∧ R (.ok (.ret (.bool (decide (n = 0))))) s)
    PySem.F.slot_set_eq hTa entry_set_eq (PySem.F.args_set_eq_2 _ _) (MeetsIn.of_wp fun A R s1 ⟨e1, hR⟩ => ?_) ⟨rfl, fun q => Value.noConfusion q, h⟩
  subst e1
  unfold Builtin.«frozenset.__eq__»
  show wpAny _ _ (Builtin.Frozenset.slot1 "__eq__" _ >>= _) _ _ _
  unfold Builtin.Frozenset.slot1
  refine wpAny_bind (wpAny_bind (m := slotArgs "__eq__" 1 _) (wpAny_pure (wpAny_pure ?_)))
  refine wpAny_bind (isAny_set hTb ?_)
  refine wp_if_neg (by simp) ?_
  unfold Builtin.Frozenset.addrOf
  refine wpAny_bind (wpAny_pure (wpAny_bind (wpAny_pure ?_)))
  refine wpAny_bind (size_set hab ?_)
  refine wpAny_bind (size_set hbb ?_)
  refine wpAny_bind ?_
  have fin : ∀ c : Bool, c = decide (n = 0) → wpAny (model P w) A.in1 (ret (Value.bool c)) (fun fin s' => ∃ v, fin = Fin.done (Flow.ret v) ∧ R (.ok (.ret v)) s') (fun e s' => R (.error e) s') s1 := fun c e => by
    subst e
    exact wpAny_pure ⟨_, rfl, hR⟩
  by_cases h0 : n = 0
  · subst h0
    refine wp_if_neg (by simp) ?_
    show wpAny _ _ ((isInstance (.ref a) (.type "frozenset") <&&> isInstance (.ref b) (.type "frozenset")) >>= _) _ _ _
    refine wpAny_bind ?_
    show wpAny _ _ (isInstance (.ref a) (.type "frozenset") >>= _) _ _ _
    refine wpAny_bind (wpAny_isInstance hTa sub_set_frozen ?_)
    show wpAny _ _ (pure false) _ _ _
    refine wpAny_pure ?_
    refine wp_if_neg (by simp) ?_
    obtain ⟨o, es, ep, t, ho, hx, hd, hel, hm, hb, hf, hsz⟩ := id hab
    obtain ⟨o2, es2, ep2, t2, ho2, hx2, hd2, hel2, hm2, hb2, hf2, hsz2⟩ := id hbb
    have e1 : es.toList = [] := by
      have : es = #[] := Array.eq_empty_of_size_eq_zero hsz
      rw [this]
    have e2 : es2.toList = [] := by
      have : es2 = #[] := Array.eq_empty_of_size_eq_zero hsz2
      rw [this]
    unfold Builtin.Frozenset.subsetOf
    refine wpAny_bind (size_set hab ?_)
    refine wpAny_bind (size_set hbb ?_)
    refine wp_if_neg (by omega) ?_
    refine wpAny_bind (wpAny_setEpoch_of ho hd hf ?_)
    unfold Builtin.Frozenset.walkUnseen
    refine wpAny_bind (wpAny_bind (wpAny_setEntries_of ho hd hf (wpAny_bind (wpAny_setEntries_of ho2 hd2 hf2 ?_))))
    rw [e1, e2]
    simp only [List.append_nil, List.forIn_nil, pure_bind]
    refine wpAny_pure ?_
    simp only [List.forIn_nil, pure_bind]
    exact wpAny_pure (fin true rfl)
  · refine wp_if_pos (by simpa using h0) ?_
    exact wpAny_pure (fin false (by simp [h0]))
end
section
variable {X : Cx} {pins : List (Addr × Obj)} {σ : L2.St} {H : Hp} {s : Shared}
/-- a set of ints, by its members and how many they are -/
def SetQ (P : Program) (w : World) (a : Addr) (U : Int → Bool) (c : Nat) : HO := .ext fun h => h.SetOf (intKind P w) a U c
theorem setQ_ok {P : Program} {w : World} {H : Hp} {h : Heap} {a : Addr} {U : Int → Bool} {c : Nat} (R : h.SetOf (intKind P w) a U c) : ObjOk P w H h a (SetQ P w a U c) := by
  obtain ⟨o, es, ep, t, ho, r⟩ := id R
  exact ⟨R, ⟨o, ho⟩, fun h1 h2 q k => setOf_at q k⟩
theorem setOf_zero {P : Program} {w : World} {h : Heap} {a : Addr} {U : Int → Bool} {c : Nat} (R : h.SetOf (intKind P w) a U c) : c = 0 ↔ ∀ k, U k = false := by
  obtain ⟨o, es, ep, t, ho, hx, hd, hel, hm, hb, hf, hn⟩ := R
  constructor
  · intro h0 k
    have : es = #[] := Array.eq_empty_of_size_eq_zero (hn.trans h0)
    subst this
    cases q : U k with
    | false => rfl
    | true => obtain ⟨e, he, _⟩ := (hm k).mp q; simp at he
  · intro hz
    rw [← hn]
    cases q : es.toList with
    | nil => simpa using q
    | cons e l =>
      obtain ⟨k, hk, _⟩ := (hel e (by rw [q]; exact List.mem_cons_self)).1
      have := (hm k).mpr ⟨e, by rw [q]; exact List.mem_cons_self, hk⟩
      rw [hz k] at this
      cases this
/-- set - set -/
def rSubSet (P : Program) (w : World) : R2 := fun x y H Q => ∃ a b S T n m, x = .ref a ∧ y = .ref b ∧ H a = some (SetO w a S n) ∧ H b = some (SetO w b T m) ∧ n / 4 ≤ m ∧
  ∀ (r : Addr) (U : Int → Bool) (c : Nat), H r = none → (∀ k, U k = (S k && !T k)) → (c = 0 ↔ ∀ k, U k = false) → Q (.ref r) (upd H r (SetQ P w r U c))
theorem op_subSet : OpR X (binaryOp .Sub) (rSubSet X.prog X.w) := by
  intro pins s σ H x y v u Q I rx ry h
  obtain ⟨a, b, S, T, n, m, rfl, rfl, ha, hb, hnm, q⟩ := h
  cases rx
  cases ry
  have R1 := (setO_get I ha).setOf (P := X.prog)
  have R2 := (setO_get I hb).setOf (P := X.prog)
  refine setsub_ints R1 R2 hnm fun r U c h' d' tk hr hU hk kp => ?_
  have hn : H r = none := I.hok.fresh hr
  have J : Inv X pins σ (upd H r (SetQ X.prog X.w r U c)) { s with heap := h', gens := s.gens, drawn := d', toks := tk } :=
    I.call (ch := []) (Un.laid kp hr hn) (I.hok.laid kp hr (setQ_ok hU)) I.bare (fun _ z => nomatch z)
  exact ⟨.ref r, _, J, rfl, q r U c hn hk (setOf_zero hU)⟩
/-- set == an empty set -/
def rEqSet (P : Program) (w : World) : R2 := fun x y H Q => ∃ a b U T c, x = .ref a ∧ y = .ref b ∧ H a = some (SetQ P w a U c) ∧ H b = some (SetO w b T 0) ∧ Q (.bl (decide (c = 0))) H
theorem op_eqSet (hu : X.A.units + 64 < cLine) : OpR X (compareOp .Eq) (rEqSet X.prog X.w) := by
  intro pins s σ H x y v u Q I rx ry h
  obtain ⟨a, b, U, T, c, rfl, rfl, ha, hb, q⟩ := h
  cases rx
  cases ry
  have R1 : s.heap.SetOf (intKind X.prog X.w) a U c := (I.hok a _ ha).1
  have R2 := (setO_get I hb).setOf (P := X.prog)
  exact seteq_empty R1 R2 (by omega) ⟨.bl _, H, I, rfl, q⟩
abbrev rMinus (P : Program) (w : World) : R2 := fun x y H Q => rSubI x y H Q ∨ rSubSet P w x y H Q
theorem op_minus : OpR X (binaryOp .Sub) (rMinus X.prog X.w) := op_sub.or op_subSet
abbrev rEqU (P : Program) (w : World) (K : PySem.W.Frag) : R2 := fun x y H Q => rEqD K x y H Q ∨ rEqSet P w x y H Q
theorem op_eqU (hu : X.A.units + 64 < cLine) : OpR X (compareOp .Eq) (rEqU X.prog X.w X.K) := (op_eqD hu).or (op_eqSet hu)
end
end KC
end

section
set_option Elab.async false
set_option linter.all false
set_option autoImplicit false
set_option maxRecDepth 100000
set_option maxHeartbeats 4000000
/-! Short words for the printed derivations: callees, built-ins, what is walked. -/
namespace KC
open PySem L2 PySem.Spec PyProof.Rows
/-! ### built-ins by name -/
theorem b_len : bootBuiltins "len" = some (.builtin "len") := by decide +kernel
theorem b_sorted : bootBuiltins "sorted" = some (.builtin "sorted") := by decide +kernel
theorem b_sum : bootBuiltins "sum" = some (.builtin "sum") := by decide +kernel
theorem b_abs : bootBuiltins "abs" = some (.builtin "abs") := by decide +kernel
theorem b_min : bootBuiltins "min" = some (.builtin "min") := by decide +kernel
theorem b_isinstance : bootBuiltins "isinstance" = some (.builtin "isinstance") := by decide +kernel
theorem b_tuple : bootBuiltins "tuple" = some (.type "tuple") := by decide +kernel
theorem b_list : bootBuiltins "list" = some (.type "list") := by decide +kernel
theorem b_set : bootBuiltins "set" = some (.type "set") := by decide +kernel
theorem b_int : bootBuiltins "int" = some (.type "int") := by decide +kernel
theorem b_str : bootBuiltins "str" = some (.type "str") := by decide +kernel
theorem b_bool : bootBuiltins "bool" = some (.type "bool") := by decide +kernel
/-! ### callees -/
section
variable {P : Program} {w : World} {K : PySem.W.Frag} {mg : Str → Option Value} {base : Heap}
/-- a def of the module, with its promise -/
def Callee (P : Program) (w : World) (K : PySem.W.Frag) (mg : Str → Option Value) (base : Heap) (CX : CXT) (k : Nat) (x : Str) (ps : List Str) (sp : Sp) : Prop :=
  ∃ f fd, FnOk P w K mg base CX k f fd ps sp ∧ mg x = some (.ref f) ∧ PySem.W.keepIn K (.ref f) = true ∧ Binds K fd ps []
/-- a method of the class at C -/
def CalleeM (P : Program) (w : World) (K : PySem.W.Frag) (mg : Str → Option Value) (base : Heap) (CX : CXT) (C : Addr) (k : Nat) (x : Str) (ps : List Str) (sp : Sp) : Prop :=
  ∃ f fd, FnOk P w K mg base CX k f fd ps sp ∧ Meth K C x f ∧ Binds K fd ps []
/-- its maker -/
def CalleeC (P : Program) (w : World) (K : PySem.W.Frag) (mg : Str → Option Value) (base : Heap) (CX : CXT) (C : Addr) (k : Nat) (x : Str) (ps : List Str) (sp : Sp) : Prop :=
  ∃ f fd, FnOk P w K mg base CX k f fd ps sp ∧ Mk K C f ∧ mg x = some (.ref C) ∧ Binds K fd ps []
end
section
variable {X : Cx} {CX : CXT} {k j : Nat} {C : Addr} {ps : List Str} {sp : Sp} {E : XK} {x m : Str} {p pos apos : Pos} {e o : Expr} {es : List Expr} {ta : TE} {t : TA}
theorem xcall (c : Callee X.prog X.w X.K X.mg X.base CX j x ps sp) (hr : Room k X.A) (hk : j ≤ k) (hg : Gl X x) (hx : Passes CX X E) (ha : PA X (e :: es) t) (hdb : (x == ("__debug__" : Str)) = false := by decide)
    (he : starEach (e :: es) X.env = (false, eval e X.env) :: starEach es X.env := by rfl) (hpl : (backTo pos (starEach es X.env)).any (·.1) = false := by rfl) : PE X (.Call (.Name x p) (e :: es) [] pos) (tCall sp [] E t) := by
  obtain ⟨f, fd, F, h1, h2, h3⟩ := c
  exact pe_call F (hr.mono hk) hg h1 h2 h3 .nil hx ha hdb he hpl
theorem xmeth {pl : Sem Bool} (c : CalleeM X.prog X.w X.K X.mg X.base CX C j m ps sp) (cl : Cls X.K C) (hr : Room k X.A) (hk : j ≤ k) (hx : Passes CX X E) (ho : PE X o ta) (ha : PA X (e :: es) t)
    (hst : starEach (e :: es) X.env = (false, eval e X.env) :: starEach es X.env := by rfl) (hpl : (backTo pos (starEach es X.env)).any (·.1) = false := by rfl)
    (ht : eval (.Call (.Attribute o m apos) (e :: es) [] pos) X.env = (do
      let ov ← eval o X.env
      standAt apos.atName
      let (f, first) ← holding [ov] (getMethod ov m pl)
      callWith pos f first (backTo pos (starEach (e :: es) X.env)) (backToKw pos (keywordEach [] X.env))) := by rfl) :
    PE X (.Call (.Attribute o m apos) (e :: es) [] pos) (tMeth C m sp [] E ta t) := by
  obtain ⟨f, fd, F, h1, h3⟩ := c
  exact pe_meth ho cl h1 F (hr.mono hk) h3 .nil hx ha hst hpl ht
theorem xmeth0 {pl : Sem Bool} (c : CalleeM X.prog X.w X.K X.mg X.base CX C j m ps sp) (cl : Cls X.K C) (hr : Room k X.A) (hk : j ≤ k) (hx : Passes CX X E) (ho : PE X o ta)
    (ht : eval (.Call (.Attribute o m apos) [] [] pos) X.env = (do
      let ov ← eval o X.env
      standAt apos.atName
      let (f, first) ← holding [ov] (getMethod ov m pl)
      callWith pos f first (backTo pos (starEach [] X.env)) (backToKw pos (keywordEach [] X.env))) := by rfl) :
    PE X (.Call (.Attribute o m apos) [] [] pos) (tMeth C m sp [] E ta tNil) := by
  obtain ⟨f, fd, F, h1, h3⟩ := c
  exact pe_meth0 ho cl h1 F (hr.mono hk) h3 .nil hx ht
theorem xmake (c : CalleeC X.prog X.w X.K X.mg X.base CX C j x ps sp) (hr : Room k X.A) (hk : j + 1 ≤ k) (hg : Gl X x) (hx : Passes CX X E) (ha : PA X (e :: es) t) (hdb : (x == ("__debug__" : Str)) = false := by decide)
    (he : starEach (e :: es) X.env = (false, eval e X.env) :: starEach es X.env := by rfl) (hpl : (backTo pos (starEach es X.env)).any (·.1) = false := by rfl) : PE X (.Call (.Name x p) (e :: es) [] pos) (tMake C sp [] E t) := by
  obtain ⟨f, fd, F, h1, h2, h3⟩ := c
  exact pe_make h1 F (hr.mono hk) hg h2 h3 .nil hx ha hdb he hpl
/-- a constant of the module -/
theorem xconst {v : V} (h : ∃ u, X.mg x = some u ∧ RelV v u) (hg : Gl X x) (hd : (x == ("__debug__" : Str)) = false := by decide) : PE X (.Name x pos) (tC v) := by
  obtain ⟨u, h1, h2⟩ := h
  exact pe_glob hg h1 h2 hd
/-- a raise that never comes -/
theorem ps_raise0 {st : Stmt} {cls : Value} : PS X st (tRaise E0 cls) := ⟨fun _ _ _ _ _ _ h => h.elim⟩
end
/-! ### what is walked -/
section
variable {X : Cx} {tg l : Expr} {tl : TE}
/-- a list, a tuple, a locked dict -/
def iAny (P : Program) (w : World) (K : PySem.W.Frag) (tl : TE) : TI := fun σ H R => tl σ H fun x H1 => (∃ a, x = .ref a ∧ (∃ xs, SqL K H1 a xs) ∧ R (Itl K a) H1) ∨
  ((∃ a, x = .ref a ∧ (∃ xs, SqT K H1 a xs) ∧ R (Itt K a) H1) ∨ ∃ d o rows, x = .ref d ∧ H1 d = some (.frz o (KDO P w d rows)) ∧ R (ItD P w d o rows) H1)
theorem pi_any (hl : PE X l tl) : PI X tg l (iAny X.prog X.w X.K tl) := by
  refine ⟨fun pins s σ H R I h => ?_⟩
  refine thn (hl.run pins s σ H _ I h) fun v s1 ⟨x, H1, I1, r1, q1⟩ => ?_
  rcases q1 with ⟨a, e, ⟨xs, hq⟩, q⟩ | ⟨a, e, ⟨xs, hq⟩, q⟩ | ⟨d, o, rows, e, hlock, q⟩
  · subst e
    cases r1
    obtain ⟨its, rv, pl, hz⟩ := I1.list hq
    exact wpAny_pyIter_list pl.isList (pi_one (tk := s1.toks) I1 _ (turn_list a _) ⟨_, Heap.get?_push_size _ rfl, rfl, rfl⟩ q)
  · subst e
    cases r1
    obtain ⟨its, rv, pl, hz⟩ := I1.tuple hq
    exact wpAny_pyIter_tuple (show s1.heap.IsTuple a its.toArray from pl) (pi_one (tk := s1.toks) I1 _ (turn_tuple a _) ⟨_, Heap.get?_push_size _ rfl, rfl, rfl⟩ q)
  · subst e
    cases r1
    obtain ⟨hs, hget, hx, es, ep, hdt, hsz, ent⟩ := kd_locked I1 hlock
    refine iter_keys hs hget hx hdt (pi_one (tk := s1.toks) I1 _ (turn_kd _ hdt) ⟨_, Heap.get?_push_size _ rfl, rfl, ?_⟩ q)
    rw [hsz] <;> rfl
end
/-! ### sets: of ints, of tuples; how many -/
section
variable {X : Cx}
abbrev rSetC (P : Program) (w : World) (K : PySem.W.Frag) : List V → Hp → VK → Prop := fun xs H Q => rSetI K w xs H Q ∨ rSetOfT K P w xs H Q
theorem cr_setC (hc : X.calm = true) (hu : X.A.units + 64 < cLine) : CallR X (.type "set") (rSetC X.prog X.w X.K) := (cr_setI hc).or (cr_setOfT hc hu)
/-- len of a set of tuples -/
def rLenS (P : Program) (w : World) : List V → Hp → VK → Prop := fun xs H Q => ∃ (a : Addr) (L : List (Addr × List Int)), xs = [.ref a] ∧ H a = some (SetTO P w a L) ∧ ((L.map (·.2)).Nodup → Q (.int (L.length : Nat)) H)
theorem call_lenS : CallR X (.builtin "len") (rLenS X.prog X.w) := by
  intro pins s σ H xs us Q I r h
  obtain ⟨a, L, rfl, ha, q⟩ := h
  obtain ⟨u, rfl, ru⟩ := vals1 r
  cases ru
  have R : SetT0 X.prog X.w s.heap a L := (I.hok a _ ha).1
  obtain ⟨es, ep, t, ⟨o, ho, hex, hd⟩, hr, htab, hnd, _, _, hroom, hfew⟩ := R.ex
  have hsz : es.size = L.length := by
    have h := congrArg List.length hr
    unfold rowsOf at h
    rw [Array.length_toList, List.length_map] at h
    exact h
  have hfit : t.fits es.size = true := by
    have h1 := htab.sz
    rw [List.length_map] at h1
    unfold SetTable.fits SetTable.fill
    rw [htab.dm, Bool.and_eq_true, beq_iff_eq, decide_eq_true_eq]
    show t.place.size = es.size ∧ t.place.size + 0 ≤ t.mask
    omega
  refine PySem.call_len_set ho hex hd hfit (by have := line63; omega) ?_
  exact ⟨.int (L.length : Nat), H, I.tok _, ⟨_, by rw [hsz]⟩, q hnd⟩
abbrev rSortU (w : World) (K : PySem.W.Frag) : List V → Hp → VK → Prop := fun xs H Q => rSortD K xs H Q ∨ (rSortP K xs H Q ∨ rSortedSet w xs H Q)
theorem cr_sortU (hc : X.calm = true) (hu : X.A.units + 64 < cLine) : CallR X (.builtin "sorted") (rSortU X.w X.K) := (cr_sortD hu).or ((cr_sortP hu).or (cr_sortedSet hc))
abbrev rIsiU (K : PySem.W.Frag) : List V → Hp → VK → Prop := fun xs H Q => rIsi K xs H Q ∨ rIsiT K xs H Q
theorem call_isiU : CallR X (.builtin "isinstance") (rIsiU X.K) := call_isi.or call_isiT
abbrev rAbs : List V → Hp → VK → Prop := fun xs H Q => ∃ i, xs = [.int i] ∧ Q (.int (if i < 0 then -i else i)) H
abbrev rListOf (K : PySem.W.Frag) : List V → Hp → VK → Prop := fun xs H Q => ∃ p ys, xs = [.ref p] ∧ (SqL K H p ys ∨ SqT K H p ys) ∧ ∀ l, H l = none → Q (.ref l) (upd H l (.lst ys))
abbrev rNegI : V → Hp → VK → Prop := rU fun i => .int (-i)
end
end KC
end

section
set_option Elab.async false
set_option linter.all false
set_option autoImplicit false
set_option maxRecDepth 100000
set_option maxHeartbeats 4000000
/-! {t: v} with a tuple's key; len of all that we measure; list(xs); the names of a law. -/
namespace KC
open PySem L2 PySem.Spec PyProof.Rows
section
variable {X : Cx}
def tDisp1 (P : Program) (w : World) (tk tv : TE) : TE := fun σ H Q => ∀ p, H p = none → tk σ (upd H p (KDO P w p [])) fun x H1 => tv σ H1 fun y H2 =>
  ∃ q k, x = .ref q ∧ KeyAt H2 k q ∧ H2 p = some (KDO P w p []) ∧ Q (.ref p) (upd H2 p (KDO P w p [(k, q, y)]))
theorem pe_disp1 {k v : Expr} {tk tv : TE} {pos : Pos} (hu : X.A.units + 64 < cLine) (hk : PE X k tk) (hv : PE X v tv) : PE X (.Dict [some k] [v] pos) (tDisp1 X.prog X.w tk tv) := by
  refine ⟨fun pins s σ H Q I q => ?_⟩
  have hn := I.hok.fresh (Nat.le_refl s.heap.objs.size)
  have hs0 : (s.heap.objs.size == sysModules) = false := by
    have hb : sysModules < s.heap.objs.size := I.big
    exact beq_eq_false_iff_ne.mpr (Nat.ne_of_gt hb)
  have I1 := I.laid (a := s.heap.objs.size) (o := KDO X.prog X.w s.heap.objs.size []) (h' := s.heap.push { cls := .type "dict", data := .dict #[] }) (t' := s.toks) (fun _ _ q => Heap.get?_push_of_some _ q) (Nat.le_refl _)
    (kd_new (by show 0 ≤ _; exact Nat.zero_le _) hs0 .nil (Heap.DictOfH.new _))
  rw [arm_eval_Dict, zip_pairTrees [some k] [v] X.env pos rfl rfl, dictDisplay_pairs (pairTrees [some k] [v] X.env pos) (by intro z; cases z) (show 1 < 17 by decide)]
  refine wpAny_bind (wpAny_standAt (wpAny_bind (wpAny_subDictH (knd := nestedKind X.prog X.w) (Q := fun d s' => wpAny (model X.prog X.w) X.A (pure (Value.ref d)) (EP X pins σ Q) X.xe s') (by show X.A.units + 8 < cLine; omega) (show 1 ≤ 15 by decide) ?_)))
  refine pairTrees_cons_walk (thn (hk.run pins _ σ _ _ I1 (q _ hn)) fun u s1 ⟨x, H1, I2, rx, q1⟩ => thn (hv.run pins s1 σ H1 _ I2 q1) fun w2 s2 ⟨y, H2, I3, ry, q2⟩ => pairTrees_nil_walk ?_)
  obtain ⟨a, kk, rfl, hq, hH, qq⟩ := q2
  cases rx
  obtain ⟨hz, hd, xs, r, m⟩ := RdD.full I3 (.inl hH) (fun r hr => by cases hr)
  cases r
  refine ⟨[(kk, a, w2)], ⟨rfl, rfl, hq.is I3, trivial⟩, m, fun h' tk m' hs => wpAny_pure ?_⟩
  exact ⟨.ref s.heap.objs.size, _, kd_write I3 hH hs (by show 1 ≤ sizeLine; decide) hd (.cons ⟨rfl, rfl, ry⟩ .nil) m', rfl, qq⟩
/-- len of a list, a tuple, a dict, a text, a set of tuples -/
abbrev rLenA (P : Program) (w : World) (K : PySem.W.Frag) : List V → Hp → VK → Prop := fun xs H Q => rLenU P w K xs H Q ∨ rLenS P w xs H Q
theorem call_lenA : CallR X (.builtin "len") (rLenA X.prog X.w X.K) := call_lenU.or call_lenS
end
/-- where the classes stand -/
structure Nm where
  cube : Addr
  badCube : Addr
  badRow : Addr
  noRow : Addr
  badTable : Addr
  notKept : Addr
  kept : Addr
  notLost : Addr
  badAsk : Addr
  badText : Addr
/-- what the top has written -/
structure Txt (K : PySem.W.Frag) (mg : Str → Option Value) (n : Nm) : Prop where
  cl : Cls K n.cube
  f_many : NoAttr K n.cube "many"
  f_whole : NoAttr K n.cube "whole"
  f_inside : NoAttr K n.cube "inside"
  f_known : NoAttr K n.cube "known"
  f_gone : NoAttr K n.cube "gone"
  n_len : mg "len" = none
  n_sorted : mg "sorted" = none
  n_sum : mg "sum" = none
  n_abs : mg "abs" = none
  n_range : mg "range" = none
  n_tuple : mg "tuple" = none
  n_list : mg "list" = none
  n_set : mg "set" = none
  n_int : mg "int" = none
  n_str : mg "str" = none
  n_bool : mg "bool" = none
  n_isinstance : mg "isinstance" = none
  c_MOST_EDGES : ∃ u, mg "MOST_EDGES" = some u ∧ RelV (.int 4) u
  c_MOST_VALUE : ∃ u, mg "MOST_VALUE" = some u ∧ RelV (.int 99) u
  c_MOST_AMOUNT : ∃ u, mg "MOST_AMOUNT" = some u ∧ RelV (.int 1000000000) u
end KC
end

section
set_option Elab.async false
set_option linter.all false
set_option autoImplicit false
set_option maxRecDepth 100000
set_option maxHeartbeats 4000000
/-! What a reading evaluates to, told as data; comprehensions; walks over locked dicts. -/
namespace KC
open PySem L2
open Evl (Ex EvT)
abbrev PV := Hp → V → Prop
class Mn (p : PV) : Prop where
  mn : ∀ {H H' : Hp} {v : V}, Ex H H' → p H v → p H' v
def Is (d : PyData) : PV := fun H v => IsD H v d
def IsR (x : V) : PV := fun _ v => v = x
def IsSq (K : PySem.W.Frag) (ds : List PyData) : PV := fun H v => ∃ a xs, v = .ref a ∧ (SqL K H a xs ∨ SqT K H a xs) ∧ IsDs H xs ds
def IsL (K : PySem.W.Frag) (ds : List PyData) : PV := fun H v => ∃ a xs, v = .ref a ∧ SqL K H a xs ∧ IsDs H xs ds
instance (d : PyData) : Mn (Is d) := ⟨fun e h => IsD.mono (Tp.of e) h⟩
instance (x : V) : Mn (IsR x) := ⟨fun _ h => h⟩
instance (K : PySem.W.Frag) (ds : List PyData) : Mn (IsSq K ds) := ⟨fun e ⟨a, xs, h1, h2, h3⟩ => ⟨a, xs, h1, h2.imp (Evl.ex_l e) (Evl.ex_t e), h3.mono (Tp.of e)⟩⟩
instance (K : PySem.W.Frag) (ds : List PyData) : Mn (IsL K ds) := ⟨fun e ⟨a, xs, h1, h2, h3⟩ => ⟨a, xs, h1, Evl.ex_l e h2, h3.mono (Tp.of e)⟩⟩
def EvP (te : TE) (σ : L2.St) (H : Hp) (p : PV) : Prop := ∀ H1, Ex H H1 → ∀ Q : VK, (∀ v H2, Ex H1 H2 → p H2 v → Q v H2) → te σ H1 Q
def EvF (te : TE) (σ : L2.St) (H : Hp) (ds : List PyData) : Prop := ∀ H1, Ex H H1 → ∀ Q : VK, (∀ a xs H2, H1 a = none → Ex H1 H2 → H2 a = some (.lst xs) → IsDs H2 xs ds → Q (.ref a) H2) → te σ H1 Q
def Als (H : Hp) : List PV → List V → Prop
  | [], [] => True
  | p :: ps, v :: vs => p H v ∧ Als H ps vs
  | _, _ => False
def EvAs (ta : TA) (σ : L2.St) (H : Hp) (ps : List PV) : Prop := ∀ H1, Ex H H1 → ∀ Q : List V → Hp → Prop, (∀ vs H2, Ex H1 H2 → Als H2 ps vs → Q vs H2) → ta σ H1 Q
def EvDs (ta : TA) (σ : L2.St) (H : Hp) (ds : List PyData) : Prop := ∀ H1, Ex H H1 → ∀ Q : List V → Hp → Prop, (∀ vs H2, Ex H1 H2 → IsDs H2 vs ds → Q vs H2) → ta σ H1 Q
section
variable {P : Program} {w : World} {K : PySem.W.Frag} {te a b : TE} {ta : TA} {tc : TT} {σ : L2.St} {H H' : Hp} {p q out : PV} {r : R2} {ds es : List PyData} {d : PyData}
theorem EvP.mono (h : EvP te σ H p) (e : Ex H H') : EvP te σ H' p := fun H1 e1 => h H1 (e.trans e1)
theorem EvP.imp (h : EvP te σ H p) (f : ∀ H v, p H v → q H v) : EvP te σ H q := fun H1 e Q k => h H1 e Q fun v H2 e2 hp => k v H2 e2 (f _ _ hp)
theorem EvF.mono (h : EvF te σ H ds) (e : Ex H H') : EvF te σ H' ds := fun H1 e1 => h H1 (e.trans e1)
theorem EvF.l (h : EvF te σ H ds) : EvP te σ H (IsL K ds) := fun H1 e Q k => h H1 e Q fun a xs H2 _ e2 ha hx => k _ _ e2 ⟨a, xs, rfl, .inl (.inl ha), hx⟩
theorem EvP.sq (h : EvP te σ H (IsL K ds)) : EvP te σ H (IsSq K ds) := h.imp fun _ _ ⟨a, xs, h1, h2, h3⟩ => ⟨a, xs, h1, .inl h2, h3⟩
theorem isSq_of {v : V} (h : IsD H v (.tuple ds)) : IsSq K ds H v := by
  obtain ⟨a, vs, rfl, ht, hs⟩ := isTup_get h
  exact ⟨a, vs, rfl, .inr ht.sq, hs⟩
theorem EvP.tq (h : EvP te σ H (Is (.tuple ds))) : EvP te σ H (IsSq K ds) := h.imp fun _ _ h => isSq_of h
theorem evT_mono {tt : TT} {b : Bool} (h : EvT tt σ H b) (e : Ex H H') : EvT tt σ H' b := fun H1 e1 => h H1 (e.trans e1)
/-! ### leaves -/
theorem ev_var {i : Nat} {v : V} [Mn p] (h : σ[i]? = some (some v)) (q : p H v) : EvP (tVar i) σ H p := fun H1 e Q k => ⟨v, h, k v H1 (Ex.refl _) (Mn.mn e q)⟩
theorem ev_ref {i : Nat} {v : V} (h : σ[i]? = some (some v)) : EvP (tVar i) σ H (IsR v) := ev_var h rfl
theorem ev_vi {i : Nat} {z : Int} (h : σ[i]? = some (some (.int z))) : EvP (tVar i) σ H (Is (.int z)) := ev_var h (IsD.int z)
theorem ev_int (i : Int) : EvP (tC (.int i)) σ H (Is (.int i)) := fun H1 e Q k => k _ _ (Ex.refl _) (IsD.int i)
theorem ev_bl (b : Bool) : EvP (tC (.bl b)) σ H (Is (.bool b)) := fun H1 e Q k => k _ _ (Ex.refl _) (IsD.bl b)
theorem ev_non : EvP (tC .non) σ H (Is .none) := fun H1 e Q k => k _ _ (Ex.refl _) IsD.non
theorem ev_str (x : Str) : EvP (tC (.str x)) σ H (Is (.str x)) := fun H1 e Q k => k _ _ (Ex.refl _) (IsD.str x)
theorem ev_c (v : V) : EvP (tC v) σ H (IsR v) := fun H1 e Q k => k _ _ (Ex.refl _) rfl
/-! ### operators -/
def RD (r : R2) (x y : V) (H : Hp) (out : PV) : Prop := ∀ Q : VK, (∀ v H2, Ex H H2 → out H2 v → Q v H2) → r x y H Q
theorem ev_op [Mn p] (ha : EvP a σ H p) (hb : EvP b σ H q) (h : ∀ x y H1, Ex H H1 → p H1 x → q H1 y → RD r x y H1 out) : EvP (tOp r a b) σ H out := fun H1 e Q k =>
  ha H1 e _ fun x H2 e2 hx => hb H2 (e.trans e2) _ fun y H3 e3 hy => h x y H3 ((e.trans e2).trans e3) (Mn.mn e3 hx) hy Q fun v H4 e4 hv => k v H4 ((e2.trans e3).trans e4) hv
theorem ev_int2 {i j : Int} {d : PyData} (ha : EvP a σ H (Is (.int i))) (hb : EvP b σ H (Is (.int j))) (h : ∀ (H1 : Hp) (Q : VK), (∀ v, IsD H1 v d → Q v H1) → r (.int i) (.int j) H1 Q) : EvP (tOp r a b) σ H (Is d) :=
  ev_op ha hb fun x y H1 e hx hy Q k => by
    have e1 := isInt_get hx
    have e2 := isInt_get hy
    subst e1
    subst e2
    exact h H1 Q fun v hv => k v H1 (Ex.refl _) hv
theorem ev_add {i j : Int} (ha : EvP a σ H (Is (.int i))) (hb : EvP b σ H (Is (.int j))) : EvP (tOp (rPlus K) a b) σ H (Is (.int (i + j))) :=
  ev_int2 ha hb fun H1 Q k => .inl ⟨i, j, rfl, rfl, k _ (IsD.int _)⟩
theorem ev_sub {i j : Int} (ha : EvP a σ H (Is (.int i))) (hb : EvP b σ H (Is (.int j))) : EvP (tOp (rMinus P w) a b) σ H (Is (.int (i - j))) :=
  ev_int2 ha hb fun H1 Q k => .inl ⟨i, j, rfl, rfl, k _ (IsD.int _)⟩
theorem ev_mul {i j : Int} (ha : EvP a σ H (Is (.int i))) (hb : EvP b σ H (Is (.int j))) (h : CMul i j) : EvP (tOp rMulI a b) σ H (Is (.int (i * j))) :=
  ev_int2 ha hb fun H1 Q k => ⟨i, j, rfl, rfl, h, k _ (IsD.int _)⟩
theorem ev_div {i j : Int} (ha : EvP a σ H (Is (.int i))) (hb : EvP b σ H (Is (.int j))) (h : CDiv i j) : EvP (tOp rDivI a b) σ H (Is (.int (i / j))) :=
  ev_int2 ha hb fun H1 Q k => ⟨i, j, rfl, rfl, h, k _ (IsD.int _)⟩
theorem ev_mod {i j : Int} (ha : EvP a σ H (Is (.int i))) (hb : EvP b σ H (Is (.int j))) (h : 0 < j) : EvP (tOp rModI a b) σ H (Is (.int (i % j))) :=
  ev_int2 ha hb fun H1 Q k => ⟨i, j, rfl, rfl, h, k _ (IsD.int _)⟩
theorem ev_pow {i j : Int} (ha : EvP a σ H (Is (.int i))) (hb : EvP b σ H (Is (.int j))) (h : CPow i j) : EvP (tOp rPowI a b) σ H (Is (.int (i ^ j.toNat))) :=
  ev_int2 ha hb fun H1 Q k => ⟨i, j, rfl, rfl, h, k _ (IsD.int _)⟩
theorem ev_lt {i j : Int} (ha : EvP a σ H (Is (.int i))) (hb : EvP b σ H (Is (.int j))) : EvP (tOp rLtI a b) σ H (Is (.bool (decide (i < j)))) :=
  ev_int2 ha hb fun H1 Q k => ⟨i, j, rfl, rfl, k _ (IsD.bl _)⟩
theorem ev_le {i j : Int} (ha : EvP a σ H (Is (.int i))) (hb : EvP b σ H (Is (.int j))) : EvP (tOp rLeI a b) σ H (Is (.bool (decide (i ≤ j)))) :=
  ev_int2 ha hb fun H1 Q k => ⟨i, j, rfl, rfl, k _ (IsD.bl _)⟩
theorem ev_gt {i j : Int} (ha : EvP a σ H (Is (.int i))) (hb : EvP b σ H (Is (.int j))) : EvP (tOp rGtI a b) σ H (Is (.bool (decide (j < i)))) :=
  ev_int2 ha hb fun H1 Q k => ⟨i, j, rfl, rfl, k _ (IsD.bl _)⟩
theorem ev_ge {i j : Int} (ha : EvP a σ H (Is (.int i))) (hb : EvP b σ H (Is (.int j))) : EvP (tOp rGeI a b) σ H (Is (.bool (decide (j ≤ i)))) :=
  ev_int2 ha hb fun H1 Q k => ⟨i, j, rfl, rfl, k _ (IsD.bl _)⟩
/-- what is asked of data for == -/
def Sh (d : PyData) : Prop := SeqAt.shaped d = true
theorem isL_dp {v : V} (h : IsL K ds H v) : Dp K H v (.list ds) := by
  obtain ⟨a, xs, rfl, h1, h2⟩ := h
  exact .lst h1 h2.dp
theorem ev_eqDp {d e : PyData} [Mn p] (ha : EvP a σ H p) (hb : EvP b σ H q) (hp : ∀ H v, p H v → Dp K H v d) (hq : ∀ H v, q H v → Dp K H v e) (h1 : Sh d) (h2 : Sh e) : EvP (tOp (rEqU P w K) a b) σ H (Is (.bool (PyData.eqv d e))) :=
  ev_op ha hb fun x y H1 _ hx hy Q k => .inl ⟨d, e, hp _ _ hx, hq _ _ hy, h1, h2, k _ _ (Ex.refl _) (IsD.bl _)⟩
theorem ev_neDp {d e : PyData} [Mn p] (ha : EvP a σ H p) (hb : EvP b σ H q) (hp : ∀ H v, p H v → Dp K H v d) (hq : ∀ H v, q H v → Dp K H v e) (h1 : Sh d) (h2 : Sh e) : EvP (tOp (rNeD K) a b) σ H (Is (.bool (!PyData.eqv d e))) :=
  ev_op ha hb fun x y H1 _ hx hy Q k => ⟨d, e, hp _ _ hx, hq _ _ hy, h1, h2, k _ _ (Ex.refl _) (IsD.bl _)⟩
theorem ev_eq {d e : PyData} (ha : EvP a σ H (Is d)) (hb : EvP b σ H (Is e)) (h1 : Sh d) (h2 : Sh e) : EvP (tOp (rEqU P w K) a b) σ H (Is (.bool (PyData.eqv d e))) := ev_eqDp ha hb (fun _ _ h => IsD.dp h) (fun _ _ h => IsD.dp h) h1 h2
theorem ev_ne {d e : PyData} (ha : EvP a σ H (Is d)) (hb : EvP b σ H (Is e)) (h1 : Sh d) (h2 : Sh e) : EvP (tOp (rNeD K) a b) σ H (Is (.bool (!PyData.eqv d e))) := ev_neDp ha hb (fun _ _ h => IsD.dp h) (fun _ _ h => IsD.dp h) h1 h2
theorem sh_int (i : Int) : Sh (.int i) := by unfold Sh SeqAt.shaped; simp [PyData.canLay0, PyData.depth]
theorem sh_bool (b : Bool) : Sh (.bool b) := by unfold Sh SeqAt.shaped; simp [PyData.canLay0, PyData.depth]
theorem sh_none : Sh .none := by unfold Sh SeqAt.shaped; simp [PyData.canLay0, PyData.depth]
theorem ev_eqI {i j : Int} (ha : EvP a σ H (Is (.int i))) (hb : EvP b σ H (Is (.int j))) : EvP (tOp (rEqU P w K) a b) σ H (Is (.bool (decide (i = j)))) := by
  rw [← eqv_int]
  exact ev_eq ha hb (sh_int i) (sh_int j)
theorem ev_neI {i j : Int} (ha : EvP a σ H (Is (.int i))) (hb : EvP b σ H (Is (.int j))) : EvP (tOp (rNeD K) a b) σ H (Is (.bool (!decide (i = j)))) := by
  rw [← eqv_int]
  exact ev_ne ha hb (sh_int i) (sh_int j)
/-! ### truth -/
theorem evt_test {b : Bool} (h : EvP te σ H (Is (.bool b))) : EvT (tTest te) σ H b := fun H1 e Q k => h H1 e _ fun v H2 e2 hv => ⟨b, isBl_get hv, k H2 e2⟩
theorem evt_b {b : Bool} (h : EvP te σ H (Is (.bool b))) : EvT (tB te) σ H b := fun H1 e Q k => h H1 e _ fun v H2 e2 hv => ⟨b, isBl_get hv, k H2 e2⟩
theorem evt_not {b : Bool} (h : EvT tc σ H b) : EvT (tNot tc) σ H (!b) := fun H1 e Q k => h H1 e _ fun H2 e2 => k H2 e2
theorem evt_and {tu : TT} {b c : Bool} (h : EvT tc σ H b) (h2 : b = true → EvT tu σ H c) : EvT (tAnd tc tu) σ H (b && c) := fun H1 e Q k => h H1 e _ fun H2 e2 => by
  cases b with
  | true => rw [if_pos rfl]; exact h2 rfl H2 (e.trans e2) Q fun H3 e3 => by simpa using k H3 (e2.trans e3)
  | false => rw [if_neg (by simp)]; simpa using k H2 e2
theorem evt_or {tu : TT} {b c : Bool} (h : EvT tc σ H b) (h2 : b = false → EvT tu σ H c) : EvT (tOr tc tu) σ H (b || c) := fun H1 e Q k => h H1 e _ fun H2 e2 => by
  cases b with
  | false => rw [if_neg (by simp)]; exact h2 rfl H2 (e.trans e2) Q fun H3 e3 => by simpa using k H3 (e2.trans e3)
  | true => rw [if_pos rfl]; simpa using k H2 e2
theorem evt_yes : EvT tYes σ H true := fun H1 e Q k => k H1 (Ex.refl _)
theorem ev_notV {b : Bool} (h : EvP te σ H (Is (.bool b))) : EvP (tNotV te) σ H (Is (.bool (!b))) := fun H1 e Q k => h H1 e _ fun v H2 e2 hv => ⟨b, isBl_get hv, k _ H2 e2 (IsD.bl _)⟩
theorem ev_andV {b' c : Bool} (h : EvP a σ H (Is (.bool b'))) (h2 : b' = true → EvP b σ H (Is (.bool c))) : EvP (tAndV a b) σ H (Is (.bool (b' && c))) := fun H1 e Q k => h H1 e _ fun v H2 e2 hv => ⟨b', isBl_get hv, by
  cases b' with
  | true => rw [if_pos rfl]; exact h2 rfl H2 (e.trans e2) Q fun v H3 e3 hv => k v H3 (e2.trans e3) (by simpa using hv)
  | false => rw [if_neg (by simp)]; exact k _ H2 e2 (IsD.bl _)⟩
theorem ev_orV {b' c : Bool} (h : EvP a σ H (Is (.bool b'))) (h2 : b' = false → EvP b σ H (Is (.bool c))) : EvP (tOrV a b) σ H (Is (.bool (b' || c))) := fun H1 e Q k => h H1 e _ fun v H2 e2 hv => ⟨b', isBl_get hv, by
  cases b' with
  | false => rw [if_neg (by simp)]; exact h2 rfl H2 (e.trans e2) Q fun v H3 e3 hv => k v H3 (e2.trans e3) (by simpa using hv)
  | true => rw [if_pos rfl]; exact k _ H2 e2 (IsD.bl _)⟩
theorem ev_if {b' : Bool} (h : EvT tc σ H b') (h1 : b' = true → EvP a σ H p) (h2 : b' = false → EvP b σ H p) : EvP (tIf tc a b) σ H p := fun H1 e Q k => h H1 e _ fun H2 e2 => by
  cases b' with
  | true => rw [if_pos rfl]; exact h1 rfl H2 (e.trans e2) Q fun v H3 e3 hv => k v H3 (e2.trans e3) hv
  | false => rw [if_neg (by simp)]; exact h2 rfl H2 (e.trans e2) Q fun v H3 e3 hv => k v H3 (e2.trans e3) hv
/-- lo <= x < hi and their like -/
theorem ev_chain {r r' : R2} {tc : TE} {i j l : Int} {b1 b2 : Bool} (ha : EvP a σ H (Is (.int i))) (hb : EvP b σ H (Is (.int j))) (hc : b1 = true → EvP tc σ H (Is (.int l)))
    (h1 : ∀ (H1 : Hp) (Q : VK), Q (.bl b1) H1 → r (.int i) (.int j) H1 Q) (h2 : ∀ (H1 : Hp) (Q : VK), Q (.bl b2) H1 → r' (.int j) (.int l) H1 Q) : EvP (tChain r r' a b tc) σ H (Is (.bool (b1 && b2))) := fun H1 e Q k =>
  ha H1 e _ fun x H2 e2 hx => hb H2 (e.trans e2) _ fun y H3 e3 hy => by
    have ex := isInt_get hx
    have ey := isInt_get hy
    subst ex
    subst ey
    refine h1 _ _ ⟨b1, rfl, ?_⟩
    cases b1 with
    | true =>
      rw [if_pos rfl]
      refine hc rfl H3 ((e.trans e2).trans e3) _ fun z H4 e4 hz => ?_
      have ez := isInt_get hz
      subst ez
      exact h2 _ _ (k _ _ ((e2.trans e3).trans e4) (IsD.bl _))
    | false =>
      rw [if_neg (by simp)]
      exact k _ _ (e2.trans e3) (IsD.bl _)
theorem ev_chLeLe {tc : TE} {i j l : Int} (ha : EvP a σ H (Is (.int i))) (hb : EvP b σ H (Is (.int j))) (hc : EvP tc σ H (Is (.int l))) : EvP (tChain rLeI rLeI a b tc) σ H (Is (.bool (decide (i ≤ j) && decide (j ≤ l)))) :=
  ev_chain ha hb (fun _ => hc) (fun H1 Q q => ⟨i, j, rfl, rfl, q⟩) fun H1 Q q => ⟨j, l, rfl, rfl, q⟩
theorem ev_chLeLt {tc : TE} {i j l : Int} (ha : EvP a σ H (Is (.int i))) (hb : EvP b σ H (Is (.int j))) (hc : EvP tc σ H (Is (.int l))) : EvP (tChain rLeI rLtI a b tc) σ H (Is (.bool (decide (i ≤ j) && decide (j < l)))) :=
  ev_chain ha hb (fun _ => hc) (fun H1 Q q => ⟨i, j, rfl, rfl, q⟩) fun H1 Q q => ⟨j, l, rfl, rfl, q⟩
/-! ### arguments, tuples, lists -/
theorem eas_nil : EvAs tNil σ H [] := fun H1 e Q k => k [] H1 (Ex.refl _) trivial
theorem als_mono {ps : List PV} {vs : List V} (e : Ex H H') (hp : ∀ p ∈ ps, Mn p) (h : Als H ps vs) : Als H' ps vs := by
  induction ps generalizing vs with
  | nil => cases vs <;> exact h
  | cons p ps ih =>
    cases vs with
    | nil => exact h
    | cons v vs => exact ⟨(hp p List.mem_cons_self).mn e h.1, ih (fun q hq => hp q (List.mem_cons_of_mem _ hq)) h.2⟩
theorem eas_cons [Mn p] {ps : List PV} (ha : EvP te σ H p) (hb : EvAs ta σ H ps) : EvAs (tCons te ta) σ H (p :: ps) := fun H1 e Q k =>
  ha H1 e _ fun x H2 e2 hx => hb H2 (e.trans e2) _ fun vs H3 e3 hvs => k (x :: vs) H3 (e2.trans e3) ⟨Mn.mn e3 hx, hvs⟩
theorem eds_nil : EvDs tNil σ H [] := fun H1 e Q k => k [] H1 (Ex.refl _) .nil
theorem eds_cons (ha : EvP te σ H (Is d)) (hb : EvDs ta σ H ds) : EvDs (tCons te ta) σ H (d :: ds) := fun H1 e Q k =>
  ha H1 e _ fun x H2 e2 hx => hb H2 (e.trans e2) _ fun vs H3 e3 hvs => k (x :: vs) H3 (e2.trans e3) (.cons (IsD.mono (Tp.of e3) hx) hvs)
theorem ex_new {o : HO} {p : Addr} (h : H p = none) : Ex H (upd H p o) := Ex.new h
theorem tupAt_new {p : Addr} {o : Obj} {xs : List V} (hd : o.dict = none) : TupAt (upd H p (.frz o (.tup xs))) p xs := ⟨o, hd, upd_same⟩
theorem newT_is {vs : List V} (hs : IsDs H vs ds) {Q : VK} (k : ∀ v H2, Ex H H2 → IsD H2 v (.tuple ds) → Q v H2) : NewT H vs Q := fun p o hn hd =>
  k _ _ (Ex.new hn) (isTup_of (tupAt_new hd) (hs.mono (Tp.of (Ex.new hn))))
theorem ev_tup (h : EvDs ta σ H ds) (hz : ds.length ≤ 1000) : EvP (tTupF ta) σ H (Is (.tuple ds)) := fun H1 e Q k =>
  h H1 e _ fun vs H2 e2 hvs => ⟨by rw [hvs.length]; exact Nat.le_trans hz (by decide), newT_is hvs fun v H3 e3 hv => k v H3 (e2.trans e3) hv⟩
theorem evf_lst (h : EvDs ta σ H ds) (hz : ds.length ≤ 1000) : EvF (tLst ta) σ H ds := fun H1 e Q k =>
  h H1 e _ fun vs H2 e2 hvs => ⟨by rw [hvs.length]; exact Nat.le_trans hz (by decide), fun p hp => k p vs _ (Evl.fresh_back e2 hp) (e2.trans (Ex.new hp)) upd_same (hvs.mono (Tp.of (Ex.new hp)))⟩
/-- tuple(list) -/
theorem ev_tupOf (h : EvP te σ H (IsL K ds)) : EvP (tCB (rTupF K) (tCons te tNil)) σ H (Is (.tuple ds)) := fun H1 e Q k =>
  h H1 e _ fun v H2 e2 ⟨a, xs, ev, h1, h2⟩ => by
    subst ev
    exact ⟨a, xs, rfl, h1, newT_is h2 fun v H3 e3 hv => k v H3 (e2.trans e3) hv⟩
theorem rgV_ints (n : Nat) : rgV 0 n = (List.range n).map fun i => V.int (i : Nat) := by
  unfold rgV
  have : ((n : Int) - 0).toNat = n := by omega
  rw [this]
  refine List.map_congr_left fun i _ => ?_
  rw [Int.zero_add]
def rng (n : Nat) : List Int := (List.range n).map fun (i : Nat) => (i : Int)
theorem rgV_rng (n : Nat) : rgV 0 n = (rng n).map V.int := by
  rw [rgV_ints]; unfold rng; rw [List.map_map]; rfl
/-- tuple(range(n)) -/
theorem ev_tupRg {n : Nat} (h : EvP te σ H (Is (.int n))) (hn : n ≤ 1000) : EvP (tTupRgF (tRg1 te)) σ H (Is (dT (rng n))) := fun H1 e Q k =>
  h H1 e _ fun v H2 e2 hv => ⟨n, isInt_get hv, RgOk.of_le (by omega) (by omega) (by omega) (by omega), by
    rw [rgV_rng]
    exact newT_is (isDs_ints _) fun v H3 e3 hv => k v H3 (e2.trans e3) hv⟩
/-! ### + of tuples and of lists -/
theorem ev_cat (ha : EvP a σ H (Is (.tuple ds))) (hb : EvP b σ H (Is (.tuple es))) (hz : ds.length + es.length ≤ 1000) : EvP (tOp (rPlus K) a b) σ H (Is (.tuple (ds ++ es))) :=
  ev_op ha hb fun x y H1 _ hx hy Q k => by
    obtain ⟨a1, xs, rfl, t1, s1⟩ := isTup_get hx
    obtain ⟨a2, ys, rfl, t2, s2⟩ := isTup_get hy
    have l1 := s1.length
    have l2 := s2.length
    refine .inr (.inl ⟨a1, a2, xs, ys, rfl, rfl, t1.sq, t2.sq, Nat.le_trans (by omega : _ ≤ 1000) (by decide), fun z => ?_, fun z1 z2 => ?_, fun _ _ => newT_is (s1.append s2) k⟩)
    · subst z
      cases s1
      exact k _ _ (Ex.refl _) hy
    · subst z2
      cases s2
      rw [List.append_nil] at k
      exact k _ _ (Ex.refl _) hx
/-! ### items -/
theorem isDs_at {xs : List V} {i : Nat} {e : PyData} (h : IsDs H xs ds) (hi : ds[i]? = some e) : ∃ v, atI xs (i : Int) = some v ∧ IsD H v e := by
  obtain ⟨v, h1, h2⟩ := IsDs.get' h hi
  exact ⟨v, atI_nat h1, h2⟩
theorem ev_ix {i : Nat} {e : PyData} (ha : EvP a σ H (IsSq K ds)) (hb : EvP b σ H (Is (.int i))) (hi : ds[i]? = some e) : EvP (tOp (rIxU P w K) a b) σ H (Is e) :=
  ev_op ha hb fun x y H1 _ ⟨p, xs, ex, hq, hs⟩ hy Q k => by
    subst ex
    have ey := isInt_get hy
    subst ey
    obtain ⟨v, h1, h2⟩ := isDs_at hs hi
    rcases hq with hq | hq
    · exact .inl ⟨p, xs, _, v, rfl, rfl, hq, h1, k _ _ (Ex.refl _) h2⟩
    · exact .inr (.inl (.inl ⟨p, xs, _, v, rfl, rfl, hq, h1, k _ _ (Ex.refl _) h2⟩))
theorem ev_len (ha : EvP a σ H (IsSq K ds)) : EvP (tCB (rLenA P w K) (tCons a tNil)) σ H (Is (.int ds.length)) := fun H1 e Q k =>
  ha H1 e _ fun x H2 e2 ⟨p, xs, ex, hq, hs⟩ => by
    subst ex
    refine .inl (.inl ⟨p, xs, rfl, hq, ?_⟩)
    rw [hs.length]
    exact k _ _ e2 (IsD.int _)
/-! ### calls -/
theorem ev_call {sp : Sp} {E : XK} {ps : List PV} (ha : EvAs ta σ H ps) (h : ∀ vs H1, Ex H H1 → Als H1 ps vs → ∀ Q : VK, (∀ v H2, Ex H1 H2 → p H2 v → Q v H2) → sp vs H1 Q E) : EvP (tCall sp [] E ta) σ H p := fun H1 e Q k =>
  ha H1 e _ fun vs H2 e2 hvs => by
    show sp (vs ++ []) H2 Q E
    rw [List.append_nil]
    exact h vs H2 (e.trans e2) hvs Q fun v H3 e3 hv => k v H3 (e2.trans e3) hv
/-! ### statements -/
variable {D : Ends} {t u : TS} {i : Nat}
theorem s_asg (h : EvP te σ H p) (k : ∀ v H', Ex H H' → p H' v → u D (σ.set i (some v)) H') : tSeq (tAsg te (gName i)) u D σ H := h H (Ex.refl _) _ fun v H2 e hv => k v H2 e hv
theorem s_asgF (h : EvF te σ H ds) (k : ∀ a xs H', H a = none → Ex H H' → H' a = some (.lst xs) → IsDs H' xs ds → u D (σ.set i (some (.ref a))) H') : tSeq (tAsg te (gName i)) u D σ H := h H (Ex.refl _) _ fun a xs H2 n e ha hs => k a xs H2 n e ha hs
theorem s_ret (h : EvP te σ H p) (k : ∀ v H', Ex H H' → p H' v → D.rt v H') : tRet te D σ H := h H (Ex.refl _) _ fun v H2 e hv => k v H2 e hv
theorem s_retF (h : EvF te σ H ds) (k : ∀ a xs H', H a = none → Ex H H' → H' a = some (.lst xs) → IsDs H' xs ds → D.rt (.ref a) H') : tRet te D σ H := h H (Ex.refl _) _ fun a xs H2 n e ha hs => k a xs H2 n e ha hs
theorem s_if {b : Bool} (h : EvT tc σ H b) (k1 : b = true → ∀ H', Ex H H' → t D σ H') (k2 : b = false → ∀ H', Ex H H' → u D σ H') : tIfS tc t u D σ H := h H (Ex.refl _) _ fun H2 e => by
  cases b with
  | true => rw [if_pos rfl]; exact k1 rfl H2 e
  | false => rw [if_neg (by simp)]; exact k2 rfl H2 e
theorem s_ifs {b : Bool} {r : TS} (h : EvT tc σ H b) (k1 : b = true → ∀ H', Ex H H' → t { D with nx := r D } σ H') (k2 : b = false → ∀ H', Ex H H' → u { D with nx := r D } σ H') : tSeq (tIfS tc t u) r D σ H := s_if (D := { D with nx := r D }) h k1 k2
theorem s_ifF {r : TS} (h : EvT tc σ H false) (k : ∀ H', Ex H H' → r D σ H') : tSeq (tIfS tc t tNext) r D σ H := s_ifs h (fun z => by cases z) fun _ H' e => k H' e
theorem s_drop (h : EvP te σ H p) (k : ∀ v H', Ex H H' → p H' v → D.nx σ H') : tDrop te D σ H := h H (Ex.refl _) _ fun v H2 e hv => k v H2 e hv
end
end KC
end

section
set_option Elab.async false
set_option linter.all false
set_option autoImplicit false
set_option maxRecDepth 100000
set_option maxHeartbeats 4000000
/-! Comprehensions and walks. -/
namespace KC
open PySem L2
open Evl (Ex EvT)
section
variable {P : Program} {w : World} {K : PySem.W.Frag} {te tl td : TE} {tt : TT} {g : TG} {vs : List Nat} {σ : L2.St} {H H' : Hp} {p : PV} {β : Type}
theorem tp_upd {a : Addr} {o : HO} (h : ∀ ob xs, H a ≠ some (.frz ob (.tup xs))) : Tp H (upd H a o) := fun b ob xs e => by
  by_cases q : b = a
  · subst q; exact (h _ _ e).elim
  · rw [upd_ne q]; exact e
theorem tp_lst {a : Addr} {xs : List V} {o : HO} (h : H a = some (.lst xs)) : Tp H (upd H a o) := tp_upd fun ob ys e => by rw [h] at e; cases e
theorem tp_ext {a : Addr} {φ : Heap → Prop} {o : HO} (h : H a = some (.ext φ)) : Tp H (upd H a o) := tp_upd fun ob ys e => by rw [h] at e; cases e
theorem filter_take_snoc (b : β → Bool) (f : β → PyData) (bs : List β) {i : Nat} {x : β} (h : bs[i]? = some x) : ((bs.take (i + 1)).filter b).map f = ((bs.take i).filter b).map f ++ (if b x = true then [f x] else []) := by
  rw [List.take_add_one, h, List.filter_append, List.map_append]
  congr 1
  show (List.filter b [x]).map f = _
  by_cases q : b x = true
  · rw [List.filter_cons_of_pos q, if_pos q]; rfl
  · rw [List.filter_cons_of_neg q, if_neg q]; rfl
/-- one turn of a comprehension -/
def Turn1 (g : TG) (tt : TT) (te : TE) (vs : List Nat) (σ : L2.St) (H : Hp) (v : V) (b : Bool) (f : PyData) : Prop :=
  ∃ σ2, (∀ Q' : L2.St → Hp → Prop, Q' σ2 H → g v (wipe σ vs) H Q') ∧ wipe σ2 vs = wipe σ vs ∧ EvT tt σ2 H b ∧ (b = true → EvP te σ2 H (Is f))
theorem turn_core {g : TG} {tt : TT} {te : TE} {vs : List Nat} {σ : L2.St} {H1 H' : Hp} {D : Addr} {v : V} {bb : Bool} {f : PyData} {acc : List V} {ds : List PyData} {Nx : Hp → Prop}
    (hD : H1 D = none) (e1 : Ex H1 H') (ha : H' D = some (.lst acc)) (hs : IsDs H' acc ds) (hz : acc.length < sizeLine) (t : Turn1 g tt te vs σ H' v bb f)
    (k : ∀ H2 acc', Ex H1 H2 → H2 D = some (.lst acc') → IsDs H2 acc' (ds ++ (if bb = true then [f] else [])) → Nx H2) :
    g v (wipe σ vs) H' fun σ2 H2 => wipe σ2 vs = wipe σ vs ∧ tt σ2 H2 fun b H3 => if b = true then te σ2 H3 fun y H4 => ∃ acc, H4 D = some (.lst acc) ∧ acc.length < sizeLine ∧ Nx (upd H4 D (.lst (acc ++ [y]))) else Nx H3 := by
  obtain ⟨σ2, hg, hw, ht, he⟩ := t
  refine hg _ ⟨hw, ht H' (Ex.refl _) _ fun H3 e3 => ?_⟩
  cases bb with
  | false =>
    rw [if_neg (by simp)]
    exact k H3 acc (e1.trans e3) (e3 _ _ ha) (by simpa using hs.mono (Tp.of e3))
  | true =>
    rw [if_pos rfl]
    refine he rfl H3 e3 _ fun y H4 e4 hy => ⟨acc, e4 _ _ (e3 _ _ ha), hz, ?_⟩
    have hd4 := e4 _ _ (e3 _ _ ha)
    refine k _ (acc ++ [y]) (((e1.trans e3).trans e4).mut hD) upd_same ?_
    rw [if_pos rfl]
    exact IsDs.mono (tp_lst hd4) (IsDs.snoc (hs.mono (Tp.of (e3.trans e4))) hy)
theorem lenF {b : β → Bool} {f : β → PyData} {bs : List β} {i : Nat} : (((bs.take i).filter b).map f).length ≤ i := by
  rw [List.length_map]
  refine Nat.le_trans (List.length_filter_le _ _) ?_
  rw [List.length_take]
  omega
/-- [f(x) for x in xs if b(x)], xs a list or a tuple of data -/
theorem evf_lc (enc : β → PyData) (b : β → Bool) (f : β → PyData) (bs : List β) (hl : EvP tl σ H (IsSq K (bs.map enc))) (hz : bs.length ≤ sizeLine)
    (hs : ∀ x ∈ bs, ∀ v H', Ex H H' → IsD H' v (enc x) → Turn1 g tt te vs σ H' v (b x) (f x)) : EvF (tLc (iAny P w K tl) g tt te vs) σ H ((bs.filter b).map f) := fun H1 e Q k =>
  hl H1 e _ fun v H2 e2 ⟨a, xs, ev, hq, hx⟩ => by
    have hlen : xs.length = bs.length := by rw [hx.length, List.length_map]
    have step : ∀ (D : Addr) (i : Nat) (x : V) (H' : Hp) (Nx : Hp → Prop), H2 D = none → xs[i]? = some x → (Ex H2 H' ∧ ∃ acc, H' D = some (.lst acc) ∧ IsDs H' acc (((bs.take i).filter b).map f)) →
        (∀ H3, (Ex H2 H3 ∧ ∃ acc, H3 D = some (.lst acc) ∧ IsDs H3 acc (((bs.take (i + 1)).filter b).map f)) → Nx H3) →
        g x (wipe σ vs) H' fun σ2 H2 => wipe σ2 vs = wipe σ vs ∧ tt σ2 H2 fun b H3 => if b = true then te σ2 H3 fun y H4 => ∃ acc, H4 D = some (.lst acc) ∧ acc.length < sizeLine ∧ Nx (upd H4 D (.lst (acc ++ [y]))) else Nx H3 := by
      intro D i x H' Nx hD hi ⟨e3, acc, ha, hacc⟩ kn
      obtain ⟨d, hd, hxd⟩ := IsDs.get hx hi
      rw [List.getElem?_map] at hd
      cases hb : bs[i]? with
      | none => rw [hb] at hd; cases hd
      | some y =>
        rw [hb] at hd
        cases hd
        have hlt : i < xs.length := (List.getElem?_eq_some_iff.mp hi).1
        refine turn_core hD e3 ha hacc ?_ (hs y (List.mem_of_getElem? hb) x H' ((e.trans e2).trans e3) (hxd.mono (Tp.of e3))) fun H3 acc' e4 h4 h5 => kn H3 ⟨e4, acc', h4, ?_⟩
        · rw [hacc.length]
          have := lenF (b := b) (f := f) (bs := bs) (i := i)
          omega
        · rw [filter_take_snoc b f bs hb]; exact h5
    have fin : ∀ (D : Addr) (H' : Hp), H2 D = none → (Ex H2 H' ∧ ∃ acc, H' D = some (.lst acc) ∧ IsDs H' acc (((bs.take xs.length).filter b).map f)) → Q (.ref D) H' := by
      intro D H' hD ⟨e3, acc, ha, hacc⟩
      rw [hlen, List.take_length] at hacc
      exact k D acc H' (Evl.fresh_back e2 hD) (e2.trans e3) ha hacc
    rcases hq with hq | hq
    · refine .inl ⟨a, ev, ⟨xs, hq⟩, fun D hD => lc_list (K := K) (a := a) (xs := xs) (fun i H' => Ex H2 H' ∧ ∃ acc, H' D = some (.lst acc) ∧ IsDs H' acc (((bs.take i).filter b).map f)) ⟨Ex.new hD, [], upd_same, .nil⟩ (fun i H' _ q => Evl.ex_l q.1 hq) (fun i x H' hi q => step D i x H' _ hD hi q fun _ z => z) fun H' q => fin D H' hD q⟩
    · refine .inr (.inl ⟨a, ev, ⟨xs, hq⟩, fun D hD => lc_tup (K := K) (a := a) (xs := xs) (fun i H' => Ex H2 H' ∧ ∃ acc, H' D = some (.lst acc) ∧ IsDs H' acc (((bs.take i).filter b).map f)) ⟨Ex.new hD, [], upd_same, .nil⟩ (fun i H' _ q => Evl.ex_t q.1 hq) (fun i x H' hi q => step D i x H' _ hD hi q fun _ z => z) fun H' q => fin D H' hD q⟩)
/-- .. for k in range(n) -/
theorem evf_lcR {tn : TE} (b : Nat → Bool) (f : Nat → PyData) (n : Nat) (hl : EvP tn σ H (Is (.int n))) (hz : n ≤ 1000)
    (hs : ∀ x, x < n → ∀ H', Ex H H' → Turn1 g tt te vs σ H' (.int (x : Nat)) (b x) (f x)) : EvF (tLc (iRng1 (tCons tn tNil)) g tt te vs) σ H (((List.range n).filter b).map f) := fun H1 e Q k =>
  hl H1 e _ fun v H2 e2 hv => by
    have ev := isInt_get hv
    subst ev
    refine ⟨n, rfl, by omega, by omega, fun D hD => lc_range (lo := 0) (n := (n : Int).toNat) (fun i H' => Ex H2 H' ∧ ∃ acc, H' D = some (.lst acc) ∧ IsDs H' acc ((((List.range n).take i).filter b).map f)) ⟨Ex.new hD, [], upd_same, .nil⟩ (fun i H' hi ⟨e3, acc, ha, hacc⟩ => ?_) fun H' ⟨e3, acc, ha, hacc⟩ => ?_⟩
    · have hi' : i < n := by omega
      have hb : (List.range n)[i]? = some i := by rw [List.getElem?_range hi']
      have ez : (0 : Int) + (i : Nat) = (i : Nat) := Int.zero_add _
      rw [ez]
      refine turn_core hD e3 ha hacc ?_ (hs i hi' H' ((e.trans e2).trans e3)) fun H3 acc' e4 h4 h5 => ⟨e4, acc', h4, ?_⟩
      · rw [hacc.length]
        have := lenF (b := b) (f := f) (bs := List.range n) (i := i)
        have h0 : (1000 : Nat) < sizeLine := by decide
        omega
      · rw [filter_take_snoc b f _ hb]; exact h5
    · have : (n : Int).toNat = n := by omega
      rw [this, List.take_of_length_le (by rw [List.length_range]; exact Nat.le_refl _)] at hacc
      exact k D acc H' (Evl.fresh_back e2 hD) (e2.trans e3) ha hacc
/-! ### under a lock -/
/-- d, that holds the rows, is locked; all else of H stands -/
def Lk (P : Program) (w : World) (d : Addr) (od : Obj) (rows : List KRow) (H H' : Hp) : Prop := (∀ a o, a ≠ d → H a = some o → H' a = some o) ∧ H' d = some (.frz od (KDO P w d rows))
theorem Lk.ex {d : Addr} {od : Obj} {rows : List KRow} {H H' H'' : Hp} (h : Lk P w d od rows H H') (e : Ex H' H'') : Lk P w d od rows H H'' := ⟨fun a o n q => e _ _ (h.1 a o n q), e _ _ h.2⟩
theorem Lk.tp {d : Addr} {od : Obj} {rows : List KRow} {H H' : Hp} (h : Lk P w d od rows H H') (hd : H d = some (KDO P w d rows)) : Tp H H' := fun b o xs e => h.1 b _ (fun z => by subst z; rw [hd] at e; cases e) e
theorem Lk.rd {d : Addr} {od : Obj} {rows : List KRow} {H H' : Hp} (h : Lk P w d od rows H H') : RdD P w H' d rows := .inr ⟨od, h.2⟩
theorem lk_start {d : Addr} {od : Obj} {rows : List KRow} {H H1 : Hp} (e : Ex H H1) : Lk P w d od rows H (upd H1 d (.frz od (KDO P w d rows))) := ⟨fun a o n q => by rw [upd_ne n]; exact e _ _ q, upd_same⟩
theorem lc_kd {P : Program} {w : World} {d : Addr} {od : Obj} {rows : List KRow} {g : TG} {tt : TT} {te : TE} {vs : List Nat} {σ : L2.St} {H1 : Hp} {D : Addr} {Qd : Hp → Prop} (Pv : Nat → Hp → Prop) (h0 : Pv 0 (upd H1 D (.lst []))) (hl : ∀ i H, Pv i H → H d = some (.frz od (KDO P w d rows)))
    (hs : ∀ i r H, rows[i]? = some r → Pv i H → g (.ref r.2.1) (wipe σ vs) H fun σ2 H2 => wipe σ2 vs = wipe σ vs ∧ tt σ2 H2 fun b H3 =>
      if b = true then te σ2 H3 fun y H4 => ∃ acc, H4 D = some (.lst acc) ∧ acc.length < sizeLine ∧ Pv (i + 1) (upd H4 D (.lst (acc ++ [y]))) else Pv (i + 1) H3) (hd : ∀ H, Pv rows.length H → Qd H) :
    ∃ W : Nat → Nat → Hp → Prop, (∃ m, W 0 m (upd H1 D (.lst []))) ∧ ∀ i m H, W i m H →
      ((ItD P w d od rows).stop i H ∧ Qd H) ∨ ((ItD P w d od rows).go i H ∧ ∃ Nx : Hp → Prop, (∀ H', Nx H' → ∃ m', m' < m ∧ W (i + 1) m' H') ∧ ∀ x H', (ItD P w d od rows).yld i H x H' → g x (wipe σ vs) H' fun σ2 H2 => wipe σ2 vs = wipe σ vs ∧ tt σ2 H2 fun b H3 =>
        if b = true then te σ2 H3 fun y H4 => ∃ acc, H4 D = some (.lst acc) ∧ acc.length < sizeLine ∧ Nx (upd H4 D (.lst (acc ++ [y]))) else Nx H3) := by
  refine ⟨fun i m H => m = rows.length - i ∧ i ≤ rows.length ∧ Pv i H, ⟨rows.length, by simp, Nat.zero_le _, h0⟩, ?_⟩
  rintro i m H ⟨rfl, hi, p⟩
  have q := hl i H p
  by_cases hlt : i < rows.length
  · refine .inr ⟨⟨q, hlt⟩, Pv (i + 1), fun H' p' => ⟨rows.length - (i + 1), by omega, rfl, hlt, p'⟩, fun x H' y => ?_⟩
    obtain ⟨e, r, hr, ex⟩ := y
    subst e
    subst ex
    exact hs i r _ hr p
  · have e : i = rows.length := by omega
    subst e
    exact .inl ⟨⟨q, Nat.le_refl _⟩, hd H p⟩
/-- [f(x) for k in d if b(x)], d a dict whose rows stand for bs -/
theorem evf_lcD {d : Addr} {rows : List KRow} (b : β → Bool) (f : β → PyData) (bs : List β) (enc : β → NestedKey) (hd : H d = some (KDO P w d rows)) (hr : Paired (fun (r : KRow) x => r.1 = enc x ∧ KeyAt H r.1 r.2.1) rows bs) (hz : bs.length ≤ 100000)
    (htd : ∀ od H', Lk P w d od rows H H' → EvP td σ H' (IsR (.ref d)))
    (hs : ∀ x ∈ bs, ∀ v od H', Lk P w d od rows H H' → IsD H' v (enc x).data → Turn1 g tt te vs σ H' v (b x) (f x)) : EvF (tLockE (tLc (iAny P w K td) g tt te vs)) σ H ((bs.filter b).map f) := fun H1 e Q k => by
  refine ⟨d, _, e _ _ hd, trivial, fun od => ?_⟩
  have lk0 : Lk P w d od rows H (upd H1 d (.frz od (KDO P w d rows))) := lk_start e
  refine htd od _ lk0 _ (Ex.refl _) _ fun v H2 e2 ev => ?_
  have ev : v = .ref d := ev
  subst ev
  have lk2 := lk0.ex e2
  have hlen : rows.length = bs.length := Paired.length hr
  refine .inr (.inr ⟨d, od, rows, rfl, lk2.2, fun D hD => lc_kd (fun i H' => Ex H2 H' ∧ ∃ acc, H' D = some (.lst acc) ∧ IsDs H' acc (((bs.take i).filter b).map f)) ⟨Ex.new hD, [], upd_same, .nil⟩ (fun i H' q => q.1 _ _ lk2.2) (fun i r H' hi ⟨e3, acc, ha, hacc⟩ => ?_) fun H' ⟨e3, acc, ha, hacc⟩ => ?_⟩)
  · obtain ⟨x, hx, hrx⟩ := paired_at hr hi
    have hlt : i < rows.length := (List.getElem?_eq_some_iff.mp hi).1
    have lk3 := lk2.ex e3
    refine turn_core hD e3 ha hacc ?_ (hs x (List.mem_of_getElem? hx) (.ref r.2.1) od H' lk3 (by rw [← hrx.1]; exact hrx.2.1.mono (lk3.tp hd))) fun H3 acc' e4 h4 h5 => ⟨e4, acc', h4, ?_⟩
    · rw [hacc.length]
      have := lenF (b := b) (f := f) (bs := bs) (i := i)
      have h0 : (100000 : Nat) ≤ sizeLine := by decide
      omega
    · rw [filter_take_snoc b f bs hx]; exact h5
  · rw [hlen, List.take_length] at hacc
    have hDd : D ≠ d := fun z => by subst z; rw [lk2.2] at hD; cases hD
    have hD1 : H1 D = none := by
      have := Evl.fresh_back e2 hD
      rw [upd_ne hDd] at this
      exact this
    have lk3 := lk2.ex e3
    refine ⟨lk3.2, k D acc _ hD1 (fun a o q => ?_) (by rw [upd_ne hDd]; exact ha) (hacc.mono (tp_upd fun ob ys z => by rw [lk3.2] at z; cases z))⟩
    by_cases had : a = d
    · subst had
      rw [upd_same]
      exact (e _ _ hd).symm.trans q
    · rw [upd_ne had]
      exact e3 _ _ (e2 _ _ (by rw [upd_ne had]; exact q))
/-- for k in d: .. -/
theorem s_forD {D : Ends} {body : TS} {d : Addr} {rows : List KRow} (hd : H d = some (KDO P w d rows)) (htd : ∀ od H', Lk P w d od rows H H' → EvP td σ H' (IsR (.ref d))) (Pv : Nat → L2.St → Hp → Prop)
    (h0 : ∀ od H', Ex (upd H d (.frz od (KDO P w d rows))) H' → Pv 0 σ H')
    (hs : ∀ od i r σ' H', rows[i]? = some r → H' d = some (.frz od (KDO P w d rows)) → Pv i σ' H' → ∀ D' : Ends, (∀ σ3 H3, H3 d = some (.frz od (KDO P w d rows)) → Pv (i + 1) σ3 H3 → D'.nx σ3 H3) → g (.ref r.2.1) σ' H' fun σ2 H2 => body D' σ2 H2)
    (hn : ∀ od σ' H', H' d = some (.frz od (KDO P w d rows)) → Pv rows.length σ' H' → D.nx σ' (upd H' d (KDO P w d rows))) : tLock (tFor (iAny P w K td) g body) D σ H := by
  refine ⟨d, _, hd, trivial, fun od => ?_⟩
  refine htd od _ (lk_start (Ex.refl H)) _ (Ex.refl _) _ fun v H2 e2 ev => ?_
  have ev : v = .ref d := ev
  subst ev
  have h2 : H2 d = some (.frz od (KDO P w d rows)) := e2 _ _ upd_same
  refine .inr (.inr ⟨d, od, rows, rfl, h2, fun i m σ' H' => m = rows.length - i ∧ i ≤ rows.length ∧ H' d = some (.frz od (KDO P w d rows)) ∧ Pv i σ' H', ⟨rows.length, by simp, Nat.zero_le _, h2, h0 od H2 e2⟩, ?_⟩)
  rintro i m σ' H' ⟨rfl, hi, hl, p⟩
  by_cases hlt : i < rows.length
  · refine .inr ⟨⟨hl, hlt⟩, fun σ3 H3 => H3 d = some (.frz od (KDO P w d rows)) ∧ Pv (i + 1) σ3 H3, fun σ3 H3 p' => ⟨rows.length - (i + 1), by omega, rfl, hlt, p'.1, p'.2⟩, fun x H3 y => ?_⟩
    obtain ⟨e, r, hr, ex⟩ := y
    subst e
    subst ex
    exact hs od i r σ' _ hr hl p _ fun σ3 H4 q1 q2 => ⟨q1, q2⟩
  · have e : i = rows.length := by omega
    subst e
    exact .inl ⟨⟨hl, Nat.le_refl _⟩, hl, hn od σ' H' hl p⟩
end
end KC
end

section
set_option Elab.async false
set_option linter.all false
set_option autoImplicit false
set_option maxRecDepth 100000
set_option maxHeartbeats 4000000
/-! Dicts whose keys are tuples, told by plain association lists. -/
namespace KC
open PySem L2
open Evl (Ex EvT)
/-! ### the keys -/
def encT (T : List Int) : NestedKey := .tup (T.map NestedKey.num)
def encR (r : List Int × Int) : NestedKey := .tup [encT r.1, .num r.2]
theorem datas_num : ∀ T : List Int, NestedKey.datas (T.map NestedKey.num) = T.map PyData.int
  | [] => by rw [List.map_nil, NestedKey.datas]; rfl
  | x :: T => by rw [List.map_cons, NestedKey.datas, datas_num T, NestedKey.data]; rfl
theorem data_T (T : List Int) : (encT T).data = dT T := by unfold encT; rw [NestedKey.data, datas_num]
theorem data_R (r : List Int × Int) : (encR r).data = .tuple [dT r.1, .int r.2] := by
  unfold encR
  rw [NestedKey.data, NestedKey.datas, NestedKey.datas, NestedKey.datas, data_T, NestedKey.data]
theorem depths_num : ∀ T : List Int, NestedKey.depthAll (T.map NestedKey.num) = 0
  | [] => by rw [List.map_nil, NestedKey.depthAll]
  | x :: T => by rw [List.map_cons, NestedKey.depthAll, depths_num T, NestedKey.depth]; rfl
theorem depth_T (T : List Int) : (encT T).depth ≤ 8 := by unfold encT; rw [NestedKey.depth, depths_num]; decide
theorem depth_R (r : List Int × Int) : (encR r).depth ≤ 8 := by
  have h1 : (encT r.1).depth = 1 := by unfold encT; rw [NestedKey.depth, depths_num]
  have h2 : (NestedKey.num r.2).depth = 0 := by rw [NestedKey.depth]
  unfold encR
  rw [NestedKey.depth, NestedKey.depthAll, NestedKey.depthAll, NestedKey.depthAll, h1, h2]
  decide
theorem num_inj : ∀ {S T : List Int}, S.map NestedKey.num = T.map NestedKey.num → S = T
  | [], [], _ => rfl
  | [], _ :: _, h => by simp at h
  | _ :: _, [], h => by simp at h
  | x :: S, y :: T, h => by
    rw [List.map_cons, List.map_cons] at h
    injection h with h1 h2
    injection h1 with h1
    rw [h1, num_inj h2]
theorem encT_inj {S T : List Int} (h : encT S = encT T) : S = T := by
  unfold encT at h
  injection h with h
  exact num_inj h
theorem encR_inj {r t : List Int × Int} (h : encR r = encR t) : r = t := by
  unfold encR at h
  injection h with h
  injection h with h1 h2
  injection h2 with h2 _
  injection h2 with h2
  exact Prod.ext (encT_inj h1) h2
theorem keyAt_T {H : Hp} {T : List Int} {a : Addr} (h : IsD H (.ref a) (dT T)) : KeyAt H (encT T) a := ⟨by rw [data_T]; exact h, depth_T T⟩
theorem keyAt_R {H : Hp} {r : List Int × Int} {a : Addr} (h : IsD H (.ref a) (.tuple [dT r.1, .int r.2])) : KeyAt H (encR r) a := ⟨by rw [data_R]; exact h, depth_R r⟩
theorem KeyAt.isT {H : Hp} {T : List Int} {a : Addr} (h : KeyAt H (encT T) a) : IsD H (.ref a) (dT T) := by
  have := h.1
  rw [data_T] at this
  exact this
/-! ### rows and association lists -/
section
variable {κ α : Type} [DecidableEq κ] {enc : κ → NestedKey} {val : Hp → V → α → Prop} {H H' : Hp} {rows : List KRow} {m : List (κ × α)} {P : Program} {w : World} {d : Addr}
def DD (enc : κ → NestedKey) (val : Hp → V → α → Prop) (H : Hp) (rows : List KRow) (m : List (κ × α)) : Prop := Paired (fun (r : KRow) (e : κ × α) => r.1 = enc e.1 ∧ KeyAt H r.1 r.2.1 ∧ val H r.2.2 e.2) rows m
def MnV (val : Hp → V → α → Prop) : Prop := ∀ (H H' : Hp) (v : V) (x : α), Tp H H' → val H v x → val H' v x
theorem DD.keys (h : DD enc val H rows m) : KeysAt H rows := by
  intro r hr
  obtain ⟨i, hi⟩ := List.getElem?_of_mem hr
  obtain ⟨e, _, q⟩ := paired_at h hi
  exact q.2.1
theorem DD.len (h : DD enc val H rows m) : rows.length = m.length := Paired.length h
theorem DD.mono (mv : MnV val) (e : Tp H H') (h : DD enc val H rows m) : DD enc val H' rows m := Paired.mapP h fun r x q => ⟨q.1, q.2.1.mono e, mv _ _ _ _ e q.2.2⟩
theorem DD.pairs {β : Type} {f : κ × α → β} {en : β → NestedKey} (h : DD enc val H rows m) (he : ∀ e, en (f e) = enc e.1) : Paired (fun (r : KRow) x => r.1 = en x ∧ KeyAt H r.1 r.2.1) rows (m.map f) := by
  unfold DD at h
  induction h with
  | nil => exact .nil
  | cons a t ih => exact .cons ⟨a.1.trans (he _).symm, a.2.1⟩ ih
theorem DD.look (inj : ∀ {a b}, enc a = enc b → a = b) (h : DD enc val H rows m) (k : κ) : (getG m k = none ∧ kdLook rows (enc k) = none) ∨ ∃ x v, getG m k = some x ∧ kdLook rows (enc k) = some v ∧ val H v x := by
  unfold DD at h
  induction h with
  | nil => exact .inl ⟨rfl, rfl⟩
  | @cons r e rs es a t ih =>
    rw [getG_cons, kdLook_cons]
    by_cases q : e.1 = k
    · rw [if_pos q, if_pos (by rw [a.1, q])]
      exact .inr ⟨_, _, rfl, rfl, a.2.2⟩
    · rw [if_neg q, if_neg (fun z => q (inj (a.1.symm.trans z)))]
      exact ih
theorem DD.look_some (inj : ∀ {a b}, enc a = enc b → a = b) (h : DD enc val H rows m) {k : κ} {x : α} (e : getG m k = some x) : ∃ v, kdLook rows (enc k) = some v ∧ val H v x := by
  rcases h.look inj k with ⟨h1, _⟩ | ⟨y, v, h1, h2, h3⟩
  · rw [h1] at e; cases e
  · rw [h1] at e; cases e; exact ⟨v, h2, h3⟩
theorem DD.look_none (inj : ∀ {a b}, enc a = enc b → a = b) (h : DD enc val H rows m) {k : κ} (e : getG m k = none) : kdLook rows (enc k) = none := by
  rcases h.look inj k with ⟨_, h2⟩ | ⟨y, v, h1, h2, h3⟩
  · exact h2
  · rw [h1] at e; cases e
theorem DD.isSome (inj : ∀ {a b}, enc a = enc b → a = b) (h : DD enc val H rows m) (k : κ) : (kdLook rows (enc k)).isSome = (getG m k).isSome := by
  rcases h.look inj k with ⟨h1, h2⟩ | ⟨y, v, h1, h2, h3⟩ <;> rw [h1, h2] <;> rfl
theorem DD.repl (inj : ∀ {a b}, enc a = enc b → a = b) {k : κ} {x : α} {v : V} (hv : val H v x) (h : DD enc val H rows m) :
    DD enc val H (rows.map fun r => if r.1 = enc k then (r.1, r.2.1, v) else r) (m.map fun e => if e.1 = k then (e.1, x) else e) := by
  unfold DD at h ⊢
  induction h with
  | nil => exact .nil
  | @cons r e rs es a t ih =>
    rw [List.map_cons, List.map_cons]
    refine .cons ?_ ih
    by_cases z : e.1 = k
    · rw [if_pos z, if_pos (by rw [a.1, z])]
      exact ⟨a.1, a.2.1, hv⟩
    · rw [if_neg z, if_neg (fun y => z (inj (a.1.symm.trans y)))]
      exact a
theorem DD.put (inj : ∀ {a b}, enc a = enc b → a = b) (h : DD enc val H rows m) {k : κ} {x : α} {q : Addr} {v : V} (hq : KeyAt H (enc k) q) (hv : val H v x) : DD enc val H (kdPut rows (enc k) q v) (putG m k x) := by
  unfold kdPut putG
  rw [h.isSome inj k]
  split
  · exact DD.repl inj hv h
  · exact paired_append h (.cons ⟨rfl, hq, hv⟩ .nil)
theorem DD.drop (inj : ∀ {a b}, enc a = enc b → a = b) (h : DD enc val H rows m) (k : κ) : DD enc val H (kdDrop rows (enc k)) (dropG m k) := by
  unfold DD at h
  induction h with
  | nil => exact .nil
  | @cons r e rs es a t ih =>
    unfold kdDrop dropG
    by_cases z : e.1 = k
    · rw [List.filter_cons_of_neg (by simp [a.1, z]), List.filter_cons_of_neg (by simp [z])]
      exact ih
    · have z' : ¬ r.1 = enc k := fun y => z (inj (a.1.symm.trans y))
      rw [List.filter_cons_of_pos (by simp [z']), List.filter_cons_of_pos (by simp [z])]
      exact .cons a ih
/-! ### what the values are -/
def vInt : Hp → V → Int → Prop := fun _ v i => v = .int i
def vRef : Hp → V → Addr → Prop := fun _ v a => v = .ref a
def vBl : Hp → V → Bool → Prop := fun _ v b => v = .bl b
def vCS : Hp → V → Int × Int → Prop := fun H v x => IsD H v (.tuple [.int x.1, .int x.2])
theorem mv_int : MnV vInt := fun _ _ _ _ _ h => h
theorem mv_ref : MnV vRef := fun _ _ _ _ _ h => h
theorem mv_bl : MnV vBl := fun _ _ _ _ _ h => h
theorem mv_cs : MnV vCS := fun _ _ _ _ e h => IsD.mono e h
/-! ### a dict that stands at d -/
def DAt (P : Program) (w : World) (enc : κ → NestedKey) (val : Hp → V → α → Prop) (H : Hp) (d : Addr) (m : List (κ × α)) : Prop := ∃ rows, H d = some (KDO P w d rows) ∧ DD enc val H rows m
/-- .. or stands locked -/
def DRd (P : Program) (w : World) (enc : κ → NestedKey) (val : Hp → V → α → Prop) (H : Hp) (d : Addr) (m : List (κ × α)) : Prop := ∃ rows, RdD P w H d rows ∧ DD enc val H rows m
theorem DAt.rd (h : DAt P w enc val H d m) : DRd P w enc val H d m := let ⟨rows, h1, h2⟩ := h; ⟨rows, .inl h1, h2⟩
theorem DAt.ex (mv : MnV val) (e : Ex H H') (h : DAt P w enc val H d m) : DAt P w enc val H' d m := let ⟨rows, h1, h2⟩ := h; ⟨rows, e _ _ h1, h2.mono mv (Tp.of e)⟩
theorem DRd.ex (mv : MnV val) (e : Ex H H') (h : DRd P w enc val H d m) : DRd P w enc val H' d m := let ⟨rows, h1, h2⟩ := h; ⟨rows, h1.imp (fun q => e _ _ q) fun ⟨o, q⟩ => ⟨o, e _ _ q⟩, h2.mono mv (Tp.of e)⟩
theorem DAt.keep (mv : MnV val) (e : Tp H H') (hd : H' d = H d) (h : DAt P w enc val H d m) : DAt P w enc val H' d m := let ⟨rows, h1, h2⟩ := h; ⟨rows, hd.trans h1, h2.mono mv e⟩
theorem dAt_new (enc : κ → NestedKey) (val : Hp → V → α → Prop) (d : Addr) : DAt P w enc val (upd H d (KDO P w d [])) d [] := ⟨[], upd_same, .nil⟩
theorem kdo_ext (P : Program) (w : World) (d : Addr) (rows : List KRow) : ∃ φ, KDO P w d rows = .ext φ := ⟨_, rfl⟩
theorem tp_kd {a : Addr} {rows : List KRow} {o : HO} (h : H a = some (KDO P w d rows)) : Tp H (upd H a o) := tp_ext (φ := _) h
/-! ### what is read of it -/
variable {td tk tz : TE} {σ : L2.St} {K : PySem.W.Frag} {k : κ}
theorem len_ok (h : rows.length = m.length) : rows.length = m.length := h
/-- the key as an evaluated tuple -/
abbrev IsK (enc : κ → NestedKey) (k : κ) : PV := Is (enc k).data
theorem isK_at {v : V} (h : IsD H v (enc k).data) (hd : (enc k).depth ≤ 8) (ht : ∃ ds, (enc k).data = .tuple ds) : ∃ q, v = .ref q ∧ KeyAt H (enc k) q := by
  obtain ⟨ds, e⟩ := ht
  have h' := h
  rw [e] at h'
  obtain ⟨a, vs, rfl, _, _⟩ := isTup_get h'
  exact ⟨a, rfl, h, hd⟩
class KeyE (enc : κ → NestedKey) : Prop where
  inj : ∀ {a b}, enc a = enc b → a = b
  dep : ∀ k, (enc k).depth ≤ 8
  tup : ∀ k, ∃ ds, (enc k).data = .tuple ds
instance : KeyE encT := ⟨encT_inj, depth_T, fun k => ⟨_, data_T k⟩⟩
instance : KeyE encR := ⟨encR_inj, depth_R, fun k => ⟨_, data_R k⟩⟩
theorem keyOf [KeyE enc] {v : V} (h : IsD H v (enc k).data) : ∃ q, v = .ref q ∧ KeyAt H (enc k) q := isK_at h (KeyE.dep k) (KeyE.tup k)
theorem ev_ixD [KeyE enc] (mv : MnV val) {x : α} (hd : EvP td σ H (IsR (.ref d))) (hk : EvP tk σ H (IsK enc k)) (h : DRd P w enc val H d m) (hg : getG m k = some x) : EvP (tOp (rIxU P w K) td tk) σ H (fun H v => val H v x) :=
  ev_op hd hk fun a b H1 e ha hb Q kk => by
    have ha : a = .ref d := ha
    subst ha
    obtain ⟨q, rfl, hq⟩ := keyOf hb
    obtain ⟨rows, hr, hD⟩ := h.ex mv e
    obtain ⟨v, h1, h2⟩ := hD.look_some KeyE.inj hg
    exact .inr (.inr ⟨d, q, rows, enc k, v, rfl, rfl, hr, hD.keys, hq, h1, kk v H1 (Ex.refl _) h2⟩)
theorem ev_inD [KeyE enc] (mv : MnV val) (hk : EvP tk σ H (IsK enc k)) (hd : EvP td σ H (IsR (.ref d))) (h : DRd P w enc val H d m) : EvP (tOp (rInU P w K false) tk td) σ H (Is (.bool (getG m k).isSome)) :=
  ev_op hk hd fun a b H1 e ha hb Q kk => by
    have hb : b = .ref d := hb
    subst hb
    obtain ⟨q, rfl, hq⟩ := keyOf ha
    obtain ⟨rows, hr, hD⟩ := h.ex mv e
    refine .inr ⟨d, q, rows, enc k, rfl, rfl, hr, hD.keys, hq, ?_⟩
    rw [if_neg (by simp), hD.isSome KeyE.inj k]
    exact kk _ H1 (Ex.refl _) (IsD.bl _)
theorem ev_ninD [KeyE enc] (mv : MnV val) (hk : EvP tk σ H (IsK enc k)) (hd : EvP td σ H (IsR (.ref d))) (h : DRd P w enc val H d m) : EvP (tOp (rInU P w K true) tk td) σ H (Is (.bool (!(getG m k).isSome))) :=
  ev_op hk hd fun a b H1 e ha hb Q kk => by
    have hb : b = .ref d := hb
    subst hb
    obtain ⟨q, rfl, hq⟩ := keyOf ha
    obtain ⟨rows, hr, hD⟩ := h.ex mv e
    refine .inr ⟨d, q, rows, enc k, rfl, rfl, hr, hD.keys, hq, ?_⟩
    rw [if_pos rfl, hD.isSome KeyE.inj k]
    exact kk _ H1 (Ex.refl _) (IsD.bl _)
theorem ev_lenD (mv : MnV val) (hd : EvP td σ H (IsR (.ref d))) (h : DRd P w enc val H d m) : EvP (tCB (rLenA P w K) (tCons td tNil)) σ H (Is (.int m.length)) := fun H1 e Q kk =>
  hd H1 e _ fun v H2 e2 ev => by
    have ev : v = .ref d := ev
    subst ev
    obtain ⟨rows, hr, hD⟩ := h.ex mv (e.trans e2)
    refine .inl (.inr (.inl ⟨d, rows, rfl, hr, hD.keys, ?_⟩))
    rw [hD.len]
    exact kk _ H2 e2 (IsD.int _)
/-- d.get(k, z) -/
theorem ev_getD [KeyE enc] (mv : MnV val) {z : α} {p : PV} [Mn p] (hd : EvP td σ H (IsR (.ref d))) (hk : EvP tk σ H (IsK enc k)) (hz : EvP tz σ H p) (hp : ∀ H v, p H v → val H v z) (h : DRd P w enc val H d m) :
    EvP (tBG P w K "dict" (rKGet P w) td (tCons tk (tCons tz tNil))) σ H (fun H v => val H v ((getG m k).getD z)) := fun H1 e Q kk =>
  hd H1 e _ fun v H2 e2 ev => by
    have ev : v = .ref d := ev
    subst ev
    obtain ⟨rows2, hr2, _⟩ := h.ex mv (e.trans e2)
    refine ⟨.inr (.inr ⟨d, rows2, rfl, rfl, hr2⟩), hk H2 (e.trans e2) _ fun u H3 e3 hu => hz H3 ((e.trans e2).trans e3) _ fun y H4 e4 hy => ?_⟩
    obtain ⟨q, rfl, hq⟩ := keyOf hu
    obtain ⟨rows, hr, hD⟩ := h.ex mv (((e.trans e2).trans e3).trans e4)
    refine ⟨d, q, rows, enc k, y, rfl, rfl, hr, hD.keys, hq.mono (Tp.of e4), kk _ H4 ((e2.trans e3).trans e4) ?_⟩
    rcases hD.look KeyE.inj k with ⟨h1, h2⟩ | ⟨x, u, h1, h2, h3⟩
    · rw [h1, h2]; exact hp _ _ hy
    · rw [h1, h2]; exact h3
/-! ### what is written into it -/
theorem putD_core [KeyE enc] (mv : MnV val) {x : α} {v : V} {q : Addr} (h : DAt P w enc val H d m) (hq : KeyAt H (enc k) q) (hv : val H v x) (hz : m.length ≤ 100000) {Q : Hp → Prop}
    (kk : ∀ o, Tp H (upd H d o) → (∃ φ, H d = some (.ext φ)) → DAt P w enc val (upd H d o) d (putG m k x) → Q (upd H d o)) : rSetU P w (.ref d) (.ref q) v H Q := by
  obtain ⟨rows, h1, h2⟩ := h
  have ht : Tp H (upd H d (KDO P w d (kdPut rows (enc k) q v))) := tp_kd h1
  refine .inr ⟨d, q, rows, enc k, rfl, rfl, h1, h2.keys, hq, ?_, kk _ ht ⟨_, h1⟩ ⟨_, upd_same, (h2.put KeyE.inj hq hv).mono mv ht⟩⟩
  rw [h2.len]
  have : (100000 : Nat) < sizeLine := by decide
  omega
theorem popD_core [KeyE enc] (mv : MnV val) {x : α} {q : Addr} (h : DAt P w enc val H d m) (hq : KeyAt H (enc k) q) (hg : getG m k = some x) {Q : VK}
    (kk : ∀ v o, val H v x → Tp H (upd H d o) → (∃ φ, H d = some (.ext φ)) → DAt P w enc val (upd H d o) d (dropG m k) → Q v (upd H d o)) : rKPop P w (.ref d) [.ref q] H Q := by
  obtain ⟨rows, h1, h2⟩ := h
  have ht : Tp H (upd H d (KDO P w d (kdDrop rows (enc k)))) := tp_kd h1
  obtain ⟨v, h3, h4⟩ := h2.look_some KeyE.inj hg
  exact ⟨d, q, rows, enc k, v, rfl, rfl, h1, h2.keys, hq, h3, kk v _ h4 ht ⟨_, h1⟩ ⟨_, upd_same, (h2.drop KeyE.inj k).mono mv ht⟩⟩
theorem dropG_none {m : List (κ × α)} {k : κ} (h : getG m k = none) : dropG m k = m := by
  unfold dropG
  refine List.filter_eq_self.mpr fun e he => decide_eq_true fun z => ?_
  exact getG_none.mp h (List.mem_map.mpr ⟨e, he, z⟩)
theorem popD2_core [KeyE enc] (mv : MnV val) {q : Addr} {z : V} (h : DAt P w enc val H d m) (hq : KeyAt H (enc k) q) {Q : VK}
    (kk : ∀ v o, Tp H (upd H d o) → (∃ φ, H d = some (.ext φ)) → DAt P w enc val (upd H d o) d (dropG m k) → Q v (upd H d o)) (kn : getG m k = none → Q z H) : rKPop2 P w (.ref d) [.ref q, z] H Q := by
  obtain ⟨rows, h1, h2⟩ := h
  have ht : Tp H (upd H d (KDO P w d (kdDrop rows (enc k)))) := tp_kd h1
  refine ⟨d, q, rows, enc k, z, rfl, rfl, h1, h2.keys, hq, fun v _ => kk v _ ht ⟨_, h1⟩ ⟨_, upd_same, (h2.drop KeyE.inj k).mono mv ht⟩, fun hn => kn ?_⟩
  have := h2.isSome KeyE.inj k
  rw [hn] at this
  cases e : getG m k with
  | none => rfl
  | some x => rw [e] at this; cases this
end
end KC
end

section
set_option Elab.async false
set_option linter.all false
set_option autoImplicit false
set_option maxRecDepth 100000
set_option maxHeartbeats 4000000
/-! Sorting of data: the order of what came in does not matter. -/
namespace KC
open PySem L2 PySem.W PyProof.Rows
mutual
def pureD : PyData → Bool
  | .none => true
  | .int _ => true
  | .str _ => true
  | .tuple xs => pureAll xs
  | .bool _ => false
  | .list _ => false
  | .dict _ => false
def pureAll : List PyData → Bool
  | [] => true
  | x :: xs => pureD x && pureAll xs
end
mutual
theorem eqv_pure : ∀ (x y : PyData), pureD x = true → pureD y = true → PyData.eqv x y = true → x = y
  | .none, .none, _, _, _ => rfl
  | .int a, .int b, _, _, h => by rw [PyData.eqv] at h; rw [eq_of_beq h]
  | .str a, .str b, _, _, h => by rw [PyData.eqv] at h; rw [eq_of_beq h]
  | .tuple xs, .tuple ys, h1, h2, h => by
    rw [pureD] at h1 h2
    rw [PyData.eqv] at h
    rw [eqv_pureAll xs ys h1 h2 h]
  | .none, .int _, _, _, h | .none, .str _, _, _, h | .none, .tuple _, _, _, h => by rw [PyData.eqv] at h; cases h
  | .int _, .none, _, _, h | .int _, .str _, _, _, h | .int _, .tuple _, _, _, h => by rw [PyData.eqv] at h; cases h
  | .str _, .none, _, _, h | .str _, .int _, _, _, h | .str _, .tuple _, _, _, h => by rw [PyData.eqv] at h; cases h
  | .tuple _, .none, _, _, h | .tuple _, .int _, _, _, h | .tuple _, .str _, _, _, h => by rw [PyData.eqv] at h; cases h
  | .bool _, _, h, _, _ => by rw [pureD] at h; cases h
  | .list _, _, h, _, _ => by rw [pureD] at h; cases h
  | .dict _, _, h, _, _ => by rw [pureD] at h; cases h
  | .none, .bool _, _, h, _ | .int _, .bool _, _, h, _ | .str _, .bool _, _, h, _ | .tuple _, .bool _, _, h, _ => by rw [pureD] at h; cases h
  | .none, .list _, _, h, _ | .int _, .list _, _, h, _ | .str _, .list _, _, h, _ | .tuple _, .list _, _, h, _ => by rw [pureD] at h; cases h
  | .none, .dict _, _, h, _ | .int _, .dict _, _, h, _ | .str _, .dict _, _, h, _ | .tuple _, .dict _, _, h, _ => by rw [pureD] at h; cases h
theorem eqv_pureAll : ∀ (xs ys : List PyData), pureAll xs = true → pureAll ys = true → PyData.eqvAll xs ys = true → xs = ys
  | [], [], _, _, _ => rfl
  | x :: xs, y :: ys, h1, h2, h => by
    rw [pureAll, Bool.and_eq_true] at h1 h2
    rw [PyData.eqvAll, Bool.and_eq_true] at h
    rw [eqv_pure x y h1.1 h2.1 h.1, eqv_pureAll xs ys h1.2 h2.2 h.2]
  | [], _ :: _, _, _, h => by rw [PyData.eqvAll] at h; cases h
  | _ :: _, [], _, _, h => by rw [PyData.eqvAll] at h; cases h
end
theorem pure_ints : ∀ (T : List Int), pureAll (T.map PyData.int) = true
  | [] => by rw [List.map_nil, pureAll]
  | x :: T => by rw [List.map_cons, pureAll, pureD, pure_ints T]; rfl
theorem pure_T (T : List Int) : pureD (dT T) = true := by rw [pureD, pure_ints]
theorem lex_ext (t : List (Int ⊕ List Nat)) : lexLt itemOrd t (t ++ [.inl 0]) = true := by
  have := lex_pre t [] [.inl 0]
  rw [List.append_nil] at this
  rw [this]; rfl
theorem eq_of_le {x y : PyData} (hx : pureD x = true) (hy : pureD y = true) (ha : alike x y = true) (h1 : dataLe false id x y = true) (h2 : dataLe false id y x = true) : x = y := by
  have e1 : lexLt itemOrd (keyToks y) (keyToks x) = false := by
    have h1 : (!(listOrd itemOrd).blt (keyToks y) (keyToks x)) = true := h1
    rwa [Bool.not_eq_true'] at h1
  have e2 : lexLt itemOrd (keyToks x) (keyToks y) = false := by
    have h2 : (!(listOrd itemOrd).blt (keyToks x) (keyToks y)) = true := h2
    rwa [Bool.not_eq_true'] at h2
  have et : keyToks x = keyToks y := (listOrd itemOrd).total _ _ e2 e1
  refine eqv_pure x y hx hy ?_
  cases he : PyData.eqv x y with
  | true => rfl
  | false =>
    have q := (toks_eqv x y ha).2 he [] [.inl 0]
    rw [List.append_nil, et, lex_ext] at q
    have q2 := (listOrd itemOrd).irrefl (keyToks y)
    have q2 : lexLt itemOrd (keyToks y) (keyToks y) = false := q2
    rw [q2] at q
    cases q
theorem sorted_unique {α : Type} {le : α → α → Bool} : ∀ {l m : List α}, l.Perm m → l.Pairwise (fun a b => le a b = true) → m.Pairwise (fun a b => le a b = true) → (∀ a ∈ l, ∀ b ∈ l, le a b = true → le b a = true → a = b) → l = m
  | [], m, p, _, _, _ => (List.Perm.nil_eq p)
  | x :: l, m, p, hl, hm, anti => by
    cases m with
    | nil => exact absurd p.length_eq (by simp)
    | cons y m =>
      rw [List.pairwise_cons] at hl hm
      have hxy : x = y := by
        have hx : x ∈ y :: m := p.mem_iff.mp List.mem_cons_self
        have hy : y ∈ x :: l := p.mem_iff.mpr List.mem_cons_self
        rcases List.mem_cons.mp hx with e | hx'
        · exact e
        · rcases List.mem_cons.mp hy with e | hy'
          · exact e.symm
          · exact anti x List.mem_cons_self y hy (hl.1 y hy') (hm.1 x hx')
      subst hxy
      rw [sorted_unique (List.Perm.cons_inv p) hl.2 hm.2 fun a ha b hb => anti a (List.mem_cons_of_mem _ ha) b (List.mem_cons_of_mem _ hb)]
abbrev dle : PyData → PyData → Bool := dataLe false id
theorem dle_total : TotalLe dle := sortLe_total _ _ _
theorem sort_perm {l m : List PyData} (p : l.Perm m) (hp : ∀ d ∈ l, pureD d = true) (hal : AllAlike l) : l.mergeSort dle = m.mergeSort dle := by
  refine sorted_unique (((List.mergeSort_perm l dle).trans p).trans (List.mergeSort_perm m dle).symm) (sort_pairwise dle_total l) (sort_pairwise dle_total m) fun a ha b hb h1 h2 => ?_
  have ha' := (List.mergeSort_perm l dle).mem_iff.mp ha
  have hb' := (List.mergeSort_perm l dle).mem_iff.mp hb
  exact eq_of_le (hp a ha') (hp b hb') (hal a ha' b hb') h1 h2
theorem AllAlike.perm {l m : List PyData} (p : l.Perm m) (h : AllAlike l) : AllAlike m := fun d hd e he => h d (p.mem_iff.mpr hd) e (p.mem_iff.mpr he)
theorem alike_T (S T : List Int) : alike (dT S) (dT T) = true := by
  show alike (.tuple _) (.tuple _) = true
  rw [alike]
  exact alike_ints S T
/-! the three shapes we sort -/
def entD (e : List Int × (Int × Int)) : PyData := .tuple [dT e.1, .int e.2.1, .int e.2.2]
def triD (e : Int × Int × List Int) : PyData := .tuple [.int e.1, .int e.2.1, dT e.2.2]
theorem alike_ent (a b : List Int × (Int × Int)) : alike (entD a) (entD b) = true := by
  unfold entD
  rw [alike, alikeAll, alikeAll, alikeAll, alikeAll, alike_T, alike]; rfl
theorem alike_tri (a b : Int × Int × List Int) : alike (triD a) (triD b) = true := by
  unfold triD
  rw [alike, alikeAll, alikeAll, alikeAll, alikeAll, alike_T, alike]; rfl
theorem pure_ent (a : List Int × (Int × Int)) : pureD (entD a) = true := by
  unfold entD
  rw [pureD, pureAll, pureAll, pureAll, pureAll, pure_T, pureD]; rfl
theorem pure_tri (a : Int × Int × List Int) : pureD (triD a) = true := by
  unfold triD
  rw [pureD, pureAll, pureAll, pureAll, pureAll, pure_T, pureD]; rfl
theorem depth_T' (T : List Int) : (dT T).depth ≤ 1 := by
  have := depth_ints T
  show PyData.depth (.tuple _) ≤ 1
  rw [PyData.depth]
  have h2 : PyData.depthAll (T.map PyData.int) = 0 := depth_ints T
  omega
theorem depth_i (i : Int) : (PyData.int i).depth = 0 := by rw [PyData.depth]
theorem depth_ent (a : List Int × (Int × Int)) : (entD a).depth ≤ 50 := by
  have h1 := depth_T' a.1
  have h2 := depth_i a.2.1
  have h3 := depth_i a.2.2
  unfold entD
  rw [PyData.depth.eq_def]
  show PyData.depthAll [_, _, _] + 1 ≤ 50
  rw [PyData.depthAll, PyData.depthAll, PyData.depthAll, PyData.depthAll]
  omega
theorem depth_tri (a : Int × Int × List Int) : (triD a).depth ≤ 50 := by
  have h1 := depth_T' a.2.2
  have h2 := depth_i a.1
  have h3 := depth_i a.2.1
  unfold triD
  rw [PyData.depth.eq_def]
  show PyData.depthAll [_, _, _] + 1 ≤ 50
  rw [PyData.depthAll, PyData.depthAll, PyData.depthAll, PyData.depthAll]
  omega
section
variable {P : Program} {w : World} {K : PySem.W.Frag} {te : TE} {σ : L2.St} {H : Hp}
theorem evf_sorted {ds : List PyData} (h : EvP te σ H (IsL K ds)) (h1 : AllAlike ds) (h2 : Sortable ds) (h3 : ∀ d ∈ ds, d.depth ≤ 50) : EvF (tCB (rSortU w K) (tCons te tNil)) σ H (ds.mergeSort dle) := fun H1 e Q k =>
  h H1 e _ fun v H2 e2 ⟨a, xs, ev, hl, hs⟩ => by
    subst ev
    refine .inl ⟨a, xs, ds, rfl, hl, hs, h1, .inl h2, h3, fun ys p hy _ hp => ?_⟩
    exact k p ys _ (Evl.fresh_back e2 hp) (e2.trans (Evl.Ex.new hp)) upd_same (hy.mono (Tp.of (Evl.Ex.new hp)))
theorem evf_sortedT {ts : List (List PyData)} (h : EvP te σ H (IsL K (ts.map PyData.tuple))) (h1 : AllAlike (ts.map PyData.tuple)) (h3 : ∀ d ∈ ts.map PyData.tuple, d.depth ≤ 50) : EvF (tCB (rSortU w K) (tCons te tNil)) σ H ((ts.map PyData.tuple).mergeSort dle) := fun H1 e Q k =>
  h H1 e _ fun v H2 e2 ⟨a, xs, ev, hl, hs⟩ => by
    subst ev
    refine .inl ⟨a, xs, _, rfl, hl, hs, h1, .inr ⟨ts, rfl⟩, h3, fun ys p hy _ hp => ?_⟩
    exact k p ys _ (Evl.fresh_back e2 hp) (e2.trans (Evl.Ex.new hp)) upd_same (hy.mono (Tp.of (Evl.Ex.new hp)))
/-- sorted(tables) -/
theorem sorted_tabs {Ts : List (List Int)} (h : EvP te σ H (IsL K (Ts.map dT))) : EvF (tCB (rSortU w K) (tCons te tNil)) σ H ((Ts.map dT).mergeSort dle) := by
  have e : Ts.map dT = (Ts.map fun T => T.map PyData.int).map PyData.tuple := by rw [List.map_map]; rfl
  have hd : ∀ d ∈ Ts.map dT, d.depth ≤ 50 := fun d hd => by
    obtain ⟨T, _, rfl⟩ := List.mem_map.mp hd
    have := depth_T' T
    omega
  have hal : AllAlike (Ts.map dT) := AllAlike.of alike_T
  rw [e] at h hd hal ⊢
  exact evf_sortedT h hal hd
theorem sorted_ents {m : List (List Int × (Int × Int))} (h : EvP te σ H (IsL K (m.map entD))) : EvF (tCB (rSortU w K) (tCons te tNil)) σ H ((m.map entD).mergeSort dle) :=
  evf_sorted h (AllAlike.of alike_ent) (Sortable.tuples fun b => ⟨_, _, rfl⟩) fun d hd => by
    obtain ⟨b, _, rfl⟩ := List.mem_map.mp hd
    exact depth_ent b
theorem sorted_tris {m : List (Int × Int × List Int)} (h : EvP te σ H (IsL K (m.map triD))) : EvF (tCB (rSortU w K) (tCons te tNil)) σ H ((m.map triD).mergeSort dle) :=
  evf_sorted h (AllAlike.of alike_tri) (Sortable.tuples fun b => ⟨_, _, rfl⟩) fun d hd => by
    obtain ⟨b, _, rfl⟩ := List.mem_map.mp hd
    exact depth_tri b
end
end KC
end

section
set_option Elab.async false
set_option linter.all false
set_option autoImplicit false
set_option maxRecDepth 100000
set_option maxHeartbeats 4000000
/-! What stands in the heap between two calls, and the promise of each def. -/
namespace KC
open PySem L2 PySem.W
open Evl (Ex EvT)
/-! ### plain -/
def prj (v : List Int) (T : List Int) : List Int := T.map fun e => v.getD e.toNat 0
def Tab (n : Nat) (T : List Int) : Prop := T.Pairwise (· < ·) ∧ ∀ x ∈ T, 0 ≤ x ∧ x < (n : Int)
def sub (T R : List Int) : Bool := T.all fun e => decide (e ∈ R)
def plc (R T : List Int) : List Int := T.map fun e => ((R.idxOf e : Nat) : Int)
def RowOk (n : Nat) (r : List Int × Int) : Prop := r.1.length = n ∧ (∀ x ∈ r.1, 0 ≤ x ∧ x ≤ 99) ∧ -1000000000 ≤ r.2 ∧ r.2 ≤ 1000000000
def bag (B : List (List Int × Int)) (T : List Int) : List (List Int × Int) := B.map fun r => (prj r.1 T, r.2)
def rowD (r : List Int × Int) : PyData := .tuple [dT r.1, .int r.2]
def cntT (B : List (List Int × Int)) (T : List Int) : Nat := (nub ((bag B T).map (·.1))).length
def srt3 (L : List (Int × Int × List Int)) : List (Int × Int × List Int) := L.mergeSort fun a b => dle (triD a) (triD b)
def rankL (B : List (List Int × Int)) (Ts : List (List Int)) (T : List Int) : List (Int × Int × List Int) := srt3 ((Ts.filter fun R => sub T R).map fun R => ((cntT B R : Int), (R.length : Int), R))
def bestR (B : List (List Int × Int)) (Ts : List (List Int)) (T : List Int) : List Int := match rankL B Ts T with | [] => [] | e :: _ => e.2.2
def pairD (e : List Int × Option Nat) : PyData := .tuple [dT e.1, match e.2 with | none => .none | some c => .int c]
def srt2 (L : List (List Int × Option Nat)) : List (List Int × Option Nat) := L.mergeSort fun a b => dle (dT a.1) (dT b.1)
def mat (F : List (Int × Int)) (r : List Int × Int) : Bool := F.all fun f => decide (r.1.getD f.1.toNat 0 = f.2)
def fixD (f : Int × Int) : PyData := .tuple [.int f.1, .int f.2]
mutual
def smallD : PyData → Bool
  | .tuple xs => decide (xs.length ≤ 1000) && smallAll xs
  | .list xs => decide (xs.length ≤ 1000) && smallAll xs
  | .dict _ => false
  | .none => true
  | .int _ => true
  | .bool _ => true
  | .str x => PyData.canLay0 (.str x)
def smallAll : List PyData → Bool
  | [] => true
  | x :: xs => smallD x && smallAll xs
end
/-! ### frames -/
def Fr (L : List Addr) (H H' : Hp) : Prop := (∀ a o, H a = some o → a ∉ L → H' a = some o) ∧ Tp H H'
section
variable {L L' : List Addr} {H H' H1 H2 : Hp}
theorem Fr.refl : Fr L H H := ⟨fun _ _ h _ => h, Tp.refl H⟩
theorem Fr.ex (e : Ex H H') : Fr L H H' := ⟨fun a o h _ => e a o h, Tp.of e⟩
theorem Fr.trans (a : Fr L H H1) (b : Fr L H1 H2) : Fr L H H2 := ⟨fun x o h n => b.1 x o (a.1 x o h n) n, a.2.trans b.2⟩
theorem Fr.mono (h : Fr L H H') (s : ∀ a ∈ L, a ∈ L') : Fr L' H H' := ⟨fun x o q n => h.1 x o q fun z => n (s x z), h.2⟩
theorem Fr.set {a : Addr} {o : HO} (ha : a ∈ L) (t : Tp H (upd H a o)) : Fr L H (upd H a o) := ⟨fun x u q n => by rw [upd_ne (fun z => n (by subst z; exact ha))]; exact q, t⟩
theorem Fr.at_ {a : Addr} {o : HO} (h : Fr L H H') (e : H a = some o) (n : a ∉ L) : H' a = some o := h.1 a o e n
theorem Fr.new {a : Addr} {o : HO} (h : Fr L H H') (n : H a = none) (t : Tp H' (upd H' a o)) : Fr L H (upd H' a o) := ⟨fun x u q m => by rw [upd_ne (ne_of_none q n)]; exact h.1 x u q m, h.2.trans t⟩
end
/-! ### the cube -/
structure CS where
  p : Addr
  dx : Addr
  iA : Addr
  kA : Addr
  gA : Addr
  wq : Addr
  n : Nat
  B : List (List Int × Int)
  tabs : List (List Int × Addr)
  gone : List (List Int × Bool)
def CS.foot (S : CS) : List Addr := S.p :: S.iA :: S.kA :: S.gA :: S.tabs.map (·.2)
def CS.Ts (S : CS) : List (List Int) := S.tabs.map (·.1)
def cfs (S : CS) : List (Str × V) := [("many", .int S.n), ("whole", .ref S.wq), ("inside", .ref S.iA), ("known", .ref S.kA), ("gone", .ref S.gA)]
structure CubeOk (S : CS) : Prop where
  n1 : 1 ≤ S.n
  n4 : S.n ≤ 4
  rows : ∀ r ∈ S.B, RowOk S.n r
  lenB : S.B.length ≤ 1000
  tab : ∀ T ∈ S.Ts, Tab S.n T
  tabG : ∀ T ∈ S.gone.map (·.1), Tab S.n T
  ndT : S.Ts.Nodup
  ndG : (S.gone.map (·.1)).Nodup
  dis : ∀ T ∈ S.Ts, T ∉ S.gone.map (·.1)
  whole : rng S.n ∈ S.Ts
  foot : S.foot.Nodup
  lim : S.tabs.length + S.gone.length ≤ 1000
structure Skel (P : Program) (w : World) (C : Addr) (H : Hp) (S : CS) : Prop where
  ok : CubeOk S
  ob : H S.p = some (.ins C S.dx (cfs S))
  wt : IsD H (.ref S.wq) (dT (rng S.n))
  kn : DAt P w encT vRef H S.kA S.tabs
  gn : DAt P w encT vBl H S.gA S.gone
def ConOk (P : Program) (w : World) (H : Hp) (S : CS) (B : List (List Int × Int)) : Prop := ∀ e ∈ S.tabs, ∃ m, DAt P w encT vCS H e.2 m ∧ Right m (bag B e.1)
def InsOk (P : Program) (w : World) (H : Hp) (S : CS) (B : List (List Int × Int)) : Prop := ∃ m, DAt P w encR vInt H S.iA m ∧ (m.map (·.1)).Nodup ∧ ∀ r, getG m r = if B.count r = 0 then none else some ((B.count r : Nat) : Int)
structure CubeAt (P : Program) (w : World) (C : Addr) (H : Hp) (S : CS) : Prop where
  sk : Skel P w C H S
  ins : InsOk P w H S S.B
  con : ConOk P w H S S.B
/-! ### the law's own -/
def KS (K : PySem.W.Frag) (s : Addr) : Prop := ∃ ns : List Int, ns.length ≤ 63 ∧ ∀ H, SqL K H s (ns.map V.int)
/-- at r the script's reader: the script (at s), the place, the state -/
def RowAt (K : PySem.W.Frag) (H : Hp) (r s : Addr) : Prop := ∃ p z : Int, H r = some (.lst [.ref s, .int p, .int z]) ∧ 0 ≤ p ∧ 0 ≤ z ∧ z < 2147483647 ∧ (KS K s ∨ ∃ ns : List Int, ns.length ≤ 63 ∧ Rd H s (.lst (ns.map V.int)))
structure MS where
  p : Addr
  rA : Addr
  kA : Addr
  n : Nat
  wd : Nat
  rows : List (List Int × Int)
  kept : List (List Int × Bool)
def MS.foot (M : MS) : List Addr := [M.p, M.rA, M.kA]
def mkv (M : MS) : List (Key × V) := [(.inr "edges", .int M.n), (.inr "wide", .int M.wd), (.inr "rows", .ref M.rA), (.inr "kept", .ref M.kA)]
def MS.Ts (M : MS) : List (List Int) := rng M.n :: (M.kept.filter (·.2)).map (·.1)
structure MAt (P : Program) (w : World) (H : Hp) (M : MS) : Prop where
  n1 : 1 ≤ M.n
  n4 : M.n ≤ 4
  w1 : 1 ≤ M.wd
  w2 : M.wd ≤ 100
  ob : H M.p = some (.dK (mkv M))
  rl : ∃ xs, H M.rA = some (.lst xs) ∧ IsDs H xs (M.rows.map rowD)
  kn : DAt P w encT vBl H M.kA M.kept
  foot : M.foot.Nodup
  rows : ∀ r ∈ M.rows, RowOk M.n r
  lenB : M.rows.length ≤ 1000
  tab : ∀ T ∈ M.kept.map (·.1), Tab M.n T
  nd : (M.kept.map (·.1)).Nodup
  nw : rng M.n ∉ M.kept.map (·.1)
  lim : M.kept.length ≤ 900
/-- of the law's dict: the rows alone -/
structure MR (H : Hp) (M : MS) : Prop where
  n1 : 1 ≤ M.n
  n4 : M.n ≤ 4
  ob : H M.p = some (.dK (mkv M))
  rl : ∃ xs, H M.rA = some (.lst xs) ∧ IsDs H xs (M.rows.map rowD)
  rows : ∀ r ∈ M.rows, RowOk M.n r
  lenB : M.rows.length ≤ 1000
structure Both (P : Program) (w : World) (C : Addr) (H : Hp) (S : CS) (M : MS) : Prop where
  c : CubeAt P w C H S
  m : MAt P w H M
  nn : S.n = M.n
  bb : S.B.Perm M.rows
  tt : ∀ T, T ∈ S.Ts ↔ (T = rng M.n ∨ getG M.kept T = some true)
  gg : ∀ T, T ∈ S.gone.map (·.1) ↔ getG M.kept T = some false
  apart : ∀ a ∈ S.foot, a ∉ M.foot
mutual
/-- v reads as d, lists at any place -/
inductive Dx (K : PySem.W.Frag) (H : Hp) : V → PyData → Prop
  | dat {v : V} {d : PyData} : IsD H v d → Dx K H v d
  | lst {a : Addr} {xs : List V} {ds : List PyData} : SqL K H a xs → Dxs K H xs ds → Dx K H (.ref a) (.list ds)
  | tup {a : Addr} {xs : List V} {ds : List PyData} : TupAt H a xs → Dxs K H xs ds → Dx K H (.ref a) (.tuple ds)
inductive Dxs (K : PySem.W.Frag) (H : Hp) : List V → List PyData → Prop
  | nil : Dxs K H [] []
  | cons {v : V} {vs : List V} {d : PyData} {ds : List PyData} : Dx K H v d → Dxs K H vs ds → Dxs K H (v :: vs) (d :: ds)
end
def IsV (K : PySem.W.Frag) (d : PyData) : PV := fun H v => Dx K H v d
/-! ### the promises -/
section
/-- a new list that reads as ds -/
def Fresh (H : Hp) (Q : VK) (ds : List PyData) : Prop := ∀ a xs H', H a = none → Ex H H' → H' a = some (.lst xs) → IsDs H' xs ds → Q (.ref a) H'
def sp_need_table (P : Program) (w : World) (K : PySem.W.Frag) (n : Nm) : Sp := fun vs H Q _ => ∃ (N : Nat) (T : List Int) (v : V), vs = [.int N, v] ∧ IsD H v (dT T) ∧ Tab N T ∧ T.length ≤ 1000 ∧ ∀ H', Ex H H' → Q .non H'
def sp_goes (P : Program) (w : World) (K : PySem.W.Frag) (n : Nm) : Sp := fun vs H Q _ => ∃ (R T : List Int) (r t : V), vs = [r, t] ∧ IsD H r (dT R) ∧ IsD H t (dT T) ∧ T.length ≤ 1000 ∧ ∀ H', Ex H H' → Q (.bl (sub T R)) H'
def sp_places_of (P : Program) (w : World) (K : PySem.W.Frag) (n : Nm) : Sp := fun vs H Q _ => ∃ (R T : List Int) (r t : V), vs = [r, t] ∧ IsD H r (dT R) ∧ IsD H t (dT T) ∧ sub T R = true ∧ T.length ≤ 1000 ∧ Fresh H Q (dI (plc R T))
def sp_added (P : Program) (w : World) (K : PySem.W.Frag) (n : Nm) : Sp := fun vs H Q _ => ∃ (d : Addr) (v : V) (c s : Int) (k : List Int) (m : List (List Int × (Int × Int))), vs = [.ref d, v, .int c, .int s] ∧ DAt P w encT vCS H d m ∧ IsD H v (dT k) ∧ m.length ≤ 10000 ∧
  ∀ H', Fr [d] H H' → DAt P w encT vCS H' d (addG m k c s) → Q .non H'
def sp_reckoned (P : Program) (w : World) (K : PySem.W.Frag) (n : Nm) : Sp := fun vs H Q _ => ∃ (r t : V) (d : Addr) (R T : List Int) (m : List (List Int × (Int × Int))), vs = [r, .ref d, t] ∧ IsD H r (dT R) ∧ IsD H t (dT T) ∧ DAt P w encT vCS H d m ∧ (m.map (·.1)).Nodup ∧ (∀ e ∈ m, e.1.length = R.length) ∧ sub T R = true ∧
  R.length ≤ 1000 ∧ T.length ≤ 1000 ∧ m.length ≤ 5000 ∧ ∀ f H', H f = none → Ex H H' → DAt P w encT vCS H' f (reck (fun k => prj k (plc R T)) m []) → Q (.ref f) H'
def sp_listed (P : Program) (w : World) (K : PySem.W.Frag) (n : Nm) : Sp := fun vs H Q _ => ∃ (d : Addr) (m : List (List Int × (Int × Int))), vs = [.ref d] ∧ DAt P w encT vCS H d m ∧ (m.map (·.1)).Nodup ∧ m.length ≤ 5000 ∧ (∀ e ∈ m, e.1.length ≤ 900) ∧ Fresh H Q ((m.map entD).mergeSort dle)
def sp_c_init (P : Program) (w : World) (K : PySem.W.Frag) (n : Nm) : Sp := fun vs H Q _ => ∃ (p dx : Addr) (N : Nat), vs = [.ref p, .int N] ∧ 1 ≤ N ∧ N ≤ 4 ∧ H p = some (.ins n.cube dx []) ∧
  ∀ (S : CS) (H' : Hp), S.p = p → S.n = N → S.B = [] → S.gone = [] → S.Ts = [rng N] → (∀ a ∈ S.foot, a ≠ p → H a = none) → Fr [p] H H' → CubeAt P w n.cube H' S → Q .non H'
def sp_c_edges (P : Program) (w : World) (K : PySem.W.Frag) (n : Nm) : Sp := fun vs H Q _ => ∃ S, vs = [.ref S.p] ∧ CubeAt P w n.cube H S ∧ ∀ H', Ex H H' → Q (.int S.n) H'
def sp_c_need_row (P : Program) (w : World) (K : PySem.W.Frag) (n : Nm) : Sp := fun vs H Q _ => ∃ (S : CS) (v : V) (r : List Int × Int), vs = [.ref S.p, v, .int r.2] ∧ CubeAt P w n.cube H S ∧ IsD H v (dT r.1) ∧ RowOk S.n r ∧ ∀ H', Ex H H' → Q .non H'
def sp_c_put (P : Program) (w : World) (K : PySem.W.Frag) (n : Nm) : Sp := fun vs H Q _ => ∃ (S : CS) (v : V) (r : List Int × Int), vs = [.ref S.p, v, .int r.2] ∧ CubeAt P w n.cube H S ∧ IsD H v (dT r.1) ∧ RowOk S.n r ∧ S.B.length < 1000 ∧ ∀ H', Fr S.foot H H' → CubeAt P w n.cube H' { S with B := r :: S.B } → Q .non H'
def sp_c_take (P : Program) (w : World) (K : PySem.W.Frag) (n : Nm) : Sp := fun vs H Q _ => ∃ (S : CS) (v : V) (r : List Int × Int), vs = [.ref S.p, v, .int r.2] ∧ CubeAt P w n.cube H S ∧ IsD H v (dT r.1) ∧ r ∈ S.B ∧ ∀ H', Fr S.foot H H' → CubeAt P w n.cube H' { S with B := S.B.erase r } → Q .non H'
def sp_c_touch (P : Program) (w : World) (K : PySem.W.Frag) (n : Nm) : Sp := fun vs H Q _ => ∃ (S : CS) (v : V) (k : List Int) (c s : Int) (B B' : List (List Int × Int)), vs = [.ref S.p, v, .int c, .int s] ∧ Skel P w n.cube H S ∧ IsD H v (dT k) ∧ k.length = S.n ∧ ConOk P w H S B ∧ B.length ≤ 1000 ∧
  (∀ T m, Right m (bag B T) → Right (addG m (prj k T) c s) (bag B' T)) ∧ ∀ H', Fr (S.tabs.map (·.2)) H H' → ConOk P w H' S B' → Q .non H'
def sp_c_need_kept (P : Program) (w : World) (K : PySem.W.Frag) (n : Nm) : Sp := fun vs H Q _ => ∃ (S : CS) (t : V) (T : List Int), vs = [.ref S.p, t] ∧ CubeAt P w n.cube H S ∧ IsD H t (dT T) ∧ T ∈ S.Ts ∧ ∀ H', Ex H H' → Q .non H'
def sp_c_roads (P : Program) (w : World) (K : PySem.W.Frag) (n : Nm) : Sp := fun vs H Q _ => ∃ (S : CS) (t : V) (T : List Int), vs = [.ref S.p, t] ∧ CubeAt P w n.cube H S ∧ IsD H t (dT T) ∧ T.length ≤ 1000 ∧ Fresh H Q ((rankL S.B S.Ts T).map fun e => .tuple [.int e.1, dT e.2.2])
def sp_c_make (P : Program) (w : World) (K : PySem.W.Frag) (n : Nm) : Sp := fun vs H Q _ => ∃ (S : CS) (t : V) (T : List Int), vs = [.ref S.p, t] ∧ CubeAt P w n.cube H S ∧ IsD H t (dT T) ∧ Tab S.n T ∧ T ∉ S.Ts ∧ T ∉ S.gone.map (·.1) ∧ S.tabs.length + S.gone.length < 1000 ∧
  ∀ v d H', H d = none → Fr S.foot H H' → IsD H' v (dT (bestR S.B S.Ts T)) → CubeAt P w n.cube H' { S with tabs := S.tabs ++ [(T, d)] } → Q v H'
def sp_c_keep (P : Program) (w : World) (K : PySem.W.Frag) (n : Nm) : Sp := sp_c_make P w K n
def sp_c_rebuild (P : Program) (w : World) (K : PySem.W.Frag) (n : Nm) : Sp := fun vs H Q _ => ∃ (S : CS) (t : V) (T : List Int), vs = [.ref S.p, t] ∧ CubeAt P w n.cube H S ∧ IsD H t (dT T) ∧ T ∈ S.gone.map (·.1) ∧
  ∀ v d H', H d = none → Fr S.foot H H' → IsD H' v (dT (bestR S.B S.Ts T)) → CubeAt P w n.cube H' { S with tabs := S.tabs ++ [(T, d)], gone := dropG S.gone T } → Q v H'
def sp_c_lose (P : Program) (w : World) (K : PySem.W.Frag) (n : Nm) : Sp := fun vs H Q _ => ∃ (S : CS) (t : V) (T : List Int), vs = [.ref S.p, t] ∧ CubeAt P w n.cube H S ∧ IsD H t (dT T) ∧ T ∈ S.Ts ∧ T ≠ rng S.n ∧
  ∀ H', Fr S.foot H H' → CubeAt P w n.cube H' { S with tabs := dropG S.tabs T, gone := S.gone ++ [(T, true)] } → Q .non H'
def sp_c_drop (P : Program) (w : World) (K : PySem.W.Frag) (n : Nm) : Sp := fun vs H Q _ => ∃ (S : CS) (t : V) (T : List Int), vs = [.ref S.p, t] ∧ CubeAt P w n.cube H S ∧ IsD H t (dT T) ∧ Tab S.n T ∧ T ≠ rng S.n ∧ (T ∈ S.Ts ∨ T ∈ S.gone.map (·.1)) ∧
  ∀ H', Fr S.foot H H' → CubeAt P w n.cube H' { S with tabs := dropG S.tabs T, gone := dropG S.gone T } → Q .non H'
def sp_c_kept (P : Program) (w : World) (K : PySem.W.Frag) (n : Nm) : Sp := fun vs H Q _ => ∃ S, vs = [.ref S.p] ∧ CubeAt P w n.cube H S ∧ Fresh H Q ((srt2 (S.tabs.map (fun e => (e.1, some (cntT S.B e.1))) ++ S.gone.map fun e => (e.1, none))).map pairD)
def sp_c_room (P : Program) (w : World) (K : PySem.W.Frag) (n : Nm) : Sp := fun vs H Q _ => ∃ S, vs = [.ref S.p] ∧ CubeAt P w n.cube H S ∧ ∀ H', Ex H H' → Q (.int ((S.Ts.map fun T => (cntT S.B T : Int)).sum)) H'
def sp_need_fixed (P : Program) (w : World) (K : PySem.W.Frag) (n : Nm) : Sp := fun vs H Q _ => ∃ (S : CS) (f : V) (F : List (Int × Int)), vs = [.ref S.p, f] ∧ CubeAt P w n.cube H S ∧ IsSq K (F.map fixD) H f ∧ Tab S.n (F.map (·.1)) ∧ F.length ≤ 40 ∧ ∀ H', Ex H H' → Q .non H'
/-- the table that is wanted: those of T and those that are fixed -/
def wantL (T : List Int) (F : List (Int × Int)) (W : List Int) : Prop := ∀ e, e ∈ W ↔ e ∈ T ∨ e ∈ F.map (·.1)
def sp_wanted (P : Program) (w : World) (K : PySem.W.Frag) (n : Nm) : Sp := fun vs H Q _ => ∃ (t f : V) (T : List Int) (F : List (Int × Int)), vs = [t, f] ∧ IsD H t (dT T) ∧ IsSq K (F.map fixD) H f ∧ T.length ≤ 8 ∧ F.length ≤ 8 ∧ ∀ v W H', Ex H H' → IsD H' v (dT W) → wantL T F W → W.length ≤ 1000 → Q v H'
def sp_asked (P : Program) (w : World) (K : PySem.W.Frag) (n : Nm) : Sp := fun vs H Q _ => ∃ (S : CS) (t f r : V) (T R : List Int) (F : List (Int × Int)), vs = [.ref S.p, t, f, r] ∧ CubeAt P w n.cube H S ∧ IsD H t (dT T) ∧ IsSq K (F.map fixD) H f ∧ IsD H r (dT R) ∧ Tab S.n T ∧ Tab S.n (F.map (·.1)) ∧ F.length ≤ 8 ∧ T.length ≤ 8 ∧ R ∈ S.Ts ∧
  sub T R = true ∧ sub (F.map (·.1)) R = true ∧ ∀ m, Right m (bag (S.B.filter (mat F)) T) → Fresh H Q ((m.map entD).mergeSort dle)
/-! the law's helpers -/
def sp_law_taken (P : Program) (w : World) (K : PySem.W.Frag) (n : Nm) : Sp := fun vs H Q _ => ∃ (r s : Addr) (m : Int), vs = [.ref r, .int m] ∧ RowAt K H r s ∧ 0 < m ∧ ∀ k H', Fr [r] H H' → RowAt K H' r s → 0 ≤ k → k < m → Q (.int k) H'
def sp_law_fresh (P : Program) (w : World) (K : PySem.W.Frag) (n : Nm) : Sp := fun vs H Q _ => ∃ (r s : Addr) (N : Nat), vs = [.ref r, .int N] ∧ RowAt K H r s ∧ 1 ≤ N ∧ N ≤ 4 ∧
  ∀ (M : MS) H', (∀ a ∈ M.foot, H a = none) → M.rows = [] → M.kept = [] → M.n ≤ N → Fr [r] H H' → RowAt K H' r s → MAt P w H' M → Q (.ref M.p) H'
def sp_law_table (P : Program) (w : World) (K : PySem.W.Frag) (n : Nm) : Sp := fun vs H Q _ => ∃ (r s : Addr) (M : MS), vs = [.ref r, .ref M.p] ∧ RowAt K H r s ∧ MAt P w H M ∧ r ∉ M.foot ∧ ∀ v T H', Fr [r] H H' → RowAt K H' r s → IsD H' v (dT T) → Tab M.n T → Q v H'
def sp_law_drawn (P : Program) (w : World) (K : PySem.W.Frag) (n : Nm) : Sp := fun vs H Q _ => ∃ (r s : Addr) (M : MS), vs = [.ref r, .ref M.p] ∧ RowAt K H r s ∧ MAt P w H M ∧ r ∉ M.foot ∧ ∀ v e H', Fr [r] H H' → RowAt K H' r s → IsD H' v (rowD e) → RowOk M.n e → Q v H'
def sp_law_standing (P : Program) (w : World) (K : PySem.W.Frag) (n : Nm) : Sp := fun vs H Q _ => ∃ (M : MS), vs = [.ref M.p] ∧ MAt P w H M ∧ Fresh H Q (M.Ts.map dT)
def sp_law_size (P : Program) (w : World) (K : PySem.W.Frag) (n : Nm) : Sp := fun vs H Q _ => ∃ (M : MS) (t : V) (T : List Int), vs = [.ref M.p, t] ∧ MR H M ∧ IsD H t (dT T) ∧ Tab M.n T ∧ M.rows.length < 64 ∧ ∀ H', Ex H H' → Q (.int (cntT M.rows T : Nat)) H'
def sp_law_ranked (P : Program) (w : World) (K : PySem.W.Frag) (n : Nm) : Sp := fun vs H Q _ => ∃ (M : MS) (s t : V) (Ts : List (List Int)) (T : List Int), vs = [.ref M.p, s, t] ∧ MAt P w H M ∧ IsL K (Ts.map dT) H s ∧ IsD H t (dT T) ∧ Tab M.n T ∧ (∀ R ∈ Ts, Tab M.n R) ∧ Ts.length ≤ 1000 ∧ M.rows.length < 64 ∧ T.length ≤ 3 ∧
  Fresh H Q ((rankL M.rows Ts T).map triD)
def sp_law_best (P : Program) (w : World) (K : PySem.W.Frag) (n : Nm) : Sp := fun vs H Q _ => ∃ (M : MS) (s t : V) (Ts : List (List Int)) (T : List Int), vs = [.ref M.p, s, t] ∧ MAt P w H M ∧ IsL K (Ts.map dT) H s ∧ IsD H t (dT T) ∧ Tab M.n T ∧ (∀ R ∈ Ts, Tab M.n R) ∧ Ts.length ≤ 1000 ∧ M.rows.length < 64 ∧ T.length ≤ 3 ∧ (∃ R ∈ Ts, sub T R = true) ∧
  ∀ v H', Ex H H' → IsD H' v (dT (bestR M.rows Ts T)) → Q v H'
def sp_law_sums (P : Program) (w : World) (K : PySem.W.Frag) (n : Nm) : Sp := fun vs H Q _ => ∃ (M : MS) (t f : V) (T : List Int) (F : List (Int × Int)), vs = [.ref M.p, t, f] ∧ MAt P w H M ∧ IsD H t (dT T) ∧ Tab M.n T ∧ IsSq K (F.map fixD) H f ∧ Tab M.n (F.map (·.1)) ∧ F.length ≤ 8 ∧
  ∀ m, Right m (bag (M.rows.filter (mat F)) T) → Fresh H Q ((m.map entD).mergeSort dle)
def sp_alike (K : PySem.W.Frag) (j : Nat) : Sp := fun vs H Q _ => ∃ (f v : V) (d : PyData), vs = [f, v] ∧ IsV K d H f ∧ IsV K d H v ∧ d.depth < j ∧ smallD d = true ∧ ∀ H', Ex H H' → Q (.bl true) H'
def sp_law_alike (P : Program) (w : World) (K : PySem.W.Frag) (n : Nm) : Sp := sp_alike K 6
def sp_law_right (P : Program) (w : World) (K : PySem.W.Frag) (n : Nm) : Sp := fun vs H Q _ => ∃ (S : CS) (M : MS), vs = [.ref S.p, .ref M.p] ∧ Both P w n.cube H S M ∧ M.rows.length < 64 ∧ ∀ H', Ex H H' → Q (.bl true) H'
/-- what a deed leaves -/
def Done (P : Program) (w : World) (C : Addr) (H : Hp) (S : CS) (M : MS) (L : List Addr) (Q : VK) : Prop := ∀ (S' : CS) (M' : MS) H', S'.p = S.p → M'.p = M.p → M'.foot = M.foot → M'.n = M.n → M'.rows.length ≤ M.rows.length + 1 → M'.kept.length ≤ M.kept.length + 1 → (∀ a ∈ S'.foot, a ∈ S.foot ∨ H a = none) →
  Fr (S.foot ++ M.foot ++ L) H H' → Both P w C H' S' M' → Q (.bl true) H'
def sp_law_deed_of_table (P : Program) (w : World) (K : PySem.W.Frag) (n : Nm) : Sp := fun vs H Q _ => ∃ (S : CS) (M : MS) (t : V) (T : List Int) (way : Int), vs = [.ref S.p, .ref M.p, t, .int way] ∧ Both P w n.cube H S M ∧ IsD H t (dT T) ∧ Tab M.n T ∧ T ≠ rng M.n ∧ M.rows.length < 64 ∧ M.kept.length ≤ 400 ∧ Done P w n.cube H S M [] Q
def sp_law_deed (P : Program) (w : World) (K : PySem.W.Frag) (n : Nm) : Sp := fun vs H Q _ => ∃ (r s : Addr) (S : CS) (M : MS), vs = [.ref r, .ref S.p, .ref M.p] ∧ RowAt K H r s ∧ Both P w n.cube H S M ∧ r ∉ S.foot ∧ r ∉ M.foot ∧ (KS K s ∨ (s ∉ S.foot ∧ s ∉ M.foot)) ∧ M.rows.length < 63 ∧ M.kept.length ≤ 400 ∧
  Done P w n.cube H S M [r] fun v H' => RowAt K H' r s → Q v H'
def sp_law (P : Program) (w : World) (K : PySem.W.Frag) (n : Nm) : Sp := fun vs H Q _ => ∃ (a : Addr) (ns : List Int), vs = [.ref a] ∧ SqL K H a (ns.map V.int) ∧ ns.length ≤ 63 ∧ ∀ H', Q (.bl true) H'
end
end KC
end

section
set_option Elab.async false
set_option linter.all false
set_option autoImplicit false
set_option maxRecDepth 100000
set_option maxHeartbeats 4000000
/-! The readings, printed by gen.py. -/
namespace KC
open PySem L2 PySem.Spec PyProof.Rows
def t_law_taken (P : Program) (w : World) (K : PySem.W.Frag) (n : Nm) (E : XK) : TS :=
  (tSeq (tAsg (tOp (rPlus K) (tOp (rIxU P w K) (tVar 0) (tC (.int 1))) (tC (.int 1))) (gSub (tVar 0) (tC (.int 1)) (rSetU P w)))
    (tSeq (tIfS (tTest (tOp rGtI (tOp (rIxU P w K) (tVar 0) (tC (.int 1))) (tCB (rLenA P w K) (tCons (tOp (rIxU P w K) (tVar 0) (tC (.int 0))) tNil)))) (tSeq (tAsg (tOp rModI (tOp (rPlus K) (tOp rMulI (tOp (rIxU P w K) (tVar 0) (tC (.int 2))) (tC (.int 48271))) (tC (.int 11))) (tC (.int 2147483647))) (gSub (tVar 0) (tC (.int 2)) (rSetU P w)))
    (tRet (tOp rModI (tOp rDivI (tOp (rIxU P w K) (tVar 0) (tC (.int 2))) (tC (.int 7))) (tVar 1)))) tNext)
    (tSeq (tAsg (tOp (rIxU P w K) (tOp (rIxU P w K) (tVar 0) (tC (.int 0))) (tOp (rMinus P w) (tOp (rIxU P w K) (tVar 0) (tC (.int 1))) (tC (.int 1)))) (gName 2))
    (tSeq (tAsg (tOp rModI (tOp (rPlus K) (tOp (rPlus K) (tOp rMulI (tOp (rIxU P w K) (tVar 0) (tC (.int 2))) (tC (.int 48271))) (tVar 2)) (tC (.int 11))) (tC (.int 2147483647))) (gSub (tVar 0) (tC (.int 2)) (rSetU P w)))
    (tRet (tOp rModI (tVar 2) (tVar 1)))))))

def t_law_fresh (P : Program) (w : World) (K : PySem.W.Frag) (n : Nm) (E : XK) : TS :=
  (tRet (tDisp [((tC (.str "edges")), (tOp (rPlus K) (tC (.int 1)) (tCall (sp_law_taken P w K n) [] E (tCons (tVar 0) (tCons (tVar 1) tNil))))), ((tC (.str "wide")), (tOp (rIxU P w K) (tLst (tCons (tC (.int 2)) (tCons (tC (.int 3)) (tCons (tC (.int 100)) tNil)))) (tCall (sp_law_taken P w K n) [] E (tCons (tVar 0) (tCons (tC (.int 3)) tNil))))), ((tC (.str "rows")), (tLst tNil)), ((tC (.str "kept")), (tNewD P w))]))

def t_c_init (P : Program) (w : World) (K : PySem.W.Frag) (n : Nm) (E : XK) : TS :=
  (tSeq (tIfS (tNot (tTest (tChain rLeI rLeI (tC (.int 1)) (tVar 1) (tC (.int 4))))) (tRaise E (.ref n.badCube)) tNext)
    (tSeq (sFld K (tVar 0) (tVar 1) "many")
    (tSeq (sFld K (tVar 0) (tTupRgF (tRg1 (tVar 1))) "whole")
    (tSeq (sFld K (tVar 0) (tNewD P w) "inside")
    (tSeq (sFld K (tVar 0) (tDisp1 P w (tFld K (tVar 0) "whole") (tNewD P w)) "known")
    (sFld K (tVar 0) (tNewD P w) "gone"))))))

def t_law_table (P : Program) (w : World) (K : PySem.W.Frag) (n : Nm) (E : XK) : TS :=
  (tRet (tCB (rTupF K) (tCons (tLc (iRng1 (tCons (tDGet (tVar 1) (tC (.str "edges"))) tNil)) (gName 2) (tTest (tOp (rEqU P w K) (tCall (sp_law_taken P w K n) [] E (tCons (tVar 0) (tCons (tC (.int 2)) tNil))) (tC (.int 1)))) (tVar 2) [2]) tNil)))

def t_law_standing (P : Program) (w : World) (K : PySem.W.Frag) (n : Nm) (E : XK) : TS :=
  (tRet (tOp (rPlus K) (tLst (tCons (tTupRgF (tRg1 (tDGet (tVar 0) (tC (.str "edges"))))) tNil)) (tLockE (tLc (iAny P w K (tDGet (tVar 0) (tC (.str "kept")))) (gName 1) (tB (tOp (rIxU P w K) (tDGet (tVar 0) (tC (.str "kept"))) (tVar 1))) (tVar 1) [1]))))

def t_law_size (P : Program) (w : World) (K : PySem.W.Frag) (n : Nm) (E : XK) : TS :=
  (tRet (tCB (rLenA P w K) (tCons (tCB (rSetC P w K) (tCons (tLc (iAny P w K (tDGet (tVar 0) (tC (.str "rows")))) (gTup K 2 (gCons (gName 2) (gCons (gName 3) gNil))) tYes (tCB (rTupF K) (tCons (tLc (iAny P w K (tVar 1)) (gName 4) tYes (tOp (rIxU P w K) (tVar 2) (tVar 4)) [4]) tNil)) [2, 3]) tNil)) tNil)))

def t_law_ranked (P : Program) (w : World) (K : PySem.W.Frag) (n : Nm) (E : XK) : TS :=
  (tRet (tCB (rSortU w K) (tCons (tLc (iAny P w K (tVar 1)) (gName 3) (tTest (tOp (rEqU P w K) (tOp (rMinus P w) (tCB (rSetC P w K) (tCons (tVar 2) tNil)) (tCB (rSetC P w K) (tCons (tVar 3) tNil))) (tCB (rSetC P w K) (tCons (tLst tNil) tNil)))) (tTupF (tCons (tCall (sp_law_size P w K n) [] E (tCons (tVar 0) (tCons (tVar 3) tNil))) (tCons (tCB (rLenA P w K) (tCons (tVar 3) tNil)) (tCons (tVar 3) tNil)))) [3]) tNil)))

def t_law_best (P : Program) (w : World) (K : PySem.W.Frag) (n : Nm) (E : XK) : TS :=
  (tRet (tOp (rIxU P w K) (tOp (rIxU P w K) (tCall (sp_law_ranked P w K n) [] E (tCons (tVar 0) (tCons (tVar 1) (tCons (tVar 2) tNil)))) (tC (.int 0))) (tC (.int 2))))

def t_need_table (P : Program) (w : World) (K : PySem.W.Frag) (n : Nm) (E : XK) : TS :=
  (tFor (iRng1 (tCons (tCB (rLenA P w K) (tCons (tVar 1) tNil)) tNil)) (gName 2) (tIfS (tOr (tNot (tTest (tChain rLeI rLtI (tC (.int 0)) (tOp (rIxU P w K) (tVar 1) (tVar 2)) (tVar 0)))) (tAnd (tTest (tOp rGtI (tVar 2) (tC (.int 0)))) (tTest (tOp rGeI (tOp (rIxU P w K) (tVar 1) (tOp (rMinus P w) (tVar 2) (tC (.int 1)))) (tOp (rIxU P w K) (tVar 1) (tVar 2)))))) (tRaise E (.ref n.badTable)) tNext))

def t_c_roads (P : Program) (w : World) (K : PySem.W.Frag) (n : Nm) (E : XK) : TS :=
  (tSeq (tLock (tAsg (tLc (iAny P w K (tFld K (tVar 0) "known")) (gName 4) (tTest (tOp (rEqU P w K) (tLc (iAny P w K (tVar 1)) (gName 5) (tTest (tOp (rInU P w K true) (tVar 5) (tVar 4))) (tVar 5) [5]) (tLst tNil))) (tVar 4) [4]) (gName 2)))
    (tSeq (tAsg (tCB (rSortU w K) (tCons (tLc (iAny P w K (tVar 2)) (gName 4) tYes (tTupF (tCons (tCB (rLenA P w K) (tCons (tOp (rIxU P w K) (tFld K (tVar 0) "known") (tVar 4)) tNil)) (tCons (tCB (rLenA P w K) (tCons (tVar 4) tNil)) (tCons (tVar 4) tNil)))) [4]) tNil)) (gName 3))
    (tRet (tLc (iAny P w K (tVar 3)) (gTup K 3 (gCons (gName 6) (gCons (gName 7) (gCons (gName 4) gNil)))) tYes (tTupF (tCons (tVar 6) (tCons (tVar 4) tNil))) [6, 7, 4]))))

def t_places_of (P : Program) (w : World) (K : PySem.W.Frag) (n : Nm) (E : XK) : TS :=
  (tRet (tLc (iAny P w K (tVar 1)) (gName 2) tYes (tBG P w K "tuple" (rTIx K) (tVar 0) (tCons (tVar 2) tNil)) [2]))

def t_added (P : Program) (w : World) (K : PySem.W.Frag) (n : Nm) (E : XK) : TS :=
  (tSeq (tAsg (tBG P w K "dict" (rKGet P w) (tVar 0) (tCons (tVar 1) (tCons (tTupF (tCons (tC (.int 0)) (tCons (tC (.int 0)) tNil))) tNil))) (gName 4))
    (tSeq (tAsg (tTupF (tCons (tOp (rPlus K) (tOp (rIxU P w K) (tVar 4) (tC (.int 0))) (tVar 2)) (tCons (tOp (rPlus K) (tOp (rIxU P w K) (tVar 4) (tC (.int 1))) (tVar 3)) tNil))) (gSub (tVar 0) (tVar 1) (rSetU P w)))
    (tIfS (tTest (tOp (rEqU P w K) (tOp (rIxU P w K) (tOp (rIxU P w K) (tVar 0) (tVar 1)) (tC (.int 0))) (tC (.int 0)))) (tDrop (tBG P w K "dict" (rKPop P w) (tVar 0) (tCons (tVar 1) tNil))) tNext)))

def t_reckoned (P : Program) (w : World) (K : PySem.W.Frag) (n : Nm) (E : XK) : TS :=
  (tSeq (tAsg (tCall (sp_places_of P w K n) [] E (tCons (tVar 0) (tCons (tVar 2) tNil))) (gName 3))
    (tSeq (tAsg (tNewD P w) (gName 4))
    (tSeq (tLock (tFor (iAny P w K (tVar 1)) (gName 5) (tSeq (tAsg (tOp (rIxU P w K) (tVar 1) (tVar 5)) (gTup K 2 (gCons (gName 6) (gCons (gName 7) gNil))))
    (tDrop (tCall (sp_added P w K n) [] E (tCons (tVar 4) (tCons (tCB (rTupF K) (tCons (tLc (iAny P w K (tVar 3)) (gName 8) tYes (tOp (rIxU P w K) (tVar 5) (tVar 8)) [8]) tNil)) (tCons (tVar 6) (tCons (tVar 7) tNil)))))))))
    (tRet (tVar 4)))))

def t_c_make (P : Program) (w : World) (K : PySem.W.Frag) (n : Nm) (E : XK) : TS :=
  (tSeq (tAsg (tOp (rIxU P w K) (tOp (rIxU P w K) (tMeth n.cube "roads" (sp_c_roads P w K n) [] E (tVar 0) (tCons (tVar 1) tNil)) (tC (.int 0))) (tC (.int 1))) (gName 2))
    (tSeq (tAsg (tCall (sp_reckoned P w K n) [] E (tCons (tVar 2) (tCons (tOp (rIxU P w K) (tFld K (tVar 0) "known") (tVar 2)) (tCons (tVar 1) tNil)))) (gSub (tFld K (tVar 0) "known") (tVar 1) (rSetU P w)))
    (tRet (tVar 2))))

def t_c_keep (P : Program) (w : World) (K : PySem.W.Frag) (n : Nm) (E : XK) : TS :=
  (tSeq (tDrop (tCall (sp_need_table P w K n) [] E (tCons (tFld K (tVar 0) "many") (tCons (tVar 1) tNil))))
    (tSeq (tIfS (tOr (tTest (tOp (rInU P w K false) (tVar 1) (tFld K (tVar 0) "known"))) (tTest (tOp (rInU P w K false) (tVar 1) (tFld K (tVar 0) "gone")))) (tRaise E (.ref n.kept)) tNext)
    (tRet (tMeth n.cube "make" (sp_c_make P w K n) [] E (tVar 0) (tCons (tVar 1) tNil)))))

def t_law_alike (P : Program) (w : World) (K : PySem.W.Frag) (n : Nm) (j : Nat) (E : XK) : TS :=
  (tSeq (tIfS (tOr (tB (tCB (rIsiU K) (tCons (tVar 1) (tCons (tC (.ty "tuple")) tNil)))) (tB (tCB (rIsiU K) (tCons (tVar 1) (tCons (tC (.ty "list")) tNil))))) (tSeq (tIfS (tOr (tTest (tOp (rNeD K) (tCB (rIsiU K) (tCons (tVar 0) (tCons (tC (.ty "tuple")) tNil))) (tCB (rIsiU K) (tCons (tVar 1) (tCons (tC (.ty "tuple")) tNil))))) (tNot (tB (tCB (rIsiU K) (tCons (tVar 0) (tCons (tTup (tCons (tC (.ty "tuple")) (tCons (tC (.ty "list")) tNil))) tNil)))))) (tRet (tC (.bl false))) tNext)
    (tSeq (tIfS (tTest (tOp (rNeD K) (tCB (rLenA P w K) (tCons (tVar 0) tNil)) (tCB (rLenA P w K) (tCons (tVar 1) tNil)))) (tRet (tC (.bl false))) tNext)
    (tRet (tOp (rEqU P w K) (tLc (iRng1 (tCons (tCB (rLenA P w K) (tCons (tVar 1) tNil)) tNil)) (gName 2) (tNot (tB (tCall (sp_alike K j) [] E (tCons (tOp (rIxU P w K) (tVar 0) (tVar 2)) (tCons (tOp (rIxU P w K) (tVar 1) (tVar 2)) tNil))))) (tVar 2) [2]) (tLst tNil))))) tNext)
    (tSeq (tIfS (tOr (tTest (tOp rIsN (tVar 1) (tC .non))) (tTest (tOp rIsN (tVar 0) (tC .non)))) (tRet (tAndV (tOp rIsN (tVar 1) (tC .non)) (tOp rIsN (tVar 0) (tC .non)))) tNext)
    (tSeq (tIfS (tOr (tB (tCB (rIsiU K) (tCons (tVar 1) (tCons (tC (.ty "bool")) tNil)))) (tB (tCB (rIsiU K) (tCons (tVar 0) (tCons (tC (.ty "bool")) tNil))))) (tRet (tAndV (tCB (rIsiU K) (tCons (tVar 1) (tCons (tC (.ty "bool")) tNil))) (tAndV (tCB (rIsiU K) (tCons (tVar 0) (tCons (tC (.ty "bool")) tNil))) (tOp (rEqU P w K) (tVar 0) (tVar 1))))) tNext)
    (tSeq (tIfS (tB (tCB (rIsiU K) (tCons (tVar 1) (tCons (tC (.ty "str")) tNil)))) (tRet (tAndV (tCB (rIsiU K) (tCons (tVar 0) (tCons (tC (.ty "str")) tNil))) (tOp (rEqU P w K) (tVar 0) (tVar 1)))) tNext)
    (tRet (tAndV (tCB (rIsiU K) (tCons (tVar 0) (tCons (tC (.ty "int")) tNil))) (tOp (rEqU P w K) (tVar 0) (tVar 1))))))))

def t_c_rebuild (P : Program) (w : World) (K : PySem.W.Frag) (n : Nm) (E : XK) : TS :=
  (tSeq (tDrop (tCall (sp_need_table P w K n) [] E (tCons (tFld K (tVar 0) "many") (tCons (tVar 1) tNil))))
    (tSeq (tIfS (tTest (tOp (rInU P w K true) (tVar 1) (tFld K (tVar 0) "gone"))) (tRaise E (.ref n.notLost)) tNext)
    (tSeq (tDrop (tBG P w K "dict" (rKPop P w) (tFld K (tVar 0) "gone") (tCons (tVar 1) tNil)))
    (tRet (tMeth n.cube "make" (sp_c_make P w K n) [] E (tVar 0) (tCons (tVar 1) tNil))))))

def t_c_need_kept (P : Program) (w : World) (K : PySem.W.Frag) (n : Nm) (E : XK) : TS :=
  (tSeq (tDrop (tCall (sp_need_table P w K n) [] E (tCons (tFld K (tVar 0) "many") (tCons (tVar 1) tNil))))
    (tIfS (tTest (tOp (rInU P w K true) (tVar 1) (tFld K (tVar 0) "known"))) (tRaise E (.ref n.notKept)) tNext))

def t_c_lose (P : Program) (w : World) (K : PySem.W.Frag) (n : Nm) (E : XK) : TS :=
  (tSeq (tDrop (tMeth n.cube "need_kept" (sp_c_need_kept P w K n) [] E (tVar 0) (tCons (tVar 1) tNil)))
    (tSeq (tIfS (tTest (tOp (rEqU P w K) (tVar 1) (tFld K (tVar 0) "whole"))) (tRaise E (.ref n.notKept)) tNext)
    (tSeq (tDrop (tBG P w K "dict" (rKPop P w) (tFld K (tVar 0) "known") (tCons (tVar 1) tNil)))
    (tAsg (tC (.bl true)) (gSub (tFld K (tVar 0) "gone") (tVar 1) (rSetU P w))))))

def t_c_drop (P : Program) (w : World) (K : PySem.W.Frag) (n : Nm) (E : XK) : TS :=
  (tSeq (tDrop (tCall (sp_need_table P w K n) [] E (tCons (tFld K (tVar 0) "many") (tCons (tVar 1) tNil))))
    (tSeq (tIfS (tOr (tTest (tOp (rEqU P w K) (tVar 1) (tFld K (tVar 0) "whole"))) (tAnd (tTest (tOp (rInU P w K true) (tVar 1) (tFld K (tVar 0) "known"))) (tTest (tOp (rInU P w K true) (tVar 1) (tFld K (tVar 0) "gone"))))) (tRaise E (.ref n.notKept)) tNext)
    (tSeq (tDrop (tBG P w K "dict" (rKPop2 P w) (tFld K (tVar 0) "known") (tCons (tVar 1) (tCons (tC .non) tNil))))
    (tDrop (tBG P w K "dict" (rKPop2 P w) (tFld K (tVar 0) "gone") (tCons (tVar 1) (tCons (tC .non) tNil)))))))

def t_law_deed_of_table (P : Program) (w : World) (K : PySem.W.Frag) (n : Nm) (E : XK) : TS :=
  (tSeq (tAsg (tCall (sp_law_best P w K n) [] E (tCons (tVar 1) (tCons (tCall (sp_law_standing P w K n) [] E (tCons (tVar 1) tNil)) (tCons (tVar 2) tNil)))) (gName 4))
    (tSeq (tIfS (tTest (tOp (rInU P w K true) (tVar 2) (tDGet (tVar 1) (tC (.str "kept"))))) (tSeq (tAsg (tC (.bl true)) (gSub (tDGet (tVar 1) (tC (.str "kept"))) (tVar 2) (rSetU P w)))
    (tRet (tCall (sp_law_alike P w K n) [] E (tCons (tMeth n.cube "keep" (sp_c_keep P w K n) [] E (tVar 0) (tCons (tVar 2) tNil)) (tCons (tVar 4) tNil))))) tNext)
    (tSeq (tIfS (tAnd (tNot (tB (tOp (rIxU P w K) (tDGet (tVar 1) (tC (.str "kept"))) (tVar 2)))) (tTest (tOp rLtI (tVar 3) (tC (.int 9))))) (tSeq (tAsg (tC (.bl true)) (gSub (tDGet (tVar 1) (tC (.str "kept"))) (tVar 2) (rSetU P w)))
    (tRet (tCall (sp_law_alike P w K n) [] E (tCons (tMeth n.cube "rebuild" (sp_c_rebuild P w K n) [] E (tVar 0) (tCons (tVar 2) tNil)) (tCons (tVar 4) tNil))))) tNext)
    (tSeq (tIfS (tAnd (tB (tOp (rIxU P w K) (tDGet (tVar 1) (tC (.str "kept"))) (tVar 2))) (tTest (tOp (rEqU P w K) (tVar 3) (tC (.int 7))))) (tSeq (tAsg (tC (.bl false)) (gSub (tDGet (tVar 1) (tC (.str "kept"))) (tVar 2) (rSetU P w)))
    (tRet (tOp rIsN (tMeth n.cube "lose" (sp_c_lose P w K n) [] E (tVar 0) (tCons (tVar 2) tNil)) (tC .non)))) tNext)
    (tSeq (tDrop (tBG P w K "dict" (rKPop P w) (tDGet (tVar 1) (tC (.str "kept"))) (tCons (tVar 2) tNil)))
    (tRet (tOp rIsN (tMeth n.cube "drop" (sp_c_drop P w K n) [] E (tVar 0) (tCons (tVar 2) tNil)) (tC .non))))))))

def t_c_need_row (P : Program) (w : World) (K : PySem.W.Frag) (n : Nm) (E : XK) : TS :=
  (tSeq (tIfS (tOr (tTest (tOp (rNeD K) (tCB (rLenA P w K) (tCons (tVar 1) tNil)) (tFld K (tVar 0) "many"))) (tTest (tOp (rNeD K) (tLc (iAny P w K (tVar 1)) (gName 3) (tNot (tTest (tChain rLeI rLeI (tC (.int 0)) (tVar 3) (tC (.int 99))))) (tVar 3) [3]) (tLst tNil)))) (tRaise E (.ref n.badRow)) tNext)
    (tIfS (tTest (tOp rGtI (tCB rAbs (tCons (tVar 2) tNil)) (tC (.int 1000000000)))) (tRaise E (.ref n.badRow)) tNext))

def t_c_touch (P : Program) (w : World) (K : PySem.W.Frag) (n : Nm) (E : XK) : TS :=
  (tLock (tFor (iAny P w K (tFld K (tVar 0) "known")) (gName 4) (tDrop (tCall (sp_added P w K n) [] E (tCons (tOp (rIxU P w K) (tFld K (tVar 0) "known") (tVar 4)) (tCons (tCB (rTupF K) (tCons (tLc (iAny P w K (tVar 4)) (gName 5) tYes (tOp (rIxU P w K) (tVar 1) (tVar 5)) [5]) tNil)) (tCons (tVar 2) (tCons (tVar 3) tNil))))))))

def t_c_take (P : Program) (w : World) (K : PySem.W.Frag) (n : Nm) (E : XK) : TS :=
  (tSeq (tDrop (tMeth n.cube "need_row" (sp_c_need_row P w K n) [] E (tVar 0) (tCons (tVar 1) (tCons (tVar 2) tNil))))
    (tSeq (tAsg (tTupF (tCons (tVar 1) (tCons (tVar 2) tNil))) (gName 3))
    (tSeq (tIfS (tTest (tOp (rInU P w K true) (tVar 3) (tFld K (tVar 0) "inside"))) (tRaise E (.ref n.noRow)) tNext)
    (tSeq (tAsg (tOp (rMinus P w) (tOp (rIxU P w K) (tFld K (tVar 0) "inside") (tVar 3)) (tC (.int 1))) (gSub (tFld K (tVar 0) "inside") (tVar 3) (rSetU P w)))
    (tSeq (tIfS (tTest (tOp (rEqU P w K) (tOp (rIxU P w K) (tFld K (tVar 0) "inside") (tVar 3)) (tC (.int 0)))) (tDrop (tBG P w K "dict" (rKPop P w) (tFld K (tVar 0) "inside") (tCons (tVar 3) tNil))) tNext)
    (tDrop (tMeth n.cube "touch" (sp_c_touch P w K n) [] E (tVar 0) (tCons (tVar 1) (tCons (tUn rNegI (tC (.int 1))) (tCons (tOp (rMinus P w) (tC (.int 0)) (tVar 2)) tNil))))))))))

def t_law_drawn (P : Program) (w : World) (K : PySem.W.Frag) (n : Nm) (E : XK) : TS :=
  (tSeq (tAsg (tCB (rTupF K) (tCons (tLc (iRng1 (tCons (tDGet (tVar 1) (tC (.str "edges"))) tNil)) (gName 4) tYes (tCall (sp_law_taken P w K n) [] E (tCons (tVar 0) (tCons (tDGet (tVar 1) (tC (.str "wide"))) tNil))) [4]) tNil)) (gName 2))
    (tSeq (tAsg (tLst (tCons (tOp (rMinus P w) (tCall (sp_law_taken P w K n) [] E (tCons (tVar 0) (tCons (tC (.int 5)) tNil))) (tC (.int 2))) (tCons (tOp (rMinus P w) (tCall (sp_law_taken P w K n) [] E (tCons (tVar 0) (tCons (tC (.int 2000001)) tNil))) (tC (.int 1000000))) (tCons (tOp (rMinus P w) (tOp rPowI (tC (.int 10)) (tC (.int 9))) (tCall (sp_law_taken P w K n) [] E (tCons (tVar 0) (tCons (tC (.int 2)) tNil)))) tNil)))) (gName 3))
    (tRet (tTupF (tCons (tVar 2) (tCons (tOp rMulI (tOp (rIxU P w K) (tVar 3) (tCall (sp_law_taken P w K n) [] E (tCons (tVar 0) (tCons (tC (.int 3)) tNil)))) (tOp (rIxU P w K) (tLst (tCons (tC (.int 1)) (tCons (tC (.int 1)) (tCons (tOp (rMinus P w) (tC (.int 0)) (tC (.int 1))) tNil)))) (tCall (sp_law_taken P w K n) [] E (tCons (tVar 0) (tCons (tC (.int 3)) tNil))))) tNil))))))

def t_c_put (P : Program) (w : World) (K : PySem.W.Frag) (n : Nm) (E : XK) : TS :=
  (tSeq (tDrop (tMeth n.cube "need_row" (sp_c_need_row P w K n) [] E (tVar 0) (tCons (tVar 1) (tCons (tVar 2) tNil))))
    (tSeq (tAsg (tTupF (tCons (tVar 1) (tCons (tVar 2) tNil))) (gName 3))
    (tSeq (tAsg (tOp (rPlus K) (tBG P w K "dict" (rKGet P w) (tFld K (tVar 0) "inside") (tCons (tVar 3) (tCons (tC (.int 0)) tNil))) (tC (.int 1))) (gSub (tFld K (tVar 0) "inside") (tVar 3) (rSetU P w)))
    (tDrop (tMeth n.cube "touch" (sp_c_touch P w K n) [] E (tVar 0) (tCons (tVar 1) (tCons (tC (.int 1)) (tCons (tVar 2) tNil))))))))

def t_law_deed (P : Program) (w : World) (K : PySem.W.Frag) (n : Nm) (E : XK) : TS :=
  (tSeq (tAsg (tCall (sp_law_taken P w K n) [] E (tCons (tVar 0) (tCons (tC (.int 10)) tNil))) (gName 3))
    (tSeq (tAsg (tCall (sp_law_table P w K n) [] E (tCons (tVar 0) (tCons (tVar 2) tNil))) (gName 4))
    (tSeq (tIfS (tAnd (tTest (tOp rGtI (tVar 3) (tC (.int 6)))) (tTest (tOp (rNeD K) (tVar 4) (tTupRgF (tRg1 (tDGet (tVar 2) (tC (.str "edges")))))))) (tRet (tCall (sp_law_deed_of_table P w K n) [] E (tCons (tVar 1) (tCons (tVar 2) (tCons (tVar 4) (tCons (tVar 3) tNil)))))) tNext)
    (tSeq (tIfS (tAnd (tTest (tOp (rNeD K) (tDGet (tVar 2) (tC (.str "rows"))) (tLst tNil))) (tTest (tOp rGtI (tVar 3) (tC (.int 4))))) (tSeq (tAsg (tBG P w K "list" rPopAt (tDGet (tVar 2) (tC (.str "rows"))) (tCons (tCall (sp_law_taken P w K n) [] E (tCons (tVar 0) (tCons (tCB (rLenA P w K) (tCons (tDGet (tVar 2) (tC (.str "rows"))) tNil)) tNil))) tNil)) (gTup K 2 (gCons (gName 5) (gCons (gName 6) gNil))))
    (tRet (tOp rIsN (tMeth n.cube "take" (sp_c_take P w K n) [] E (tVar 1) (tCons (tVar 5) (tCons (tVar 6) tNil))) (tC .non)))) tNext)
    (tSeq (tAsg (tCall (sp_law_drawn P w K n) [] E (tCons (tVar 0) (tCons (tVar 2) tNil))) (gTup K 2 (gCons (gName 5) (gCons (gName 6) gNil))))
    (tSeq (tIfS (tAnd (tTest (tOp (rNeD K) (tDGet (tVar 2) (tC (.str "rows"))) (tLst tNil))) (tTest (tOp (rEqU P w K) (tVar 3) (tC (.int 4))))) (tAsg (tOp (rIxU P w K) (tDGet (tVar 2) (tC (.str "rows"))) (tCall (sp_law_taken P w K n) [] E (tCons (tVar 0) (tCons (tCB (rLenA P w K) (tCons (tDGet (tVar 2) (tC (.str "rows"))) tNil)) tNil)))) (gTup K 2 (gCons (gName 5) (gCons (gName 6) gNil)))) tNext)
    (tSeq (tDrop (tBG P w K "list" rAppend (tDGet (tVar 2) (tC (.str "rows"))) (tCons (tTupF (tCons (tVar 5) (tCons (tVar 6) tNil))) tNil)))
    (tRet (tOp rIsN (tMeth n.cube "put" (sp_c_put P w K n) [] E (tVar 1) (tCons (tVar 5) (tCons (tVar 6) tNil))) (tC .non))))))))))

def t_c_kept (P : Program) (w : World) (K : PySem.W.Frag) (n : Nm) (E : XK) : TS :=
  (tSeq (tLock (tAsg (tLc (iAny P w K (tFld K (tVar 0) "known")) (gName 2) tYes (tTupF (tCons (tVar 2) (tCons (tCB (rLenA P w K) (tCons (tOp (rIxU P w K) (tFld K (tVar 0) "known") (tVar 2)) tNil)) tNil))) [2]) (gName 1)))
    (tRet (tCB (rSortU w K) (tCons (tOp (rPlus K) (tVar 1) (tLockE (tLc (iAny P w K (tFld K (tVar 0) "gone")) (gName 2) tYes (tTupF (tCons (tVar 2) (tCons (tC .non) tNil))) [2]))) tNil))))

def t_c_room (P : Program) (w : World) (K : PySem.W.Frag) (n : Nm) (E : XK) : TS :=
  (tRet (tCB (rSum K) (tCons (tLockE (tLc (iAny P w K (tFld K (tVar 0) "known")) (gName 1) tYes (tCB (rLenA P w K) (tCons (tOp (rIxU P w K) (tFld K (tVar 0) "known") (tVar 1)) tNil)) [1])) tNil)))

def t_law_right (P : Program) (w : World) (K : PySem.W.Frag) (n : Nm) (E : XK) : TS :=
  (tSeq (tLock (tAsg (tLc (iAny P w K (tDGet (tVar 1) (tC (.str "kept")))) (gName 3) tYes (tTupF (tCons (tVar 3) (tCons (tIf (tB (tOp (rIxU P w K) (tDGet (tVar 1) (tC (.str "kept"))) (tVar 3))) (tCall (sp_law_size P w K n) [] E (tCons (tVar 1) (tCons (tVar 3) tNil))) (tC .non)) tNil))) [3]) (gName 2)))
    (tSeq (tAsg (tCB (rSortU w K) (tCons (tOp (rPlus K) (tVar 2) (tLst (tCons (tTupF (tCons (tTupRgF (tRg1 (tDGet (tVar 1) (tC (.str "edges"))))) (tCons (tCall (sp_law_size P w K n) [] E (tCons (tVar 1) (tCons (tTupRgF (tRg1 (tDGet (tVar 1) (tC (.str "edges"))))) tNil))) tNil))) tNil))) tNil)) (gName 2))
    (tSeq (tIfS (tNot (tB (tCall (sp_law_alike P w K n) [] E (tCons (tMeth n.cube "kept" (sp_c_kept P w K n) [] E (tVar 0) tNil) (tCons (tVar 2) tNil))))) (tRet (tC (.bl false))) tNext)
    (tRet (tCall (sp_law_alike P w K n) [] E (tCons (tMeth n.cube "room" (sp_c_room P w K n) [] E (tVar 0) tNil) (tCons (tCB (rSum K) (tCons (tLc (iAny P w K (tCall (sp_law_standing P w K n) [] E (tCons (tVar 1) tNil))) (gName 3) tYes (tCall (sp_law_size P w K n) [] E (tCons (tVar 1) (tCons (tVar 3) tNil))) [3]) tNil)) tNil)))))))

def t_need_fixed (P : Program) (w : World) (K : PySem.W.Frag) (n : Nm) (E : XK) : TS :=
  (tSeq (tAsg (tLc (iAny P w K (tVar 1)) (gTup K 2 (gCons (gName 3) (gCons (gName 4) gNil))) tYes (tVar 3) [3, 4]) (gName 2))
    (tIfS (tOr (tTest (tOp (rNeD K) (tLc (iAny P w K (tVar 2)) (gName 3) (tNot (tTest (tChain rLeI rLtI (tC (.int 0)) (tVar 3) (tFld K (tVar 0) "many")))) (tVar 3) [3]) (tLst tNil))) (tTest (tOp (rNeD K) (tCB (rSortU w K) (tCons (tCB (rSetC P w K) (tCons (tVar 2) tNil)) tNil)) (tVar 2)))) (tRaise E (.ref n.badAsk)) tNext))

def t_wanted (P : Program) (w : World) (K : PySem.W.Frag) (n : Nm) (E : XK) : TS :=
  (tRet (tCB (rTupF K) (tCons (tCB (rSortU w K) (tCons (tCB (rSetC P w K) (tCons (tOp (rPlus K) (tCB (rListOf K) (tCons (tVar 0) tNil)) (tLc (iAny P w K (tVar 1)) (gTup K 2 (gCons (gName 2) (gCons (gName 3) gNil))) tYes (tVar 2) [2, 3])) tNil)) tNil)) tNil)))

def t_goes (P : Program) (w : World) (K : PySem.W.Frag) (n : Nm) (E : XK) : TS :=
  (tRet (tOp (rEqU P w K) (tLc (iAny P w K (tVar 1)) (gName 2) (tTest (tOp (rInU P w K true) (tVar 2) (tVar 0))) (tVar 2) [2]) (tLst tNil)))

def t_listed (P : Program) (w : World) (K : PySem.W.Frag) (n : Nm) (E : XK) : TS :=
  (tRet (tCB (rSortU w K) (tCons (tLockE (tLc (iAny P w K (tVar 0)) (gName 1) tYes (tOp (rPlus K) (tTupF (tCons (tVar 1) tNil)) (tOp (rIxU P w K) (tVar 0) (tVar 1))) [1])) tNil)))

def t_asked (P : Program) (w : World) (K : PySem.W.Frag) (n : Nm) (E : XK) : TS :=
  (tSeq (tDrop (tCall (sp_need_table P w K n) [] E (tCons (tFld K (tVar 0) "many") (tCons (tVar 1) tNil))))
    (tSeq (tDrop (tCall (sp_need_fixed P w K n) [] E (tCons (tVar 0) (tCons (tVar 2) tNil))))
    (tSeq (tDrop (tMeth n.cube "need_kept" (sp_c_need_kept P w K n) [] E (tVar 0) (tCons (tVar 3) tNil)))
    (tSeq (tIfS (tNot (tB (tCall (sp_goes P w K n) [] E (tCons (tVar 3) (tCons (tCall (sp_wanted P w K n) [] E (tCons (tVar 1) (tCons (tVar 2) tNil))) tNil))))) (tRaise E (.ref n.notKept)) tNext)
    (tSeq (tAsg (tOp (rIxU P w K) (tFld K (tVar 0) "known") (tVar 3)) (gName 4))
    (tSeq (tAsg (tLc (iAny P w K (tVar 2)) (gTup K 2 (gCons (gName 8) (gCons (gName 9) gNil))) tYes (tTupF (tCons (tBG P w K "tuple" (rTIx K) (tVar 3) (tCons (tVar 8) tNil)) (tCons (tVar 9) tNil))) [8, 9]) (gName 5))
    (tSeq (tAsg (tNewD P w) (gName 6))
    (tSeq (tLock (tFor (iAny P w K (tVar 4)) (gName 7) (tIfS (tTest (tOp (rEqU P w K) (tLc (iAny P w K (tVar 5)) (gTup K 2 (gCons (gName 10) (gCons (gName 9) gNil))) (tTest (tOp (rNeD K) (tOp (rIxU P w K) (tVar 7) (tVar 10)) (tVar 9))) (tVar 10) [10, 9]) (tLst tNil))) (tAsg (tOp (rIxU P w K) (tVar 4) (tVar 7)) (gSub (tVar 6) (tVar 7) (rSetU P w))) tNext)))
    (tRet (tCall (sp_listed P w K n) [] E (tCons (tCall (sp_reckoned P w K n) [] E (tCons (tVar 3) (tCons (tVar 6) (tCons (tVar 1) tNil)))) tNil)))))))))))

def t_law_sums (P : Program) (w : World) (K : PySem.W.Frag) (n : Nm) (E : XK) : TS :=
  (tSeq (tAsg (tNewD P w) (gName 3))
    (tSeq (tFor (iAny P w K (tDGet (tVar 0) (tC (.str "rows")))) (gTup K 2 (gCons (gName 4) (gCons (gName 5) gNil))) (tIfS (tTest (tOp (rEqU P w K) (tLc (iAny P w K (tVar 2)) (gTup K 2 (gCons (gName 9) (gCons (gName 10) gNil))) (tTest (tOp (rNeD K) (tOp (rIxU P w K) (tVar 4) (tVar 9)) (tVar 10))) (tVar 9) [9, 10]) (tLst tNil))) (tSeq (tAsg (tCB (rTupF K) (tCons (tLc (iAny P w K (tVar 1)) (gName 9) tYes (tOp (rIxU P w K) (tVar 4) (tVar 9)) [9]) tNil)) (gName 6))
    (tSeq (tAsg (tBG P w K "dict" (rKGet P w) (tVar 3) (tCons (tVar 6) (tCons (tTupF (tCons (tC (.int 0)) (tCons (tC (.int 0)) tNil))) tNil))) (gTup K 2 (gCons (gName 7) (gCons (gName 8) gNil))))
    (tAsg (tTupF (tCons (tOp (rPlus K) (tVar 7) (tC (.int 1))) (tCons (tOp (rPlus K) (tVar 8) (tVar 5)) tNil))) (gSub (tVar 3) (tVar 6) (rSetU P w))))) tNext))
    (tRet (tCB (rSortU w K) (tCons (tLockE (tLc (iAny P w K (tVar 3)) (gName 6) tYes (tOp (rPlus K) (tTupF (tCons (tVar 6) tNil)) (tOp (rIxU P w K) (tVar 3) (tVar 6))) [6])) tNil)))))

def t_c_edges (P : Program) (w : World) (K : PySem.W.Frag) (n : Nm) (E : XK) : TS :=
  (tRet (tFld K (tVar 0) "many"))

def t_law_k01 (P : Program) (w : World) (K : PySem.W.Frag) (n : Nm) (E : XK) : TS :=
  (tSeq (tAsg (tLst (tCons (tVar 0) (tCons (tC (.int 0)) (tCons (tC (.int 0)) tNil)))) (gName 1))
    (tSeq (tAsg (tCall (sp_law_fresh P w K n) [] E (tCons (tVar 1) (tCons (tC (.int 4)) tNil))) (gName 2))
    (tSeq (tAsg (tMake n.cube (sp_c_init P w K n) [] E (tCons (tDGet (tVar 2) (tC (.str "edges"))) tNil)) (gName 3))
    (tSeq (tFor (iRng1 (tCons (tOp (rPlus K) (tC (.int 1)) (tCall (sp_law_taken P w K n) [] E (tCons (tVar 1) (tCons (tC (.int 50)) tNil)))) tNil)) (gName 4) (tSeq (tIfS (tOr (tNot (tB (tCall (sp_law_deed P w K n) [] E (tCons (tVar 1) (tCons (tVar 3) (tCons (tVar 2) tNil)))))) (tNot (tB (tCall (sp_law_right P w K n) [] E (tCons (tVar 3) (tCons (tVar 2) tNil)))))) (tRet (tC (.bl false))) tNext)
    (tSeq (tFor (iAny P w K (tCall (sp_law_standing P w K n) [] E (tCons (tVar 2) tNil))) (gName 5) (tSeq (tAsg (tCall (sp_asked P w K n) [] E (tCons (tVar 3) (tCons (tVar 5) (tCons (tLst tNil) (tCons (tVar 5) tNil))))) (gName 6))
    (tSeq (tIfS (tNot (tB (tCall (sp_law_alike P w K n) [] E (tCons (tVar 6) (tCons (tCall (sp_law_sums P w K n) [] E (tCons (tVar 2) (tCons (tVar 5) (tCons (tLst tNil) tNil)))) tNil))))) (tRet (tC (.bl false))) tNext)
    (tDrop (tBG P w K "list" rAppend (tVar 6) (tCons (tC (.int 7)) tNil))))))
    (tDrop (tBM0 K "list" rClear (tMeth n.cube "kept" (sp_c_kept P w K n) [] E (tVar 3) tNil))))))
    (tRet (tCall (sp_law_alike P w K n) [] E (tCons (tMeth n.cube "edges" (sp_c_edges P w K n) [] E (tVar 3) tNil) (tCons (tDGet (tVar 2) (tC (.str "edges"))) tNil))))))))

end KC
end

section
set_option Elab.async false
set_option linter.all false
set_option autoImplicit false
set_option maxRecDepth 100000
set_option maxHeartbeats 4000000
/-! Steps of a reading: attributes, methods, loops, and facts of tables. -/
namespace KC
open PySem L2 PySem.W
open Evl (Ex EvT)
section
variable {P : Program} {w : World} {K : PySem.W.Frag} {te a b tn tl : TE} {ta : TA} {tc : TT} {σ : L2.St} {H H' : Hp} {p q out : PV} {D : Ends} {t u body : TS} {g : TG}
theorem ev_fld {o : Addr} {C dx : Addr} {fs : List (Str × V)} {f : Str} {v : V} (h : EvP te σ H (IsR (.ref o))) (ho : H o = some (.ins C dx fs)) (hc : Cls K C) (hn : NoAttr K C f) (hl : fs.lookup f = some v) : EvP (tFld K te f) σ H (IsR v) := fun H1 e Q k =>
  h H1 e _ fun x H2 e2 hx => ⟨o, C, dx, fs, v, hx, e2 _ _ (e _ _ ho), hc, hn, hl, k v H2 e2 rfl⟩
theorem ev_fldI {o : Addr} {C dx : Addr} {fs : List (Str × V)} {f : Str} {i : Int} (h : EvP te σ H (IsR (.ref o))) (ho : H o = some (.ins C dx fs)) (hc : Cls K C) (hn : NoAttr K C f) (hl : fs.lookup f = some (.int i)) : EvP (tFld K te f) σ H (Is (.int i)) :=
  (ev_fld h ho hc hn hl).imp fun H v e => by
    have e : v = .int i := e
    subst e
    exact IsD.int i
/-- a method that only reads -/
theorem ev_meth {C o dx : Addr} {m : Str} {sp : Sp} {E : XK} {ps : List PV} {fs : List (Str × V)} (h : EvP te σ H (IsR (.ref o))) (ho : H o = some (.ins C dx fs)) (hl : fs.lookup m = none) (ha : EvAs ta σ H ps)
    (hsp : ∀ vs H1, Ex H H1 → Als H1 ps vs → ∀ Q : VK, (∀ v H2, Ex H1 H2 → out H2 v → Q v H2) → sp (.ref o :: vs) H1 Q E) : EvP (tMeth C m sp [] E te ta) σ H out := fun H1 e Q k =>
  h H1 e _ fun x H2 e2 hx => ⟨o, dx, fs, hx, e2 _ _ (e _ _ ho), hl, ha H2 (e.trans e2) _ fun vs H3 e3 hvs => by
    have hx : x = .ref o := hx
    subst hx
    show sp (.ref o :: (vs ++ [])) H3 Q E
    rw [List.append_nil]
    exact hsp vs H3 ((e.trans e2).trans e3) hvs Q fun v H4 e4 hv => k v H4 ((e2.trans e3).trans e4) hv⟩
/-- .. or one that changes something -/
theorem x_meth {C o dx : Addr} {m : Str} {sp : Sp} {E : XK} {ps : List PV} {fs : List (Str × V)} {Q : VK} (h : EvP te σ H (IsR (.ref o))) (ho : H o = some (.ins C dx fs)) (hl : fs.lookup m = none) (ha : EvAs ta σ H ps)
    (hsp : ∀ vs H1, Ex H H1 → Als H1 ps vs → sp (.ref o :: vs) H1 Q E) : tMeth C m sp [] E te ta σ H Q :=
  h H (Ex.refl _) _ fun x H2 e2 hx => ⟨o, dx, fs, hx, e2 _ _ ho, hl, ha H2 e2 _ fun vs H3 e3 hvs => by
    have hx : x = .ref o := hx
    subst hx
    show sp (.ref o :: (vs ++ [])) H3 Q E
    rw [List.append_nil]
    exact hsp vs H3 (e2.trans e3) hvs⟩
theorem x_call {sp : Sp} {E : XK} {ps : List PV} {Q : VK} (ha : EvAs ta σ H ps) (h : ∀ vs H1, Ex H H1 → Als H1 ps vs → sp vs H1 Q E) : tCall sp [] E ta σ H Q :=
  ha H (Ex.refl _) _ fun vs H2 e2 hvs => by
    show sp (vs ++ []) H2 Q E
    rw [List.append_nil]
    exact h vs H2 e2 hvs
theorem als1 {p : PV} {vs : List V} (h : Als H [p] vs) : ∃ v, vs = [v] ∧ p H v := by
  match vs, h with
  | [v], h => exact ⟨v, rfl, h.1⟩
theorem als2 {p q : PV} {vs : List V} (h : Als H [p, q] vs) : ∃ v u, vs = [v, u] ∧ p H v ∧ q H u := by
  match vs, h with
  | [v, u], h => exact ⟨v, u, rfl, h.1, h.2.1⟩
theorem als3 {p q r : PV} {vs : List V} (h : Als H [p, q, r] vs) : ∃ v u x, vs = [v, u, x] ∧ p H v ∧ q H u ∧ r H x := by
  match vs, h with
  | [v, u, x], h => exact ⟨v, u, x, rfl, h.1, h.2.1, h.2.2.1⟩
theorem als4 {p q r s : PV} {vs : List V} (h : Als H [p, q, r, s] vs) : ∃ v u x y, vs = [v, u, x, y] ∧ p H v ∧ q H u ∧ r H x ∧ s H y := by
  match vs, h with
  | [v, u, x, y], h => exact ⟨v, u, x, y, rfl, h.1, h.2.1, h.2.2.1, h.2.2.2.1⟩
/-- a call that gives a new list -/
theorem evf_call {sp : Sp} {E : XK} {ps : List PV} {ds : List PyData} (ha : EvAs ta σ H ps) (h : ∀ vs H1, Ex H H1 → Als H1 ps vs → ∀ Q : VK, Fresh H1 Q ds → sp vs H1 Q E) : EvF (tCall sp [] E ta) σ H ds := fun H1 e Q k =>
  ha H1 e _ fun vs H2 e2 hvs => by
    show sp (vs ++ []) H2 Q E
    rw [List.append_nil]
    exact h vs H2 (e.trans e2) hvs Q fun a xs H3 n e3 h1 h2 => k a xs H3 (Evl.fresh_back e2 n) (e2.trans e3) h1 h2
theorem evf_meth {C o dx : Addr} {m : Str} {sp : Sp} {E : XK} {ps : List PV} {fs : List (Str × V)} {ds : List PyData} (h : EvP te σ H (IsR (.ref o))) (ho : H o = some (.ins C dx fs)) (hl : fs.lookup m = none) (ha : EvAs ta σ H ps)
    (hsp : ∀ vs H1, Ex H H1 → Als H1 ps vs → ∀ Q : VK, Fresh H1 Q ds → sp (.ref o :: vs) H1 Q E) : EvF (tMeth C m sp [] E te ta) σ H ds := fun H1 e Q k =>
  h H1 e _ fun x H2 e2 hx => ⟨o, dx, fs, hx, e2 _ _ (e _ _ ho), hl, ha H2 (e.trans e2) _ fun vs H3 e3 hvs => by
    have hx : x = .ref o := hx
    subst hx
    show sp (.ref o :: (vs ++ [])) H3 Q E
    rw [List.append_nil]
    exact hsp vs H3 ((e.trans e2).trans e3) hvs Q fun a xs H4 n e4 h1 h2 => k a xs H4 (Evl.fresh_back (e2.trans e3) n) ((e2.trans e3).trans e4) h1 h2⟩
theorem s_drops (h : EvP te σ H p) (k : ∀ v H', Ex H H' → p H' v → u D σ H') : tSeq (tDrop te) u D σ H := h H (Ex.refl _) _ fun v H2 e hv => k v H2 e hv
/-- for i in range(n) -/
theorem s_forR {n : Nat} (h : EvP tn σ H (Is (.int n))) (hn : n ≤ 1000) (Pv : Nat → L2.St → Hp → Prop) (h0 : ∀ H', Ex H H' → Pv 0 σ H')
    (hs : ∀ i σ' H', i < n → Pv i σ' H' → ∀ N : L2.St → Hp → Prop, (∀ σ3 H3, Pv (i + 1) σ3 H3 → N σ3 H3) → g (.int (i : Nat)) σ' H' fun σ2 H2 => body { D with nx := N, ct := N, bk := D.nx } σ2 H2)
    (hd : ∀ σ' H', Pv n σ' H' → D.nx σ' H') : tFor (iRng1 (tCons tn tNil)) g body D σ H := h H (Ex.refl _) _ fun v H2 e2 hv => by
  have ev := isInt_get hv
  subst ev
  have en : (n : Int).toNat = n := by omega
  refine ⟨n, rfl, by omega, by omega, for_range (lo := 0) (n := (n : Int).toNat) Pv (h0 H2 e2) (fun i σ' H' hi p => ?_) fun σ' H' p => hd σ' H' (by rw [en] at p; exact p)⟩
  have ez : (0 : Int) + (i : Nat) = (i : Nat) := Int.zero_add _
  rw [ez]
  exact hs i σ' H' (by omega) p _ fun _ _ q => q
/-- for x in a list or a tuple -/
theorem s_forL {ds : List PyData} (h : EvP tl σ H (IsSq K ds)) (Pv : Nat → L2.St → Hp → Prop) (h0 : ∀ H', Ex H H' → Pv 0 σ H') (hst : ∀ a xs H1, Ex H H1 → (SqL K H1 a xs ∨ SqT K H1 a xs) → ∀ i σ' H', Pv i σ' H' → (SqL K H1 a xs → SqL K H' a xs) ∧ (SqT K H1 a xs → SqT K H' a xs)) (htp : ∀ H1 i σ' H', Ex H H1 → Pv i σ' H' → Tp H1 H')
    (hs : ∀ i d v σ' H', ds[i]? = some d → IsD H' v d → Pv i σ' H' → ∀ N : L2.St → Hp → Prop, (∀ σ3 H3, Pv (i + 1) σ3 H3 → N σ3 H3) → g v σ' H' fun σ2 H2 => body { D with nx := N, ct := N, bk := D.nx } σ2 H2)
    (hd : ∀ σ' H', Pv ds.length σ' H' → D.nx σ' H') : tFor (iAny P w K tl) g body D σ H := h H (Ex.refl _) _ fun v H2 e2 ⟨a, xs, ev, hq, hx⟩ => by
  have hlen := hx.length
  have step : ∀ i x σ' H', xs[i]? = some x → Pv i σ' H' → g x σ' H' fun σ2 H2 => body { D with nx := Pv (i + 1), ct := Pv (i + 1), bk := D.nx } σ2 H2 := fun i x σ' H' hi p => by
    obtain ⟨d, h1, h2⟩ := IsDs.get hx hi
    exact hs i d x σ' H' h1 (h2.mono (htp H2 i σ' H' e2 p)) p _ fun _ _ q => q
  rcases hq with hq' | hq'
  · exact .inl ⟨a, ev, ⟨xs, hq'⟩, for_list (K := K) (a := a) (xs := xs) Pv (h0 H2 e2) (fun i σ' H' _ p => (hst a xs H2 e2 (.inl hq') i σ' H' p).1 hq') step fun σ' H' p => hd σ' H' (by rw [← hlen]; exact p)⟩
  · exact .inr (.inl ⟨a, ev, ⟨xs, hq'⟩, for_tup (K := K) (a := a) (xs := xs) Pv (h0 H2 e2) (fun i σ' H' _ p => (hst a xs H2 e2 (.inr hq') i σ' H' p).2 hq') step fun σ' H' p => hd σ' H' (by rw [← hlen]; exact p)⟩)
/-! ### x in a tuple or list of ints -/
theorem eqV_int (x y : Int) : eqV (.int y) (.int x) = decide (y = x) := by
  show (y == x) = _
  rw [Bool.beq_eq_decide_eq]
theorem inV_ints (x : Int) : ∀ T : List Int, inV (.int x) (T.map V.int) = decide (x ∈ T)
  | [] => by simp [inV]
  | y :: T => by
    have ih := inV_ints x T
    unfold inV at ih ⊢
    rw [List.map_cons, List.any_cons, ih, eqV_int]
    by_cases h : x = y
    · subst h; simp
    · have h' : ¬ y = x := fun z => h z.symm
      simp [h, h']
theorem ev_inT {x : Int} {T : List Int} (ha : EvP a σ H (Is (.int x))) (hb : EvP b σ H (IsSq K (dI T))) : EvP (tOp (rInU P w K false) a b) σ H (Is (.bool (decide (x ∈ T)))) :=
  ev_op ha hb fun u v H1 _ hx ⟨c, xs, ev, hq, hs⟩ Q k => by
    have e1 := isInt_get hx
    subst e1 ev
    have e2 := ints_of_isDs hs
    subst e2
    refine .inl ⟨c, _, rfl, hq, rfl, flat_ints T, ?_⟩
    rw [inV_ints]
    exact k _ _ (Ex.refl _) (IsD.bl _)
theorem ev_ninT {x : Int} {T : List Int} (ha : EvP a σ H (Is (.int x))) (hb : EvP b σ H (IsSq K (dI T))) : EvP (tOp (rInU P w K true) a b) σ H (Is (.bool (!decide (x ∈ T)))) :=
  ev_op ha hb fun u v H1 _ hx ⟨c, xs, ev, hq, hs⟩ Q k => by
    have e1 := isInt_get hx
    subst e1 ev
    have e2 := ints_of_isDs hs
    subst e2
    refine .inl ⟨c, _, rfl, hq, rfl, flat_ints T, ?_⟩
    rw [inV_ints]
    exact k _ _ (Ex.refl _) (IsD.bl _)
/-! ### == [] -/
theorem sh_nil : Sh (.list []) := by unfold Sh SeqAt.shaped; simp [PyData.canLay0, PyData.depth, PyData.depthAll, PyData.canLayAll0]
theorem ev_eqNil {ds : List PyData} (ha : EvP a σ H (IsL K ds)) (h : Sh (.list ds)) : EvP (tOp (rEqU P w K) a (tLst tNil)) σ H (Is (.bool ds.isEmpty)) := by
  have e : PyData.eqv (.list ds) (.list []) = ds.isEmpty := by
    cases ds with
    | nil => simp [PyData.eqv, PyData.eqvAll]
    | cons d ds => simp [PyData.eqv, PyData.eqvAll]
  rw [← e]
  exact ev_eqDp ha ((evf_lst eds_nil (by decide)).l (K := K)) (fun _ _ h => isL_dp h) (fun _ _ h => isL_dp h) h sh_nil
theorem ev_neNil {ds : List PyData} (ha : EvP a σ H (IsL K ds)) (h : Sh (.list ds)) : EvP (tOp (rNeD K) a (tLst tNil)) σ H (Is (.bool (!ds.isEmpty))) := by
  have e : PyData.eqv (.list ds) (.list []) = ds.isEmpty := by
    cases ds with
    | nil => simp [PyData.eqv, PyData.eqvAll]
    | cons d ds => simp [PyData.eqv, PyData.eqvAll]
  rw [← e]
  exact ev_neDp ha ((evf_lst eds_nil (by decide)).l (K := K)) (fun _ _ h => isL_dp h) (fun _ _ h => isL_dp h) h sh_nil
end
end KC
end

section
set_option Elab.async false
set_option linter.all false
set_option autoImplicit false
set_option maxRecDepth 100000
set_option maxHeartbeats 4000000
/-! The tables' defs keep their promises. -/
namespace KC
open PySem L2 PySem.W
open Evl (Ex EvT)
section
variable {P : Program} {w : World} {K : PySem.W.Frag} {mg : Str → Option Value} {n : Nm}
theorem len_need_table {vs : List V} {H : Hp} {Q : VK} {E : XK} (h : sp_need_table P w K n vs H Q E) : vs.length = 2 := by
  obtain ⟨_, _, _, rfl, _⟩ := h
  rfl
theorem len_goes {vs : List V} {H : Hp} {Q : VK} {E : XK} (h : sp_goes P w K n vs H Q E) : vs.length = 2 := by
  obtain ⟨_, _, _, _, rfl, _⟩ := h
  rfl
theorem len_places_of {vs : List V} {H : Hp} {Q : VK} {E : XK} (h : sp_places_of P w K n vs H Q E) : vs.length = 2 := by
  obtain ⟨_, _, _, _, rfl, _⟩ := h
  rfl
theorem len_added {vs : List V} {H : Hp} {Q : VK} {E : XK} (h : sp_added P w K n vs H Q E) : vs.length = 4 := by
  obtain ⟨_, _, _, _, _, _, rfl, _⟩ := h
  rfl
theorem len_reckoned {vs : List V} {H : Hp} {Q : VK} {E : XK} (h : sp_reckoned P w K n vs H Q E) : vs.length = 3 := by
  obtain ⟨_, _, _, _, _, _, rfl, _⟩ := h
  rfl
theorem len_listed {vs : List V} {H : Hp} {Q : VK} {E : XK} (h : sp_listed P w K n vs H Q E) : vs.length = 1 := by
  obtain ⟨_, _, rfl, _⟩ := h
  rfl
theorem len_c_init {vs : List V} {H : Hp} {Q : VK} {E : XK} (h : sp_c_init P w K n vs H Q E) : vs.length = 2 := by
  obtain ⟨_, _, _, rfl, _⟩ := h
  rfl
theorem len_c_edges {vs : List V} {H : Hp} {Q : VK} {E : XK} (h : sp_c_edges P w K n vs H Q E) : vs.length = 1 := by
  obtain ⟨_, rfl, _⟩ := h
  rfl
theorem len_c_need_row {vs : List V} {H : Hp} {Q : VK} {E : XK} (h : sp_c_need_row P w K n vs H Q E) : vs.length = 3 := by
  obtain ⟨_, _, _, rfl, _⟩ := h
  rfl
theorem len_c_put {vs : List V} {H : Hp} {Q : VK} {E : XK} (h : sp_c_put P w K n vs H Q E) : vs.length = 3 := by
  obtain ⟨_, _, _, rfl, _⟩ := h
  rfl
theorem len_c_take {vs : List V} {H : Hp} {Q : VK} {E : XK} (h : sp_c_take P w K n vs H Q E) : vs.length = 3 := by
  obtain ⟨_, _, _, rfl, _⟩ := h
  rfl
theorem len_c_touch {vs : List V} {H : Hp} {Q : VK} {E : XK} (h : sp_c_touch P w K n vs H Q E) : vs.length = 4 := by
  obtain ⟨_, _, _, _, _, _, _, rfl, _⟩ := h
  rfl
theorem len_c_need_kept {vs : List V} {H : Hp} {Q : VK} {E : XK} (h : sp_c_need_kept P w K n vs H Q E) : vs.length = 2 := by
  obtain ⟨_, _, _, rfl, _⟩ := h
  rfl
theorem len_c_roads {vs : List V} {H : Hp} {Q : VK} {E : XK} (h : sp_c_roads P w K n vs H Q E) : vs.length = 2 := by
  obtain ⟨_, _, _, rfl, _⟩ := h
  rfl
theorem len_c_make {vs : List V} {H : Hp} {Q : VK} {E : XK} (h : sp_c_make P w K n vs H Q E) : vs.length = 2 := by
  obtain ⟨_, _, _, rfl, _⟩ := h
  rfl
theorem len_c_rebuild {vs : List V} {H : Hp} {Q : VK} {E : XK} (h : sp_c_rebuild P w K n vs H Q E) : vs.length = 2 := by
  obtain ⟨_, _, _, rfl, _⟩ := h
  rfl
theorem len_c_lose {vs : List V} {H : Hp} {Q : VK} {E : XK} (h : sp_c_lose P w K n vs H Q E) : vs.length = 2 := by
  obtain ⟨_, _, _, rfl, _⟩ := h
  rfl
theorem len_c_drop {vs : List V} {H : Hp} {Q : VK} {E : XK} (h : sp_c_drop P w K n vs H Q E) : vs.length = 2 := by
  obtain ⟨_, _, _, rfl, _⟩ := h
  rfl
theorem len_c_kept {vs : List V} {H : Hp} {Q : VK} {E : XK} (h : sp_c_kept P w K n vs H Q E) : vs.length = 1 := by
  obtain ⟨_, rfl, _⟩ := h
  rfl
theorem len_c_room {vs : List V} {H : Hp} {Q : VK} {E : XK} (h : sp_c_room P w K n vs H Q E) : vs.length = 1 := by
  obtain ⟨_, rfl, _⟩ := h
  rfl
theorem len_need_fixed {vs : List V} {H : Hp} {Q : VK} {E : XK} (h : sp_need_fixed P w K n vs H Q E) : vs.length = 2 := by
  obtain ⟨_, _, _, rfl, _⟩ := h
  rfl
theorem len_wanted {vs : List V} {H : Hp} {Q : VK} {E : XK} (h : sp_wanted P w K n vs H Q E) : vs.length = 2 := by
  obtain ⟨_, _, _, _, rfl, _⟩ := h
  rfl
theorem len_asked {vs : List V} {H : Hp} {Q : VK} {E : XK} (h : sp_asked P w K n vs H Q E) : vs.length = 4 := by
  obtain ⟨_, _, _, _, _, _, _, rfl, _⟩ := h
  rfl
theorem len_law_taken {vs : List V} {H : Hp} {Q : VK} {E : XK} (h : sp_law_taken P w K n vs H Q E) : vs.length = 2 := by
  obtain ⟨_, _, _, rfl, _⟩ := h
  rfl
theorem len_law_fresh {vs : List V} {H : Hp} {Q : VK} {E : XK} (h : sp_law_fresh P w K n vs H Q E) : vs.length = 2 := by
  obtain ⟨_, _, _, rfl, _⟩ := h
  rfl
theorem len_law_table {vs : List V} {H : Hp} {Q : VK} {E : XK} (h : sp_law_table P w K n vs H Q E) : vs.length = 2 := by
  obtain ⟨_, _, _, rfl, _⟩ := h
  rfl
theorem len_law_drawn {vs : List V} {H : Hp} {Q : VK} {E : XK} (h : sp_law_drawn P w K n vs H Q E) : vs.length = 2 := by
  obtain ⟨_, _, _, rfl, _⟩ := h
  rfl
theorem len_law_standing {vs : List V} {H : Hp} {Q : VK} {E : XK} (h : sp_law_standing P w K n vs H Q E) : vs.length = 1 := by
  obtain ⟨_, rfl, _⟩ := h
  rfl
theorem len_law_size {vs : List V} {H : Hp} {Q : VK} {E : XK} (h : sp_law_size P w K n vs H Q E) : vs.length = 2 := by
  obtain ⟨_, _, _, rfl, _⟩ := h
  rfl
theorem len_law_ranked {vs : List V} {H : Hp} {Q : VK} {E : XK} (h : sp_law_ranked P w K n vs H Q E) : vs.length = 3 := by
  obtain ⟨_, _, _, _, _, rfl, _⟩ := h
  rfl
theorem len_law_best {vs : List V} {H : Hp} {Q : VK} {E : XK} (h : sp_law_best P w K n vs H Q E) : vs.length = 3 := by
  obtain ⟨_, _, _, _, _, rfl, _⟩ := h
  rfl
theorem len_law_sums {vs : List V} {H : Hp} {Q : VK} {E : XK} (h : sp_law_sums P w K n vs H Q E) : vs.length = 3 := by
  obtain ⟨_, _, _, _, _, rfl, _⟩ := h
  rfl
theorem len_law_right {vs : List V} {H : Hp} {Q : VK} {E : XK} (h : sp_law_right P w K n vs H Q E) : vs.length = 2 := by
  obtain ⟨_, _, rfl, _⟩ := h
  rfl
theorem len_law_deed_of_table {vs : List V} {H : Hp} {Q : VK} {E : XK} (h : sp_law_deed_of_table P w K n vs H Q E) : vs.length = 4 := by
  obtain ⟨_, _, _, _, _, rfl, _⟩ := h
  rfl
theorem len_law_deed {vs : List V} {H : Hp} {Q : VK} {E : XK} (h : sp_law_deed P w K n vs H Q E) : vs.length = 3 := by
  obtain ⟨_, _, _, _, rfl, _⟩ := h
  rfl
theorem len_law {vs : List V} {H : Hp} {Q : VK} {E : XK} (h : sp_law P w K n vs H Q E) : vs.length = 1 := by
  obtain ⟨_, _, rfl, _⟩ := h
  rfl
theorem getT {T : List Int} {i : Nat} (h : i < T.length) : (dI T)[i]? = some (.int T[i]) := by simp [h]
theorem tab_sorted {T : List Int} (h : T.Pairwise (· < ·)) {i j : Nat} (hj : j < T.length) (hij : i < j) : T[i] < T[j] := List.pairwise_iff_getElem.mp h i j (by omega) hj hij
theorem pure_need_table {vs : List V} {H : Hp} {Q : VK} {E : XK} (T : Txt K mg n) (h : sp_need_table P w K n vs H Q E) : t_need_table P w K n E0 { nx := fun _ H' => Q .non H', rt := Q } (start ["edges", "table", "k"] vs) H := by
  obtain ⟨N, L, v, rfl, hv, ⟨hp, hb⟩, hl, k⟩ := h
  refine s_forR (n := L.length) ?_ hl (fun i σ' H' => Ex H H' ∧ ∃ x, σ' = [some (.int N), some v, x]) (fun H' e => ⟨e, _, rfl⟩) (fun i σ' H' hi ⟨e, x, hσ⟩ N' kn => ?_) fun σ' H' ⟨e, _⟩ => k H' e
  · have := ev_len (P := P) (w := w) (K := K) (σ := start ["edges", "table", "k"] [V.int N, v]) (a := tVar 1) ((ev_var (p := Is (dT L)) rfl hv).tq)
    rw [List.length_map] at this
    exact this
  · subst hσ
    show tIfS _ _ _ _ [some (.int N), some v, some (.int (i : Nat))] H'
    have hv' : IsD H' v (dT L) := hv.mono (Tp.of e)
    have ht : EvP (tVar 1) [some (.int N), some v, some (.int (i : Nat))] H' (IsSq K (dI L)) := (ev_var (p := Is (dT L)) rfl hv').tq
    have hx : EvP (tOp (rIxU P w K) (tVar 1) (tVar 2)) [some (.int N), some v, some (.int (i : Nat))] H' (Is (.int L[i])) := ev_ix ht (ev_vi rfl) (getT hi)
    have b1 := hb _ (List.getElem_mem hi)
    refine s_if (b := false) ?_ (fun z => by cases z) fun _ H2 e2 => kn _ _ ⟨e.trans e2, _, rfl⟩
    have c1 := evt_not (evt_test (ev_chLeLt (ev_int 0) hx (ev_vi (i := 0) (z := N) rfl)))
    have c2 : (!(decide (0 ≤ L[i]) && decide (L[i] < (N : Int)))) = false := by rw [decide_eq_true b1.1, decide_eq_true b1.2]; rfl
    rw [c2] at c1
    refine evt_or (b := false) (c := false) c1 fun _ => ?_
    by_cases h0 : i = 0
    · subst h0
      have c3 := evt_test (ev_gt (σ := [some (.int N), some v, some (.int (0 : Nat))]) (H := H') (ev_vi (i := 2) rfl) (ev_int 0))
      have c4 : decide ((0 : Int) < ((0 : Nat) : Int)) = false := by decide
      rw [c4] at c3
      exact evt_and (b := false) (c := true) c3 fun z => by cases z
    · have c3 := evt_test (ev_gt (σ := [some (.int N), some v, some (.int (i : Nat))]) (H := H') (ev_vi (i := 2) rfl) (ev_int 0))
      have c4 : decide ((0 : Int) < (i : Int)) = true := decide_eq_true (by omega)
      rw [c4] at c3
      refine evt_and (b := true) (c := false) c3 fun _ => ?_
      have c5 := ev_sub (P := P) (w := w) (σ := [some (.int N), some v, some (.int (i : Nat))]) (H := H') (ev_vi (i := 2) rfl) (ev_int 1)
      have c6 : ((i : Int) - 1) = ((i - 1 : Nat) : Int) := by omega
      rw [c6] at c5
      have c7 := evt_test (ev_ge (ev_ix (P := P) (w := w) ht c5 (getT (i := i - 1) (by omega))) hx)
      have c8 : decide (L[i] ≤ L[i - 1]'(by omega)) = false := decide_eq_false (by have := tab_sorted hp hi (i := i - 1) (by omega); omega)
      rw [c8] at c7
      exact c7
/-- an item of a list of ints -/
theorem turn_id {tt : TT} {i : Nat} {σ : L2.St} {H : Hp} {v : V} {b : Bool} {d : PyData} (hi : i < σ.length) (hv : IsD H v d) (ht : EvT tt ((wipe σ [i]).set i (some v)) H b) : Turn1 (gName i) tt (tVar i) [i] σ H v b d := by
  refine ⟨(wipe σ [i]).set i (some v), fun Q' q => q, ?_, ht, fun _ => ev_var (p := Is d) ?_ hv⟩
  · simp [wipe]
  · simp [wipe, hi]
theorem turn_of {te : TE} {tt : TT} {i : Nat} {σ : L2.St} {H : Hp} {v : V} {b : Bool} {d : PyData} (ht : EvT tt ((wipe σ [i]).set i (some v)) H b) (he : b = true → EvP te ((wipe σ [i]).set i (some v)) H (Is d)) : Turn1 (gName i) tt te [i] σ H v b d :=
  ⟨(wipe σ [i]).set i (some v), fun Q' q => q, by simp [wipe], ht, he⟩
theorem filter_all {α : Type} (l : List α) : l.filter (fun _ => true) = l := List.filter_eq_self.mpr fun _ _ => rfl
theorem sh_ints {T : List Int} : Sh (.list (T.map PyData.int)) := by
  have h1 : PyData.canLayAll0 (T.map PyData.int) = true := by
    induction T with
    | nil => simp [PyData.canLayAll0]
    | cons x T ih => simp [PyData.canLayAll0, PyData.canLay0, ih]
  have h2 : PyData.depthAll (T.map PyData.int) = 0 := depth_ints T
  have h3 : PyData.depth (.list (T.map PyData.int)) ≤ 64 := by rw [PyData.depth, h2]; decide
  unfold Sh SeqAt.shaped
  rw [PyData.canLay0, h1, Bool.true_and]
  exact decide_eq_true h3
theorem sh_T {T : List Int} : Sh (dT T) := by
  have h1 : PyData.canLayAll0 (T.map PyData.int) = true := by
    induction T with
    | nil => simp [PyData.canLayAll0]
    | cons x T ih => simp [PyData.canLayAll0, PyData.canLay0, ih]
  have h3 := depth_T' T
  unfold Sh SeqAt.shaped
  rw [show PyData.canLay0 (dT T) = PyData.canLayAll0 (T.map PyData.int) by rw [PyData.canLay0], h1, Bool.true_and]
  exact decide_eq_true (by omega)
theorem line1000 {k : Nat} (h : k ≤ 1000) : k ≤ sizeLine := Nat.le_trans h (by decide)
/-- [edge for edge in T if edge not in R] == [] -/
theorem ev_goes {σ : L2.St} {H : Hp} {tt tr : TE} {R L : List Int} {i : Nat} (hi : i < σ.length) (ht : EvP tt σ H (Is (dT L))) (hl : L.length ≤ 1000) (hr : ∀ v H', Ex H H' → EvP tr ((wipe σ [i]).set i (some v)) H' (Is (dT R))) :
    EvP (tOp (rEqU P w K) (tLc (iAny P w K tt) (gName i) (tTest (tOp (rInU P w K true) (tVar i) tr)) (tVar i) [i]) (tLst tNil)) σ H (Is (.bool (sub L R))) := by
  have h1 := evf_lc (P := P) (w := w) (K := K) (g := gName i) (tt := tTest (tOp (rInU P w K true) (tVar i) tr)) (te := tVar i) (vs := [i]) (σ := σ) (H := H) (tl := tt) PyData.int (fun e => !decide (e ∈ R)) PyData.int L ht.tq (line1000 hl)
    fun x hx v H' e hv => turn_id hi hv (evt_test (ev_ninT (ev_var (p := Is (.int x)) (by simp [wipe, hi]) hv) (hr v H' e).tq))
  have h2 := ev_eqNil (P := P) (w := w) (h1.l (K := K)) sh_ints
  have h3 : ((L.filter fun e => !decide (e ∈ R)).map PyData.int).isEmpty = sub L R := by
    rw [List.isEmpty_map, Bool.eq_iff_iff, List.isEmpty_iff, List.filter_eq_nil_iff]
    unfold sub
    rw [List.all_eq_true]
    simp
  rw [h3] at h2
  exact h2
theorem pure_goes {vs : List V} {H : Hp} {Q : VK} {E : XK} (T : Txt K mg n) (h : sp_goes P w K n vs H Q E) : t_goes P w K n E0 { nx := fun _ H' => Q .non H', rt := Q } (start ["road", "table", "edge"] vs) H := by
  obtain ⟨R, L, r, t, rfl, hr, ht, hl, k⟩ := h
  refine s_ret (p := Is (.bool (sub L R))) (ev_goes (by show 2 < 3; decide) (ev_var rfl ht) hl fun v H' e => ev_var (v := r) rfl (hr.mono (Tp.of e))) fun v H' e hv => ?_
  have := isBl_get hv
  subst this
  exact k H' e
theorem idx_at {R : List Int} {e : Int} (h : e ∈ R) : R[R.idxOf e]? = some e := by
  have h1 : R.idxOf e < R.length := List.idxOf_lt_length_iff.mpr h
  rw [List.getElem?_eq_getElem h1, List.getElem_idxOf]
theorem idx_first {R : List Int} {e : Int} : ∀ m, m < R.idxOf e → R[m]? ≠ some e := by
  induction R with
  | nil => intro m h; simp at h
  | cons x R ih =>
    intro m h
    rw [List.idxOf_cons] at h
    by_cases q : x = e
    · subst q; simp at h
    · have qb : (x == e) = false := beq_eq_false_iff_ne.mpr q
      rw [qb] at h
      cases m with
      | zero => simpa using q
      | succ m => simpa using ih m (by simp at h; omega)
theorem ev_index {σ : L2.St} {H : Hp} {a b : TE} {R : List Int} {e : Int} (ha : EvP a σ H (Is (dT R))) (hb : EvP b σ H (Is (.int e))) (he : e ∈ R) : EvP (tBG P w K "tuple" (rTIx K) a (tCons b tNil)) σ H (Is (.int (R.idxOf e : Nat))) := fun H1 e1 Q k =>
  ha H1 e1 _ fun x H2 e2 hx => by
    obtain ⟨c, rfl, hc⟩ := isT_get hx
    refine ⟨.inr (.inl ⟨c, _, rfl, rfl, hc⟩), hb H2 (e1.trans e2) _ fun y H3 e3 hy => ?_⟩
    have ey := isInt_get hy
    subst ey
    exact ⟨c, R, e, R.idxOf e, rfl, rfl, (hc.mono (Tp.of e3)).sq, idx_at he, idx_first, k _ _ (e2.trans e3) (IsD.int _)⟩
theorem sub_mem {L R : List Int} (h : sub L R = true) : ∀ e ∈ L, e ∈ R := fun e he => of_decide_eq_true (List.all_eq_true.mp h e he)
theorem sub_of {L R : List Int} (h : ∀ e ∈ L, e ∈ R) : sub L R = true := List.all_eq_true.mpr fun e he => decide_eq_true (h e he)
theorem pure_places_of {vs : List V} {H : Hp} {Q : VK} {E : XK} (T : Txt K mg n) (h : sp_places_of P w K n vs H Q E) : t_places_of P w K n E0 { nx := fun _ H' => Q .non H', rt := Q } (start ["road", "table", "edge"] vs) H := by
  obtain ⟨R, L, r, t, rfl, hr, ht, hs, hl, k⟩ := h
  have h1 := evf_lc (P := P) (w := w) (K := K) (g := gName 2) (tt := tYes) (te := tBG P w K "tuple" (rTIx K) (tVar 0) (tCons (tVar 2) tNil)) (vs := [2]) (σ := start ["road", "table", "edge"] [r, t]) (H := H) (tl := tVar 1) PyData.int (fun _ => true) (fun e => .int (R.idxOf e : Nat)) L (ev_var (p := Is (dT L)) rfl ht).tq (line1000 hl)
    fun x hx v H' e hv => turn_of evt_yes fun _ => ev_index (ev_var (p := Is (dT R)) (v := r) rfl (hr.mono (Tp.of e))) (ev_var (p := Is (.int x)) (v := v) rfl hv) (sub_mem hs x hx)
  rw [filter_all] at h1
  refine s_retF h1 fun a xs H' n e ha hx => k a xs H' n e ha ?_
  show IsDs H' xs ((L.map fun e => ((R.idxOf e : Nat) : Int)).map PyData.int)
  rw [List.map_map]
  exact hx
end
end KC
end

section
set_option Elab.async false
set_option linter.all false
set_option autoImplicit false
set_option maxRecDepth 100000
set_option maxHeartbeats 4000000
/-! added, reckoned, listed. -/
namespace KC
open PySem L2 PySem.W
open Evl (Ex EvT)
section
variable {κ α : Type} [DecidableEq κ] {enc : κ → NestedKey} {val : Hp → V → α → Prop} {H H' : Hp} {m : List (κ × α)} {P : Program} {w : World} {K : PySem.W.Frag} {d : Addr} {k : κ} {td tk te tz : TE} {σ : L2.St} {D : Ends} {t u : TS} {p : PV}
theorem s_seq (h : t { D with nx := u D } σ H) : tSeq t u D σ H := h
theorem s_setD [KeyE enc] (mv : MnV val) [Mn p] {x : α} (hv : EvP te σ H p) (hd : EvP td σ H (IsR (.ref d))) (hk : EvP tk σ H (IsK enc k)) (hp : ∀ H v, p H v → val H v x) (h : DAt P w enc val H d m) (hz : m.length ≤ 100000)
    (kk : ∀ H', Fr [d] H H' → DAt P w enc val H' d (putG m k x) → D.nx σ H') : tAsg te (gSub td tk (rSetU P w)) D σ H :=
  hv H (Ex.refl _) _ fun v H1 e1 h1 => hd H1 e1 _ fun o H2 e2 ho => hk H2 (e1.trans e2) _ fun i H3 e3 hi => by
    have ho : o = .ref d := ho
    subst ho
    obtain ⟨q, rfl, hq⟩ := keyOf hi
    have e : Ex H H3 := (e1.trans e2).trans e3
    refine putD_core mv (h.ex mv e) hq (hp _ _ (Mn.mn (e2.trans e3) h1)) hz fun o t _ hD => kk _ ((Fr.ex e).trans (Fr.set (by simp) t)) hD
theorem s_popD [KeyE enc] (mv : MnV val) {x : α} (hd : EvP td σ H (IsR (.ref d))) (hk : EvP tk σ H (IsK enc k)) (h : DAt P w enc val H d m) (hg : getG m k = some x)
    (kk : ∀ H', Fr [d] H H' → DAt P w enc val H' d (dropG m k) → D.nx σ H') : tDrop (tBG P w K "dict" (rKPop P w) td (tCons tk tNil)) D σ H :=
  hd H (Ex.refl _) _ fun o H1 e1 ho => by
    have ho : o = .ref d := ho
    subst ho
    obtain ⟨rows, hr, _⟩ := h.ex mv e1
    refine ⟨.inr (.inr ⟨d, rows, rfl, rfl, .inl hr⟩), hk H1 e1 _ fun i H2 e2 hi => ?_⟩
    obtain ⟨q, rfl, hq⟩ := keyOf hi
    exact popD_core mv (h.ex mv (e1.trans e2)) hq hg fun v o _ t _ hD => kk _ ((Fr.ex (e1.trans e2)).trans (Fr.set (by simp) t)) hD
theorem s_popD2 [KeyE enc] (mv : MnV val) [Mn p] (hd : EvP td σ H (IsR (.ref d))) (hk : EvP tk σ H (IsK enc k)) (hz : EvP tz σ H p) (h : DAt P w enc val H d m)
    (kk : ∀ H', Fr [d] H H' → DAt P w enc val H' d (dropG m k) → D.nx σ H') : tDrop (tBG P w K "dict" (rKPop2 P w) td (tCons tk (tCons tz tNil))) D σ H :=
  hd H (Ex.refl _) _ fun o H1 e1 ho => by
    have ho : o = .ref d := ho
    subst ho
    obtain ⟨rows, hr, _⟩ := h.ex mv e1
    refine ⟨.inr (.inr ⟨d, rows, rfl, rfl, .inl hr⟩), hk H1 e1 _ fun i H2 e2 hi => hz H2 (e1.trans e2) _ fun z H3 e3 _ => ?_⟩
    obtain ⟨q, rfl, hq⟩ := keyOf hi
    have e := (e1.trans e2).trans e3
    refine popD2_core mv (h.ex mv e) (hq.mono (Tp.of e3)) (fun v o t _ hD => kk _ ((Fr.ex e).trans (Fr.set (by simp) t)) hD) fun hn => ?_
    have := h.ex mv e
    rw [← dropG_none hn] at this
    exact kk _ (Fr.ex e) this
theorem isK_T {T : List Int} {v : V} (h : IsD H v (dT T)) : IsK encT T H v := by
  show IsD H v (encT T).data
  rw [data_T]
  exact h
theorem ev_K {T : List Int} (h : EvP te σ H (Is (dT T))) : EvP te σ H (IsK encT T) := h.imp fun _ _ q => isK_T q
theorem ev_at {i : Nat} {e : PyData} {ds : List PyData} (h : EvP te σ H (Is (.tuple ds))) (hi : ds[i]? = some e) : EvP (tOp (rIxU P w K) te (tC (.int (i : Nat)))) σ H (Is e) := ev_ix h.tq (ev_int _) hi
end
section
variable {P : Program} {w : World} {K : PySem.W.Frag} {mg : Str → Option Value} {n : Nm}
theorem pure_added {vs : List V} {H : Hp} {Q : VK} {E : XK} (T : Txt K mg n) (h : sp_added P w K n vs H Q E) : t_added P w K n E0 { nx := fun _ H' => Q .non H', rt := Q } (start ["known", "values", "count", "amount", "old"] vs) H := by
  obtain ⟨d, v, c, s, k, m, rfl, hd, hv, hl, kk⟩ := h
  refine s_asg (ev_getD mv_cs (z := (0, 0)) (p := Is (.tuple [.int 0, .int 0])) (d := d) (k := k) (ev_ref rfl) (ev_K (ev_var rfl hv)) (ev_tup (eds_cons (ev_int 0) (eds_cons (ev_int 0) eds_nil)) (by simp)) (fun _ _ h => h) hd.rd) fun v4 H1 e1 h4 => ?_
  have hx : addG m k c s = if ((getG m k).getD (0, 0)).1 + c = 0 then dropG (putG m k (((getG m k).getD (0, 0)).1 + c, ((getG m k).getD (0, 0)).2 + s)) k else putG m k (((getG m k).getD (0, 0)).1 + c, ((getG m k).getD (0, 0)).2 + s) := rfl
  generalize (getG m k).getD (0, 0) = x at h4 hx
  show tSeq _ _ _ [some (.ref d), some v, some (.int c), some (.int s), some v4] H1
  have g4 : EvP (tVar 4) [some (.ref d), some v, some (.int c), some (.int s), some v4] H1 (Is (.tuple [.int x.1, .int x.2])) := ev_var rfl h4
  refine s_seq (s_setD mv_cs (d := d) (k := k) (m := m) (x := (x.1 + c, x.2 + s)) (p := Is (.tuple [.int (x.1 + c), .int (x.2 + s)])) (ev_tup (eds_cons (ev_add (ev_at (i := 0) g4 rfl) (ev_vi rfl)) (eds_cons (ev_add (ev_at (i := 1) g4 rfl) (ev_vi rfl)) eds_nil)) (by simp)) (ev_ref rfl) (ev_K (ev_var rfl (hv.mono (Tp.of e1)))) (fun _ _ h => h) (hd.ex mv_cs e1) (by omega) fun H2 f2 hd2 => ?_)
  have hv2 : IsD H2 v (dT k) := hv.mono ((Tp.of e1).trans f2.2)
  have gk : getG (putG m k (x.1 + c, x.2 + s)) k = some (x.1 + c, x.2 + s) := by rw [get_put, if_pos rfl]
  have gx : EvP (tOp (rIxU P w K) (tVar 0) (tVar 1)) [some (.ref d), some v, some (.int c), some (.int s), some v4] H2 (Is (.tuple [.int (x.1 + c), .int (x.2 + s)])) := (ev_ixD mv_cs (d := d) (k := k) (ev_ref rfl) (ev_K (ev_var rfl hv2)) hd2.rd gk).imp fun _ _ h => h
  refine s_if (b := decide (x.1 + c = 0)) (evt_test (ev_eqI (ev_at (i := 0) gx rfl) (ev_int 0))) (fun z H3 e3 => ?_) fun z H3 e3 => ?_
  · have z := of_decide_eq_true z
    rw [if_pos z] at hx
    refine s_popD mv_cs (d := d) (k := k) (ev_ref rfl) (ev_K (ev_var rfl (hv2.mono (Tp.of e3)))) (hd2.ex mv_cs e3) gk fun H4 f4 hd4 => ?_
    exact kk H4 (((Fr.ex e1).trans f2).trans ((Fr.ex e3).trans f4)) (by rw [hx]; exact hd4)
  · have z := of_decide_eq_false z
    rw [if_neg z] at hx
    exact kk H3 (((Fr.ex e1).trans f2).trans (Fr.ex e3)) (by rw [hx]; exact hd2.ex mv_cs e3)
/-- [values[p] for p in places], as a tuple -/
theorem ev_prj {σ : L2.St} {H : Hp} {tl te : TE} {ps : List Int} {k : List Int} {i : Nat} (hi : i < σ.length) (hl : EvP tl σ H (IsSq K (dI ps))) (hz : ps.length ≤ 1000) (hr : ∀ v H', Ex H H' → EvP te ((wipe σ [i]).set i (some v)) H' (Is (dT k))) (hp : ∀ p ∈ ps, 0 ≤ p ∧ p < (k.length : Int)) :
    EvP (tCB (rTupF K) (tCons (tLc (iAny P w K tl) (gName i) tYes (tOp (rIxU P w K) te (tVar i)) [i]) tNil)) σ H (Is (dT (prj k ps))) := by
  have h1 := evf_lc (P := P) (w := w) (K := K) (g := gName i) (tt := tYes) (te := tOp (rIxU P w K) te (tVar i)) (vs := [i]) (σ := σ) (H := H) (tl := tl) PyData.int (fun _ => true) (fun p => .int (k.getD p.toNat 0)) ps hl (line1000 hz)
    fun x hx v H' e hv => turn_of evt_yes fun _ => by
      have hb := hp x hx
      have ex : x = ((x.toNat : Nat) : Int) := by omega
      have hv' : IsD H' v (.int ((x.toNat : Nat) : Int)) := by rw [← ex]; exact hv
      refine ev_ix (i := x.toNat) (hr v H' e).tq (ev_var (v := v) (by simp [wipe, hi]) hv') ?_
      have : x.toNat < k.length := by omega
      simp [this]
  rw [filter_all] at h1
  have e : ps.map (fun p => PyData.int (k.getD p.toNat 0)) = (prj k ps).map PyData.int := by unfold prj; rw [List.map_map]; rfl
  rw [e] at h1
  exact ev_tupOf (h1.l (K := K))
theorem plc_ok {R T : List Int} (h : sub T R = true) : ∀ p ∈ plc R T, 0 ≤ p ∧ p < (R.length : Int) := by
  intro p hp
  obtain ⟨e, he, rfl⟩ := List.mem_map.mp hp
  have := List.idxOf_lt_length_iff.mpr (sub_mem h e he)
  omega
theorem plc_len (R T : List Int) : (plc R T).length = T.length := by unfold plc; rw [List.length_map]
theorem length_addG (m : List (List Int × (Int × Int))) (k : List Int) (c s : Int) : (addG m k c s).length ≤ m.length + 1 := by
  unfold addG
  split
  · exact Nat.le_trans (length_drop _ _) (length_put _ _ _)
  · exact length_put _ _ _
theorem length_reck (π : List Int → List Int) : ∀ (es m : List (List Int × (Int × Int))), (reck π es m).length ≤ m.length + es.length
  | [], m => by show m.length ≤ _; omega
  | e :: es, m => by
    have h1 := length_reck π es (addG m (π e.1) e.2.1 e.2.2)
    have h2 := length_addG m (π e.1) e.2.1 e.2.2
    show (reck π es (addG m (π e.1) e.2.1 e.2.2)).length ≤ _
    rw [List.length_cons]
    omega
theorem reck_snoc (π : List Int → List Int) (es : List (List Int × (Int × Int))) (i : Nat) (e : List Int × (Int × Int)) (h : es[i]? = some e) (m : List (List Int × (Int × Int))) : reck π (es.take (i + 1)) m = addG (reck π (es.take i) m) (π e.1) e.2.1 e.2.2 := by
  rw [List.take_add_one, h, reck_append]
  rfl
theorem pure_reckoned {vs : List V} {H : Hp} {Q : VK} {E : XK} (T : Txt K mg n) (h : sp_reckoned P w K n vs H Q E) : t_reckoned P w K n E0 { nx := fun _ H' => Q .non H', rt := Q } (start ["road", "known", "table", "places", "found", "values", "count", "amount", "place"] vs) H := by
  obtain ⟨r, t, d, R, L, m, rfl, hr, ht, hd, hnd, hlen, hs, hR, hL, hm, kk⟩ := h
  refine s_asgF (ds := dI (plc R L)) (evf_call (ps := [Is (dT R), Is (dT L)]) (eas_cons (ev_var rfl hr) (eas_cons (ev_var rfl ht) eas_nil)) fun vs H1 e1 hv Q q => ?_) fun a xs H1 na e1 ha hx => ?_
  · obtain ⟨v, u, rfl, h1, h2⟩ := als2 hv
    exact ⟨R, L, v, u, rfl, h1, h2, hs, hL, q⟩
  · refine fun f hf => ?_
    show tSeq _ _ _ [some r, some (.ref d), some t, some (.ref a), some (.ref f), none, none, none, none] _
    have e2 : Ex H1 (upd H1 f (KDO P w f [])) := Ex.new hf
    generalize hH2 : upd H1 f (KDO P w f []) = H2 at e2
    have hf2 : DAt P w encT vCS H2 f [] := by rw [← hH2]; exact dAt_new _ _ _
    obtain ⟨rows, hrow, hDD⟩ := hd.ex mv_cs (e1.trans e2)
    have nf : H f = none := Evl.fresh_back e1 hf
    have nfd : f ≠ d := fun z => by
      subst z
      obtain ⟨rows', h', _⟩ := hd
      rw [h'] at nf; cases nf
    have ha2 : H2 a = some (.lst xs) := e2 _ _ ha
    have nfa : a ≠ f := ne_of_none ha hf
    have hx2 : IsDs H2 xs (dI (plc R L)) := hx.mono (Tp.of e2)
    have nad : a ≠ d := fun z => by
      subst z
      obtain ⟨rows', h', _⟩ := hd.ex mv_cs (e1)
      rw [ha] at h'; cases h'
    have hlr : rows.length = m.length := hDD.len
    refine s_seq (s_forD hrow (fun od H' lk => ev_ref rfl) (fun i σ' H' => ∃ x5 x6 x7 x8, σ' = [some r, some (.ref d), some t, some (.ref a), some (.ref f), x5, x6, x7, x8] ∧ (∀ b o, b ≠ d → b ≠ f → H2 b = some o → H' b = some o) ∧ Tp H2 H' ∧ DAt P w encT vCS H' f (reck (fun k => prj k (plc R L)) (m.take i) []))
      (fun od H' e => ⟨none, none, none, none, rfl, fun b o n1 n2 q => e _ _ (by rw [upd_ne n1]; exact q), (tp_kd hrow).trans (Tp.of e), ?_⟩) (fun od i rw' σ' H' hi hlk ⟨x5, x6, x7, x8, hσ, hfr, htp, hDf⟩ D' kn => ?_) fun od σ' H' hlk ⟨x5, x6, x7, x8, hσ, hfr, htp, hDf⟩ => ?_)
    · refine (DAt.keep mv_cs (tp_kd hrow) ?_ hf2).ex mv_cs e
      exact upd_ne nfd
    · subst hσ
      obtain ⟨e, he, hre⟩ := paired_at hDD hi
      have hlt : i < m.length := (List.getElem?_eq_some_iff.mp he).1
      have hek : getG m e.1 = some e.2 := getG_of_mem hnd (by rw [show (e.1, e.2) = e from rfl]; exact List.mem_of_getElem? he)
      have hkq : IsD H' (.ref rw'.2.1) (dT e.1) := by
        have := hre.2.1
        rw [hre.1] at this
        exact (this.isT).mono htp
      have hrd : DRd P w encT vCS H' d m := ⟨rows, .inr ⟨od, hlk⟩, hDD.mono mv_cs htp⟩
      show tSeq _ _ _ [some r, some (.ref d), some t, some (.ref a), some (.ref f), some (.ref rw'.2.1), x6, x7, x8] H'
      have hv5 : EvP (tOp (rIxU P w K) (tVar 1) (tVar 5)) [some r, some (.ref d), some t, some (.ref a), some (.ref f), some (.ref rw'.2.1), x6, x7, x8] H' (fun H v => vCS H v e.2) := ev_ixD mv_cs (d := d) (k := e.1) (ev_ref rfl) (ev_K (ev_var rfl hkq)) hrd hek
      refine hv5 H' (Ex.refl _) _ fun v H3 e3 hv3 => ?_
      obtain ⟨c, vs3, rfl, hc, hcs⟩ := isTup_get hv3
      obtain ⟨v1, ws, rfl, hv1, hws⟩ := isDs_cons hcs
      obtain ⟨v2, ws2, rfl, hv2, hws2⟩ := isDs_cons hws
      have := isDs_nil hws2
      subst this
      have e1' := isInt_get hv1
      have e2' := isInt_get hv2
      subst e1' e2'
      refine ⟨c, _, rfl, hc.sq, rfl, _, _, rfl, _, _, rfl, rfl, ?_⟩
      have hfr3 : ∀ b o, b ≠ d → b ≠ f → H2 b = some o → H3 b = some o := fun b o n1 n2 q => e3 _ _ (hfr b o n1 n2 q)
      have htp3 : Tp H2 H3 := htp.trans (Tp.of e3)
      have hL3 : IsSq K (dI (plc R L)) H3 (.ref a) := ⟨a, xs, rfl, .inl (.inl (.inl (hfr3 a _ nad nfa ha2))), hx2.mono htp3⟩
      refine x_call (ps := [IsR (.ref f), Is (dT (prj e.1 (plc R L))), IsR (.int e.2.1), IsR (.int e.2.2)]) (eas_cons (ev_ref rfl) (eas_cons (ev_prj (by show 8 < 9; decide) (ev_var rfl hL3) (by rw [plc_len]; exact hL) (fun v H4 e4 => ev_var (v := .ref rw'.2.1) rfl (hkq.mono (Tp.of (e3.trans e4)))) (fun p hp => ?_)) (eas_cons (ev_ref rfl) (eas_cons (ev_ref rfl) eas_nil)))) fun vs H4 e4 hvs => ?_
      · rw [hlen e (List.mem_of_getElem? he)]
        exact plc_ok hs p hp
      · obtain ⟨u1, u2, u3, u4, rfl, q1, q2, q3, q4⟩ := als4 hvs
        have q1 : u1 = .ref f := q1
        have q3 : u3 = .int e.2.1 := q3
        have q4 : u4 = .int e.2.2 := q4
        subst q1 q3 q4
        refine ⟨f, u2, e.2.1, e.2.2, _, _, rfl, (hDf.ex mv_cs e3).ex mv_cs e4, q2, ?_, fun H5 f5 hD5 => ?_⟩
        · have := length_reck (fun k => prj k (plc R L)) (m.take i) []
          rw [List.length_nil, List.length_take] at this
          omega
        · refine kn _ _ ?_ ⟨_, _, _, x8, rfl, fun b o n1 n2 q => f5.1 _ _ (e4 _ _ (hfr3 b o n1 n2 q)) (by simp [n2]), (htp3.trans (Tp.of e4)).trans f5.2, ?_⟩
          · exact f5.1 _ _ (e4 _ _ (e3 _ _ hlk)) (by simp [nfd.symm])
          · rw [reck_snoc _ m i e he]; exact hD5
    · subst hσ
      rw [hlr, List.take_length] at hDf
      have hk : ∀ b o, b ≠ f → H2 b = some o → upd H' d (KDO P w d rows) b = some o := fun b o n2 q => by
        by_cases hb : b = d
        · subst hb; rw [upd_same]; exact hrow.symm.trans q
        · rw [upd_ne hb]; exact hfr b o hb n2 q
      refine s_ret (p := IsR (.ref f)) (ev_ref rfl) fun v H4 e4 hv => ?_
      have hv : v = .ref f := hv
      subst hv
      refine kk f H4 nf (fun b o q => e4 _ _ (hk b o (ne_of_none q nf) (e2 _ _ (e1 _ _ q)))) ?_
      refine (DAt.keep mv_cs (tp_upd fun ob ys z => by rw [hlk] at z; cases z) (upd_ne nfd) hDf).ex mv_cs e4
theorem pure_listed {vs : List V} {H : Hp} {Q : VK} {E : XK} (T : Txt K mg n) (h : sp_listed P w K n vs H Q E) : t_listed P w K n E0 { nx := fun _ H' => Q .non H', rt := Q } (start ["known", "values"] vs) H := by
  obtain ⟨d, m, rfl, hd, hnd, hm, hlen, kk⟩ := h
  obtain ⟨rows, hrow, hDD⟩ := id hd
  have h1 := evf_lcD (P := P) (w := w) (K := K) (g := gName 1) (tt := tYes) (te := tOp (rPlus K) (tTupF (tCons (tVar 1) tNil)) (tOp (rIxU P w K) (tVar 0) (tVar 1))) (vs := [1]) (σ := start ["known", "values"] [.ref d]) (td := tVar 0) (fun _ => true) entD m (fun e => encT e.1) hrow
    (Paired.mapP hDD fun a b q => ⟨q.1, q.2.1⟩) (by omega) (fun od H' lk => ev_ref rfl) fun x hx v od H' lk hv => turn_of evt_yes fun _ => by
      rw [data_T] at hv
      have hrd : DRd P w encT vCS H' d m := ⟨rows, .inr ⟨od, lk.2⟩, hDD.mono mv_cs (lk.tp hrow)⟩
      have g2 : EvP (tOp (rIxU P w K) (tVar 0) (tVar 1)) ((wipe (start ["known", "values"] [.ref d]) [1]).set 1 (some v)) H' (Is (.tuple [.int x.2.1, .int x.2.2])) :=
        (ev_ixD mv_cs (d := d) (k := x.1) (ev_ref rfl) (ev_K (ev_var rfl hv)) hrd (getG_of_mem hnd (by rw [show (x.1, x.2) = x from rfl]; exact hx))).imp fun _ _ h => h
      exact ev_cat (ds := [dT x.1]) (es := [.int x.2.1, .int x.2.2]) (ev_tup (eds_cons (ev_var (p := Is (dT x.1)) (v := v) rfl hv) eds_nil) (by simp)) g2 (by simp)
  rw [filter_all] at h1
  exact s_retF (sorted_ents (h1.l (K := K))) fun a xs H' na e ha hx => kk a xs H' na e ha hx
end
end KC
end

section
set_option Elab.async false
set_option linter.all false
set_option autoImplicit false
set_option maxRecDepth 100000
set_option maxHeartbeats 4000000
/-! Facts of the cube as it stands. -/
namespace KC
open PySem L2 PySem.W
open Evl (Ex EvT)
theorem cf_many (S : CS) : (cfs S).lookup ("many" : Str) = some (.int S.n) := by rfl
theorem cf_whole (S : CS) : (cfs S).lookup ("whole" : Str) = some (.ref S.wq) := by rfl
theorem cf_inside (S : CS) : (cfs S).lookup ("inside" : Str) = some (.ref S.iA) := by rfl
theorem cf_known (S : CS) : (cfs S).lookup ("known" : Str) = some (.ref S.kA) := by rfl
theorem cf_gone (S : CS) : (cfs S).lookup ("gone" : Str) = some (.ref S.gA) := by rfl
section
variable {P : Program} {w : World} {K : PySem.W.Frag} {C : Addr} {H H' : Hp} {S : CS} {B : List (List Int × Int)} {L : List Addr}
theorem Skel.ex (e : Ex H H') (h : Skel P w C H S) : Skel P w C H' S := ⟨h.ok, e _ _ h.ob, h.wt.mono (Tp.of e), h.kn.ex mv_ref e, h.gn.ex mv_bl e⟩
theorem ConOk.ex (e : Ex H H') (h : ConOk P w H S B) : ConOk P w H' S B := fun x hx => let ⟨m, h1, h2⟩ := h x hx; ⟨m, h1.ex mv_cs e, h2⟩
theorem InsOk.ex (e : Ex H H') (h : InsOk P w H S B) : InsOk P w H' S B := let ⟨m, h1, h2⟩ := h; ⟨m, h1.ex mv_int e, h2⟩
theorem CubeAt.ex (e : Ex H H') (h : CubeAt P w C H S) : CubeAt P w C H' S := ⟨h.sk.ex e, h.ins.ex e, h.con.ex e⟩
theorem DAt.fr {κ α : Type} [DecidableEq κ] {enc : κ → NestedKey} {val : Hp → V → α → Prop} {d : Addr} {m : List (κ × α)} (mv : MnV val) (f : Fr L H H') (n : d ∉ L) (h : DAt P w enc val H d m) : DAt P w enc val H' d m := let ⟨rows, h1, h2⟩ := h; ⟨rows, f.1 _ _ h1 n, h2.mono mv f.2⟩
theorem Skel.fr (f : Fr L H H') (hp : S.p ∉ L) (hk : S.kA ∉ L) (hg : S.gA ∉ L) (h : Skel P w C H S) : Skel P w C H' S := ⟨h.ok, f.1 _ _ h.ob hp, h.wt.mono f.2, h.kn.fr mv_ref f hk, h.gn.fr mv_bl f hg⟩
theorem InsOk.fr (f : Fr L H H') (hi : S.iA ∉ L) (h : InsOk P w H S B) : InsOk P w H' S B := let ⟨m, h1, h2⟩ := h; ⟨m, h1.fr mv_int f hi, h2⟩
theorem ConOk.fr (f : Fr L H H') (hi : ∀ e ∈ S.tabs, e.2 ∉ L) (h : ConOk P w H S B) : ConOk P w H' S B := fun x hx => let ⟨m, h1, h2⟩ := h x hx; ⟨m, h1.fr mv_cs f (hi x hx), h2⟩
theorem CubeAt.fr (f : Fr L H H') (hs : ∀ a ∈ S.foot, a ∉ L) (h : CubeAt P w C H S) : CubeAt P w C H' S := by
  refine ⟨h.sk.fr f (hs _ ?_) (hs _ ?_) (hs _ ?_), h.ins.fr f (hs _ ?_), h.con.fr f fun e he => hs _ ?_⟩
  · simp [CS.foot]
  · simp [CS.foot]
  · simp [CS.foot]
  · simp [CS.foot]
  · simp only [CS.foot, List.mem_cons, List.mem_map]
    exact .inr (.inr (.inr (.inr ⟨e, he, rfl⟩)))
/-- the parts of the foot stand apart -/
theorem foot_apart (h : S.foot.Nodup) : S.p ≠ S.iA ∧ S.p ≠ S.kA ∧ S.p ≠ S.gA ∧ S.iA ≠ S.kA ∧ S.iA ≠ S.gA ∧ S.kA ≠ S.gA ∧ (∀ a ∈ S.tabs.map (·.2), a ≠ S.p ∧ a ≠ S.iA ∧ a ≠ S.kA ∧ a ≠ S.gA) ∧ (S.tabs.map (·.2)).Nodup := by
  unfold CS.foot at h
  simp only [List.nodup_cons, List.mem_cons, not_or] at h
  obtain ⟨⟨h1, h2, h3, h4⟩, ⟨h5, h6, h7⟩, ⟨h8, h9⟩, h10, h11⟩ := h
  refine ⟨h1, h2, h3, h5, h6, h8, fun a ha => ⟨fun z => h4 (z ▸ ha), fun z => h7 (z ▸ ha), fun z => h9 (z ▸ ha), fun z => h10 (z ▸ ha)⟩, h11⟩
/-- tables of the cube -/
theorem Skel.tab_of (h : Skel P w C H S) {T : List Int} (hT : T ∈ S.Ts) : Tab S.n T := h.ok.tab T hT
theorem Tab.len {n : Nat} {T : List Int} (h : Tab n T) (hn : n ≤ 4) : T.length ≤ 4 := by
  obtain ⟨hp, hb⟩ := h
  have key : ∀ (T : List Int) (lo : Int), T.Pairwise (· < ·) → (∀ x ∈ T, lo ≤ x ∧ x < (n : Int)) → (T.length : Int) ≤ max 0 ((n : Int) - lo) := by
    intro T
    induction T with
    | nil => intro lo _ _; simp; omega
    | cons x T ih =>
      intro lo hp hb
      rw [List.pairwise_cons] at hp
      have h1 := hb x List.mem_cons_self
      have h2 := ih (x + 1) hp.2 fun y hy => ⟨by have := hp.1 y hy; omega, (hb y (List.mem_cons_of_mem _ hy)).2⟩
      rw [List.length_cons]
      omega
  have := key T 0 hp hb
  omega
theorem tab_rng (n : Nat) : Tab n (rng n) := by
  refine ⟨?_, fun x hx => ?_⟩
  · unfold rng
    rw [List.pairwise_map]
    exact List.Pairwise.imp (fun {a b} h => by omega) List.pairwise_lt_range
  · obtain ⟨i, hi, rfl⟩ := List.mem_map.mp hx
    have := List.mem_range.mp hi
    omega
theorem sub_rng {n : Nat} {T : List Int} (h : Tab n T) : sub T (rng n) = true := sub_of fun e he => by
  have := h.2 e he
  refine List.mem_map.mpr ⟨e.toNat, List.mem_range.mpr (by omega), by omega⟩
theorem prj_len (v T : List Int) : (prj v T).length = T.length := by unfold prj; rw [List.length_map]
theorem bag_len (B : List (List Int × Int)) (T : List Int) : (bag B T).length = B.length := by unfold bag; rw [List.length_map]
theorem Right.klen {m : List (List Int × (Int × Int))} {T : List Int} (h : Right m (bag B T)) : ∀ e ∈ m, e.1.length = T.length := fun e he => by
  have := (h.key e.1).mp (List.mem_map.mpr ⟨e, he, rfl⟩)
  obtain ⟨r, hr, e1⟩ := List.mem_map.mp this
  obtain ⟨q, _, rfl⟩ := List.mem_map.mp hr
  rw [← e1]
  exact prj_len _ _
theorem Right.blen {m : List (List Int × (Int × Int))} {T : List Int} (h : Right m (bag B T)) : m.length ≤ B.length := by
  have := h.len_le
  rw [bag_len] at this
  exact this
theorem Right.cnt {m : List (List Int × (Int × Int))} {T : List Int} (h : Right m (bag B T)) : m.length = cntT B T := h.len
/-- the content of a table that is known -/
theorem Skel.get (h : Skel P w C H S) {e : List Int × Addr} (he : e ∈ S.tabs) : getG S.tabs e.1 = some e.2 := getG_of_mem h.ok.ndT (by rw [show (e.1, e.2) = e from rfl]; exact he)
theorem Skel.gets (h : Skel P w C H S) {T : List Int} (hT : T ∈ S.Ts) : ∃ d, getG S.tabs T = some d ∧ (T, d) ∈ S.tabs := by
  obtain ⟨e, he, rfl⟩ := List.mem_map.mp hT
  exact ⟨e.2, h.get he, he⟩
theorem getG_inD {κ α : Type} [DecidableEq κ] {m : List (κ × α)} {k : κ} (h : k ∈ m.map (·.1)) : (getG m k).isSome = true := getG_isSome.mpr h
theorem getG_notin {κ α : Type} [DecidableEq κ] {m : List (κ × α)} {k : κ} (h : k ∉ m.map (·.1)) : getG m k = none := getG_none.mpr h
/-! ### the cube's attributes, read -/
variable {mg : Str → Option Value} {n : Nm} {te tk : TE} {σ : L2.St}
theorem ev_cF (T : Txt K mg n) {f : Str} {v : V} (hp : EvP te σ H (IsR (.ref S.p))) (h : Skel P w n.cube H S) (hn : NoAttr K n.cube f) (hl : (cfs S).lookup f = some v) : EvP (tFld K te f) σ H (IsR v) := ev_fld hp h.ob T.cl hn hl
theorem ev_many (T : Txt K mg n) (hp : EvP te σ H (IsR (.ref S.p))) (h : Skel P w n.cube H S) : EvP (tFld K te "many") σ H (Is (.int S.n)) := ev_fldI hp h.ob T.cl T.f_many (cf_many S)
theorem ev_whole (T : Txt K mg n) (hp : EvP te σ H (IsR (.ref S.p))) (h : Skel P w n.cube H S) : EvP (tFld K te "whole") σ H (Is (dT (rng S.n))) := fun H1 e Q k => (ev_fld hp h.ob T.cl T.f_whole (cf_whole S)) H1 e Q fun v H2 e2 hv => k v H2 e2 (by
  have hv : v = .ref S.wq := hv
  subst hv
  exact h.wt.mono (Tp.of (e.trans e2)))
theorem ev_known (T : Txt K mg n) (hp : EvP te σ H (IsR (.ref S.p))) (h : Skel P w n.cube H S) : EvP (tFld K te "known") σ H (IsR (.ref S.kA)) := ev_cF T hp h T.f_known (cf_known S)
theorem ev_inside (T : Txt K mg n) (hp : EvP te σ H (IsR (.ref S.p))) (h : Skel P w n.cube H S) : EvP (tFld K te "inside") σ H (IsR (.ref S.iA)) := ev_cF T hp h T.f_inside (cf_inside S)
theorem ev_gone (T : Txt K mg n) (hp : EvP te σ H (IsR (.ref S.p))) (h : Skel P w n.cube H S) : EvP (tFld K te "gone") σ H (IsR (.ref S.gA)) := ev_cF T hp h T.f_gone (cf_gone S)
/-- need_table(self.many, table) -/
theorem s_need {D : Ends} {u : TS} {E : XK} {L : List Int} (T : Txt K mg n) (hp : EvP te σ H (IsR (.ref S.p))) (ht : EvP tk σ H (Is (dT L))) (h : Skel P w n.cube H S) (hL : Tab S.n L) (k : ∀ H', Ex H H' → u D σ H') :
    tSeq (tDrop (tCall (sp_need_table P w K n) [] E (tCons (tFld K te "many") (tCons tk tNil)))) u D σ H :=
  s_drops (p := IsR .non) (ev_call (ps := [Is (.int S.n), Is (dT L)]) (eas_cons (ev_many T hp h) (eas_cons ht eas_nil)) fun vs H1 e hv Q q => by
    obtain ⟨v, x, rfl, h1, h2⟩ := als2 hv
    have := isInt_get h1
    subst this
    exact ⟨S.n, L, x, rfl, h2, hL, Nat.le_trans (hL.len h.ok.n4) (by decide), fun H2 e2 => q _ H2 e2 rfl⟩) fun v H' e _ => k H' e
end
end KC
end

section
set_option Elab.async false
set_option linter.all false
set_option autoImplicit false
set_option maxRecDepth 100000
set_option maxHeartbeats 4000000
/-! The cube's methods that take rows. -/
namespace KC
open PySem L2 PySem.W
open Evl (Ex EvT)
theorem split_at {α : Type} {l : List α} {i : Nat} {x : α} (h : l[i]? = some x) : l = l.take i ++ x :: l.drop (i + 1) := by
  have hi := (List.getElem?_eq_some_iff.mp h)
  obtain ⟨h1, h2⟩ := hi
  conv => lhs; rw [← List.take_append_drop i l]
  rw [List.drop_eq_getElem_cons h1, h2]
section
variable {P : Program} {w : World} {K : PySem.W.Frag} {mg : Str → Option Value} {n : Nm}
theorem pure_c_edges {vs : List V} {H : Hp} {Q : VK} {E : XK} (T : Txt K mg n) (h : sp_c_edges P w K n vs H Q E) : t_c_edges P w K n E0 { nx := fun _ H' => Q .non H', rt := Q } (start ["self"] vs) H := by
  obtain ⟨S, rfl, hc, k⟩ := h
  refine s_ret (p := Is (.int S.n)) (ev_many T (ev_ref rfl) hc.sk) fun v H' e hv => ?_
  have := isInt_get hv
  subst this
  exact k H' e
theorem pure_c_need_kept {vs : List V} {H : Hp} {Q : VK} {E : XK} (T : Txt K mg n) (h : sp_c_need_kept P w K n vs H Q E) : t_c_need_kept P w K n E0 { nx := fun _ H' => Q .non H', rt := Q } (start ["self", "table"] vs) H := by
  obtain ⟨S, t, L, rfl, hc, ht, hL, k⟩ := h
  refine s_need T (S := S) (L := L) (ev_ref rfl) (ev_var rfl ht) hc.sk (hc.sk.tab_of hL) fun H1 e1 => ?_
  have c1 := hc.ex e1
  have q := evt_test (ev_ninD (P := P) (w := w) (K := K) mv_ref (d := S.kA) (k := L) (σ := start ["self", "table"] [.ref S.p, t]) (tk := tVar 1) (td := tFld K (tVar 0) "known") (ev_K (ev_var rfl (ht.mono (Tp.of e1)))) (ev_known T (S := S) (ev_ref rfl) c1.sk) c1.sk.kn.rd)
  rw [getG_inD hL] at q
  exact s_if q (fun z => by cases z) fun _ H2 e2 => k H2 (e1.trans e2)
theorem sh_any {ds : List PyData} (h : ∀ d ∈ ds, Sh d ∧ d.depth ≤ 60) : Sh (.list ds) := by
  have h1 : PyData.canLayAll0 ds = true := by
    induction ds with
    | nil => simp [PyData.canLayAll0]
    | cons x T ih =>
      rw [PyData.canLayAll0, ih fun d hd => h d (List.mem_cons_of_mem _ hd), Bool.and_true]
      exact SeqAt.canLay_of_shaped (h x List.mem_cons_self).1
  have h2 : PyData.depthAll ds ≤ 60 := by
    clear h1
    induction ds with
    | nil => simp [PyData.depthAll]
    | cons x T ih =>
      rw [PyData.depthAll]
      have := ih fun d hd => h d (List.mem_cons_of_mem _ hd)
      have := (h x List.mem_cons_self).2
      omega
  unfold Sh SeqAt.shaped
  rw [show PyData.canLay0 (.list ds) = PyData.canLayAll0 ds by rw [PyData.canLay0], h1, Bool.true_and]
  refine decide_eq_true ?_
  rw [PyData.depth]
  omega
theorem pure_c_need_row {vs : List V} {H : Hp} {Q : VK} {E : XK} (T : Txt K mg n) (h : sp_c_need_row P w K n vs H Q E) : t_c_need_row P w K n E0 { nx := fun _ H' => Q .non H', rt := Q } (start ["self", "values", "amount", "value"] vs) H := by
  obtain ⟨S, v, r, rfl, hc, hv, ⟨h1, h2, h3, h4⟩, k⟩ := h
  have g1 : EvP (tVar 1) (start ["self", "values", "amount", "value"] [.ref S.p, v, .int r.2]) H (Is (dT r.1)) := ev_var rfl hv
  have q1 := evt_test (ev_neI (K := K) (ev_len (P := P) (w := w) (K := K) g1.tq) (ev_many T (S := S) (te := tVar 0) (ev_ref rfl) hc.sk))
  have e1 : (!decide ((((dI r.1).length : Nat) : Int) = S.n)) = false := by
    rw [List.length_map, h1]
    simp
  rw [e1] at q1
  have l1 := evf_lc (P := P) (w := w) (K := K) (g := gName 3) (tt := tNot (tTest (tChain rLeI rLeI (tC (.int 0)) (tVar 3) (tC (.int 99))))) (te := tVar 3) (vs := [3]) (σ := start ["self", "values", "amount", "value"] [.ref S.p, v, .int r.2]) (H := H) (tl := tVar 1) PyData.int (fun x => !(decide (0 ≤ x) && decide (x ≤ 99))) PyData.int r.1 g1.tq (line1000 (by have := hc.sk.ok.n4; omega))
    fun x hx u H' e hu => turn_id (by show 3 < 4; decide) hu (evt_not (evt_test (ev_chLeLe (ev_int 0) (ev_var (p := Is (.int x)) rfl hu) (ev_int 99))))
  have e2 : r.1.filter (fun x => !(decide (0 ≤ x) && decide (x ≤ 99))) = [] := List.filter_eq_nil_iff.mpr fun x hx => by
    have := h2 x hx
    simp [this.1, this.2]
  rw [e2] at l1
  have q2 := evt_test (ev_neNil (l1.l (K := K)) (by exact sh_nil))
  have q3 : EvT _ (start ["self", "values", "amount", "value"] [.ref S.p, v, .int r.2]) H false := evt_or q1 fun _ => q2
  refine s_ifF q3 fun H1 f1 => ?_
  have a1 : EvP (tCB rAbs (tCons (tVar 2) tNil)) (start ["self", "values", "amount", "value"] [.ref S.p, v, .int r.2]) H1 (Is (.int (if r.2 < 0 then -r.2 else r.2))) := fun H2 e Q q => ⟨_, rfl, r.2, rfl, q _ H2 (Ex.refl _) (IsD.int _)⟩
  have q4 := evt_test (ev_gt a1 (ev_int 1000000000))
  have e4 : decide ((1000000000 : Int) < (if r.2 < 0 then -r.2 else r.2)) = false := decide_eq_false (by split <;> omega)
  rw [e4] at q4
  exact s_if q4 (fun z => by cases z) fun _ H2 f2 => k H2 (f1.trans f2)
theorem pure_c_touch {vs : List V} {H : Hp} {Q : VK} {E : XK} (T : Txt K mg n) (h : sp_c_touch P w K n vs H Q E) : t_c_touch P w K n E0 { nx := fun _ H' => Q .non H', rt := Q } (start ["self", "values", "count", "amount", "table", "edge"] vs) H := by
  obtain ⟨S, v, k, c, s, B, B', rfl, hs, hv, hk, hcon, hB, hR, kk⟩ := h
  obtain ⟨a1, a2, a3, a4, a5, a6, a7, a8⟩ := foot_apart hs.ok.foot
  obtain ⟨rows, hrow, hDD⟩ := id hs.kn
  have hkn : S.kA ∉ S.tabs.map (·.2) := fun z => (a7 _ z).2.2.1 rfl
  have hpn : S.p ∉ S.tabs.map (·.2) := fun z => (a7 _ z).1 rfl
  have hlr : rows.length = S.tabs.length := hDD.len
  refine s_forD hrow (fun od H' lk => ev_fld (ev_ref rfl) (lk.1 _ _ a2 hs.ob) T.cl T.f_known (cf_known S)) (fun i σ' H' => ∃ x4 x5, σ' = [some (.ref S.p), some v, some (.int c), some (.int s), x4, x5] ∧ (∀ b o, b ≠ S.kA → b ∉ S.tabs.map (·.2) → H b = some o → H' b = some o) ∧ Tp H H' ∧
      (∀ e ∈ S.tabs.take i, ∃ m, DAt P w encT vCS H' e.2 m ∧ Right m (bag B' e.1)) ∧ ∀ e ∈ S.tabs.drop i, ∃ m, DAt P w encT vCS H' e.2 m ∧ Right m (bag B e.1))
    (fun od H' e => ⟨none, none, rfl, fun b o n1 n2 q => e _ _ (by rw [upd_ne n1]; exact q), (tp_kd hrow).trans (Tp.of e), fun e he => by simp at he, fun e' he => ?_⟩) (fun od i rw' σ' H' hi hlk ⟨x4, x5, hσ, hfr, htp, hnew, hold⟩ D' kn => ?_) fun od σ' H' hlk ⟨x4, x5, hσ, hfr, htp, hnew, hold⟩ => ?_
  · obtain ⟨m, h1, h2⟩ := hcon e' he
    exact ⟨m, (h1.keep mv_cs (tp_kd hrow) (upd_ne (fun z => hkn (z ▸ List.mem_map.mpr ⟨e', he, rfl⟩)))).ex mv_cs e, h2⟩
  · subst hσ
    obtain ⟨e, he, hre⟩ := paired_at hDD hi
    have hmem := List.mem_of_getElem? he
    have hsp := split_at he
    have hT : Tab S.n e.1 := hs.ok.tab _ (List.mem_map.mpr ⟨e, hmem, rfl⟩)
    have hT4 := hT.len hs.ok.n4
    have hkq : IsD H' (.ref rw'.2.1) (dT e.1) := by
      have := hre.2.1
      rw [hre.1] at this
      exact (this.isT).mono htp
    obtain ⟨m, hm1, hm2⟩ := hold e (by rw [List.drop_eq_getElem_cons (List.getElem?_eq_some_iff.mp he).1, (List.getElem?_eq_some_iff.mp he).2]; exact List.mem_cons_self)
    have hrd : DRd P w encT vRef H' S.kA S.tabs := ⟨rows, .inr ⟨od, hlk⟩, hDD.mono mv_ref htp⟩
    have hob : H' S.p = some (.ins n.cube S.dx (cfs S)) := hfr _ _ a2 hpn hs.ob
    show tDrop (tCall _ _ _ _) D' [some (.ref S.p), some v, some (.int c), some (.int s), some (.ref rw'.2.1), x5] H'
    refine x_call (ps := [IsR (.ref e.2), Is (dT (prj k e.1)), IsR (.int c), IsR (.int s)]) (eas_cons ?_ (eas_cons (ev_prj (by show 5 < 6; decide) ((ev_var (p := Is (dT e.1)) (v := .ref rw'.2.1) rfl hkq).tq) (by omega) (fun u H4 e4 => ev_var (v := v) rfl ((hv.mono htp).mono (Tp.of e4))) (fun p hp => ?_)) (eas_cons (ev_ref rfl) (eas_cons (ev_ref rfl) eas_nil)))) fun vs H4 e4 hvs => ?_
    · exact (ev_ixD mv_ref (d := S.kA) (k := e.1) (ev_fld (ev_ref rfl) hob T.cl T.f_known (cf_known S)) (ev_K (ev_var rfl hkq)) hrd (hs.get hmem)).imp fun _ _ h => h
    · have := hT.2 p hp
      omega
    · obtain ⟨u1, u2, u3, u4, rfl, q1, q2, q3, q4⟩ := als4 hvs
      have q1 : u1 = .ref e.2 := q1
      have q3 : u3 = .int c := q3
      have q4 : u4 = .int s := q4
      subst q1 q3 q4
      refine ⟨e.2, u2, c, s, _, _, rfl, hm1.ex mv_cs e4, q2, by have := hm2.blen; omega, fun H5 f5 hD5 => ?_⟩
      have ne2 : ∀ b, b ≠ e.2 → b ∉ [e.2] := fun b hb => by simpa using hb
      have nkA : S.kA ≠ e.2 := fun z => hkn (z ▸ List.mem_map.mpr ⟨e, hmem, rfl⟩)
      have hnd := a8
      rw [hsp, List.map_append, List.map_cons, List.nodup_append] at hnd
      obtain ⟨nd1, nd2, nd3⟩ := hnd
      rw [List.nodup_cons] at nd2
      refine kn _ _ (f5.1 _ _ (e4 _ _ hlk) (ne2 _ nkA)) ⟨_, x5, rfl, fun b o n1 n2 q => f5.1 _ _ (e4 _ _ (hfr b o n1 n2 q)) (ne2 _ fun z => n2 (z ▸ List.mem_map.mpr ⟨e, hmem, rfl⟩)), (htp.trans (Tp.of e4)).trans f5.2, fun e' he' => ?_, fun e' he' => ?_⟩
      · rw [List.take_add_one, he] at he'
        rcases List.mem_append.mp he' with he' | he'
        · obtain ⟨m', h1, h2⟩ := hnew e' he'
          refine ⟨m', (h1.ex mv_cs e4).fr mv_cs f5 (ne2 _ fun z => ?_), h2⟩
          exact nd3 e'.2 (List.mem_map.mpr ⟨e', he', rfl⟩) e.2 List.mem_cons_self z
        · have : e' = e := by simpa using he'
          subst this
          exact ⟨_, hD5, hR _ _ hm2⟩
      · obtain ⟨m', h1, h2⟩ := hold e' (by
          have h9 := List.drop_eq_getElem_cons (List.getElem?_eq_some_iff.mp he).1
          rw [h9]
          exact List.mem_cons_of_mem _ he')
        refine ⟨m', (h1.ex mv_cs e4).fr mv_cs f5 (ne2 _ fun z => ?_), h2⟩
        exact nd2.1 (z ▸ List.mem_map.mpr ⟨e', he', rfl⟩)
  · subst hσ
    rw [hlr, List.take_length] at hnew
    refine kk _ ⟨fun a o q na => ?_, ?_⟩ fun e he => ?_
    · by_cases hb : a = S.kA
      · subst hb; rw [upd_same]; exact hrow.symm.trans q
      · rw [upd_ne hb]; exact hfr a o hb na q
    · exact htp.trans (tp_upd fun ob ys z => by rw [hlk] at z; cases z)
    · obtain ⟨m, h1, h2⟩ := hnew e he
      exact ⟨m, h1.keep mv_cs (tp_upd fun ob ys z => by rw [hlk] at z; cases z) (upd_ne fun z => hkn (z ▸ List.mem_map.mpr ⟨e, he, rfl⟩)), h2⟩
end
end KC
end

section
set_option Elab.async false
set_option linter.all false
set_option autoImplicit false
set_option maxRecDepth 100000
set_option maxHeartbeats 4000000
/-! put and take. -/
namespace KC
open PySem L2 PySem.W
open Evl (Ex EvT)
theorem Right.go' {κ : Type} [DecidableEq κ] {m : List (κ × (Int × Int))} {B B' : List (κ × Int)} {k : κ} {a : Int} (h : Right m B) (p : B.Perm ((k, a) :: B')) : Right (addG m k (-1) (0 - a)) B' := by
  have hx : (k, a) ∈ B := p.mem_iff.mpr List.mem_cons_self
  exact (h.go hx).perm (List.Perm.cons_inv ((List.perm_cons_erase hx).symm.trans p))
theorem nd_len {κ : Type} [DecidableEq κ] : ∀ {l m : List κ}, l.Nodup → (∀ x ∈ l, x ∈ m) → l.length ≤ m.length
  | [], _, _, _ => Nat.zero_le _
  | x :: l, m, nd, h => by
    rw [List.nodup_cons] at nd
    have p := List.perm_cons_erase (h x List.mem_cons_self)
    have ih := nd_len (l := l) (m := m.erase x) nd.2 fun y hy => by
      have h1 := p.mem_iff.mp (h y (List.mem_cons_of_mem _ hy))
      rcases List.mem_cons.mp h1 with e | h1
      · exact absurd (e ▸ hy) nd.1
      · exact h1
    have := p.length_eq
    rw [List.length_cons] at this ⊢
    omega
theorem mc_no (S : CS) {m : Str} (h1 : ¬ m = "many") (h2 : ¬ m = "whole") (h3 : ¬ m = "inside") (h4 : ¬ m = "known") (h5 : ¬ m = "gone") : (cfs S).lookup m = none := by
  have b : ∀ {x : Str}, ¬ m = x → (m == x) = false := fun h => beq_eq_false_iff_ne.mpr h
  unfold cfs
  rw [List.lookup_cons, b h1, List.lookup_cons, b h2, List.lookup_cons, b h3, List.lookup_cons, b h4, List.lookup_cons, b h5]
  rfl
theorem m_need_row (S : CS) : (cfs S).lookup ("need_row" : Str) = none := mc_no S (by decide +kernel) (by decide +kernel) (by decide +kernel) (by decide +kernel) (by decide +kernel)
theorem m_touch (S : CS) : (cfs S).lookup ("touch" : Str) = none := mc_no S (by decide +kernel) (by decide +kernel) (by decide +kernel) (by decide +kernel) (by decide +kernel)
theorem m_make (S : CS) : (cfs S).lookup ("make" : Str) = none := mc_no S (by decide +kernel) (by decide +kernel) (by decide +kernel) (by decide +kernel) (by decide +kernel)
theorem m_roads (S : CS) : (cfs S).lookup ("roads" : Str) = none := mc_no S (by decide +kernel) (by decide +kernel) (by decide +kernel) (by decide +kernel) (by decide +kernel)
theorem m_need_kept (S : CS) : (cfs S).lookup ("need_kept" : Str) = none := mc_no S (by decide +kernel) (by decide +kernel) (by decide +kernel) (by decide +kernel) (by decide +kernel)
theorem m_put (S : CS) : (cfs S).lookup ("put" : Str) = none := mc_no S (by decide +kernel) (by decide +kernel) (by decide +kernel) (by decide +kernel) (by decide +kernel)
theorem m_take (S : CS) : (cfs S).lookup ("take" : Str) = none := mc_no S (by decide +kernel) (by decide +kernel) (by decide +kernel) (by decide +kernel) (by decide +kernel)
theorem m_keep (S : CS) : (cfs S).lookup ("keep" : Str) = none := mc_no S (by decide +kernel) (by decide +kernel) (by decide +kernel) (by decide +kernel) (by decide +kernel)
theorem m_kept (S : CS) : (cfs S).lookup ("kept" : Str) = none := mc_no S (by decide +kernel) (by decide +kernel) (by decide +kernel) (by decide +kernel) (by decide +kernel)
theorem m_drop (S : CS) : (cfs S).lookup ("drop" : Str) = none := mc_no S (by decide +kernel) (by decide +kernel) (by decide +kernel) (by decide +kernel) (by decide +kernel)
theorem m_lose (S : CS) : (cfs S).lookup ("lose" : Str) = none := mc_no S (by decide +kernel) (by decide +kernel) (by decide +kernel) (by decide +kernel) (by decide +kernel)
theorem m_rebuild (S : CS) : (cfs S).lookup ("rebuild" : Str) = none := mc_no S (by decide +kernel) (by decide +kernel) (by decide +kernel) (by decide +kernel) (by decide +kernel)
theorem m_room (S : CS) : (cfs S).lookup ("room" : Str) = none := mc_no S (by decide +kernel) (by decide +kernel) (by decide +kernel) (by decide +kernel) (by decide +kernel)
theorem m_edges (S : CS) : (cfs S).lookup ("edges" : Str) = none := mc_no S (by decide +kernel) (by decide +kernel) (by decide +kernel) (by decide +kernel) (by decide +kernel)
section
variable {P : Program} {w : World} {K : PySem.W.Frag} {mg : Str → Option Value} {n : Nm}
theorem isK_R {H : Hp} {r : List Int × Int} {v : V} (h : IsD H v (rowD r)) : IsK encR r H v := by
  show IsD H v (encR r).data
  rw [data_R]
  exact h
theorem bag_cons (r : List Int × Int) (B : List (List Int × Int)) (T : List Int) : bag (r :: B) T = (prj r.1 T, r.2) :: bag B T := rfl
theorem bag_perm {B B' : List (List Int × Int)} (h : B.Perm B') (T : List Int) : (bag B T).Perm (bag B' T) := h.map _
theorem right_put {r : List Int × Int} {B : List (List Int × Int)} (T : List Int) (m : List (List Int × (Int × Int))) (h : Right m (bag B T)) : Right (addG m (prj r.1 T) 1 r.2) (bag (r :: B) T) := by
  rw [bag_cons]
  exact h.come _ _
theorem right_take {r : List Int × Int} {B : List (List Int × Int)} (hr : r ∈ B) (T : List Int) (m : List (List Int × (Int × Int))) (h : Right m (bag B T)) : Right (addG m (prj r.1 T) (-1) (0 - r.2)) (bag (B.erase r) T) := by
  exact h.go' (bag_perm (List.perm_cons_erase hr) T)
theorem CubeOk.withB {S : CS} {B : List (List Int × Int)} (h : CubeOk S) (h1 : ∀ r ∈ B, RowOk S.n r) (h2 : B.length ≤ 1000) : CubeOk { S with B := B } := ⟨h.n1, h.n4, h1, h2, h.tab, h.tabG, h.ndT, h.ndG, h.dis, h.whole, h.foot, h.lim⟩
theorem Skel.withB {C : Addr} {H : Hp} {S : CS} {B : List (List Int × Int)} (h : Skel P w C H S) (h1 : ∀ r ∈ B, RowOk S.n r) (h2 : B.length ≤ 1000) : Skel P w C H { S with B := B } := ⟨h.ok.withB h1 h2, h.ob, h.wt, h.kn, h.gn⟩
theorem ev_need_row {σ : L2.St} {H : Hp} {S : CS} {E : XK} {v : V} {r : List Int × Int} (T : Txt K mg n) (h0 : σ[0]? = some (some (.ref S.p))) (h1 : σ[1]? = some (some v)) (h2 : σ[2]? = some (some (.int r.2))) (hc : CubeAt P w n.cube H S) (hv : IsD H v (dT r.1)) (hr : RowOk S.n r) :
    EvP (tMeth n.cube "need_row" (sp_c_need_row P w K n) [] E (tVar 0) (tCons (tVar 1) (tCons (tVar 2) tNil))) σ H (IsR .non) :=
  ev_meth (ps := [Is (dT r.1), IsR (.int r.2)]) (ev_ref h0) hc.sk.ob (m_need_row S) (eas_cons (ev_var h1 hv) (eas_cons (ev_ref h2) eas_nil)) fun vs H1 e1 hvs Q q => by
    obtain ⟨u, x, rfl, q1, q2⟩ := als2 hvs
    have q2 : x = .int r.2 := q2
    subst q2
    exact ⟨S, u, r, rfl, hc.ex e1, q1, hr, fun H2 e2 => q _ H2 e2 rfl⟩
theorem pure_c_put {vs : List V} {H : Hp} {Q : VK} {E : XK} (T : Txt K mg n) (h : sp_c_put P w K n vs H Q E) : t_c_put P w K n E0 { nx := fun _ H' => Q .non H', rt := Q } (start ["self", "values", "amount", "row"] vs) H := by
  obtain ⟨S, v, r, rfl, hc, hv, hr, hB, k⟩ := h
  obtain ⟨a1, a2, a3, a4, a5, a6, a7, a8⟩ := foot_apart hc.sk.ok.foot
  refine s_drops (ev_need_row T rfl rfl rfl hc hv hr) fun _ H1 e1 _ => ?_
  have c1 := hc.ex e1
  have hv1 := hv.mono (Tp.of e1)
  refine s_asg (p := Is (rowD r)) (ev_tup (eds_cons (ev_var (v := v) rfl hv1) (eds_cons (ev_vi rfl) eds_nil)) (by simp)) fun v3 H2 e2 h3 => ?_
  have c2 := c1.ex e2
  have hv2 := hv1.mono (Tp.of e2)
  obtain ⟨m, hm, hnd, hcount⟩ := id c2.ins
  show tSeq _ _ _ [some (.ref S.p), some v, some (.int r.2), some v3] H2
  have gi : EvP (tFld K (tVar 0) "inside") [some (.ref S.p), some v, some (.int r.2), some v3] H2 (IsR (.ref S.iA)) := ev_inside T (ev_ref rfl) c2.sk
  have gk : EvP (tVar 3) [some (.ref S.p), some v, some (.int r.2), some v3] H2 (IsK encR r) := ev_var (v := v3) rfl (isK_R h3)
  have hml : m.length ≤ 1000 := by
    have hsub : ∀ q ∈ m.map (·.1), q ∈ S.B := fun q hq => by
      have := getG_isSome.mpr hq
      rw [hcount] at this
      by_cases z : S.B.count q = 0
      · rw [if_pos z] at this; cases this
      · exact List.count_pos_iff.mp (by omega)
    have h1 : (m.map (·.1)).length ≤ S.B.length := nd_len hnd hsub
    rw [List.length_map] at h1
    omega
  refine s_seq (s_setD mv_int (d := S.iA) (k := r) (m := m) (x := (getG m r).getD 0 + 1) (p := Is (.int ((getG m r).getD 0 + 1)))
    (ev_add ((ev_getD mv_int (z := (0 : Int)) (p := Is (.int 0)) (d := S.iA) (k := r) gi gk (ev_int 0) (fun _ _ h => isInt_get h) hm.rd).imp fun H v h => by
      have h : v = .int ((getG m r).getD 0) := h
      subst h
      exact IsD.int _) (ev_int 1)) gi gk (fun _ _ h => isInt_get h) hm (by omega) fun H3 f3 hm3 => ?_)
  have npi : S.p ∉ [S.iA] := by simpa using a1
  have nki : S.kA ∉ [S.iA] := by simpa using a4.symm
  have ngi : S.gA ∉ [S.iA] := by simpa using a5.symm
  have nti : ∀ e ∈ S.tabs, e.2 ∉ [S.iA] := fun e he => by simpa using (a7 e.2 (List.mem_map.mpr ⟨e, he, rfl⟩)).2.1
  have k3 := c2.sk.fr f3 npi nki ngi
  have o3 := c2.con.fr f3 nti
  have hv3 := hv2.mono f3.2
  refine x_meth (ps := [Is (dT r.1), IsR (.int 1), IsR (.int r.2)]) (ev_ref rfl) k3.ob (m_touch S) (eas_cons (ev_var (v := v) rfl hv3) (eas_cons (ev_c _) (eas_cons (ev_ref rfl) eas_nil))) fun vs H4 e4 hvs => ?_
  obtain ⟨u, x, y, rfl, q1, q2, q3⟩ := als3 hvs
  have q2 : x = .int 1 := q2
  have q3 : y = .int r.2 := q3
  subst q2 q3
  refine ⟨S, u, r.1, 1, r.2, S.B, r :: S.B, rfl, k3.ex e4, q1, hr.1, o3.ex e4, hc.sk.ok.lenB, fun L m => right_put L m, fun H5 f5 o5 => ?_⟩
  have np : S.p ∉ S.tabs.map (·.2) := fun z => (a7 _ z).1 rfl
  have ni : S.iA ∉ S.tabs.map (·.2) := fun z => (a7 _ z).2.1 rfl
  have nk : S.kA ∉ S.tabs.map (·.2) := fun z => (a7 _ z).2.2.1 rfl
  have ng : S.gA ∉ S.tabs.map (·.2) := fun z => (a7 _ z).2.2.2 rfl
  have f : Fr S.foot H H5 := ((((Fr.ex e1).trans (Fr.ex e2)).trans (f3.mono (by simp [CS.foot]))).trans (Fr.ex e4)).trans (f5.mono fun a ha => by
    simp only [CS.foot, List.mem_cons]
    exact .inr (.inr (.inr (.inr ha))))
  refine k H5 f ⟨((k3.ex e4).fr f5 np nk ng).withB (fun q hq => ?_) (by rw [List.length_cons]; omega), ⟨_, (hm3.ex mv_int e4).fr mv_int f5 ni, nd_put _ _ hnd, fun q => ?_⟩, o5⟩
  · rcases List.mem_cons.mp hq with rfl | hq
    · exact hr
    · exact hc.sk.ok.rows q hq
  · rw [get_put]
    by_cases z : q = r
    · subst z
      rw [if_pos rfl, hcount]
      show _ = if List.count q (q :: S.B) = 0 then none else some ((List.count q (q :: S.B) : Nat) : Int)
      rw [List.count_cons_self, if_neg (Nat.succ_ne_zero (S.B.count q))]
      by_cases y : S.B.count q = 0
      · rw [if_pos y, y]; rfl
      · rw [if_neg y]
        show some (((S.B.count q : Nat) : Int) + 1) = _
        congr 1
    · rw [if_neg z, hcount]
      show _ = if List.count q (r :: S.B) = 0 then none else some ((List.count q (r :: S.B) : Nat) : Int)
      rw [List.count_cons_of_ne (fun h => z h.symm)]
theorem pure_c_take {vs : List V} {H : Hp} {Q : VK} {E : XK} (T : Txt K mg n) (h : sp_c_take P w K n vs H Q E) : t_c_take P w K n E0 { nx := fun _ H' => Q .non H', rt := Q } (start ["self", "values", "amount", "row"] vs) H := by
  obtain ⟨S, v, r, rfl, hc, hv, hrB, k⟩ := h
  have hr := hc.sk.ok.rows r hrB
  obtain ⟨a1, a2, a3, a4, a5, a6, a7, a8⟩ := foot_apart hc.sk.ok.foot
  refine s_drops (ev_need_row T rfl rfl rfl hc hv hr) fun _ H1 e1 _ => ?_
  have c1 := hc.ex e1
  have hv1 := hv.mono (Tp.of e1)
  refine s_asg (p := Is (rowD r)) (ev_tup (eds_cons (ev_var (v := v) rfl hv1) (eds_cons (ev_vi rfl) eds_nil)) (by simp)) fun v3 H2 e2 h3 => ?_
  have c2 := c1.ex e2
  have hv2 := hv1.mono (Tp.of e2)
  show tSeq _ _ _ [some (.ref S.p), some v, some (.int r.2), some v3] H2
  have hcp : 0 < S.B.count r := List.count_pos_iff.mpr hrB
  obtain ⟨m, hm, hnd, hcount⟩ := id c2.ins
  have hgr : getG m r = some ((S.B.count r : Nat) : Int) := by rw [hcount, if_neg (by omega)]
  have gi : EvP (tFld K (tVar 0) "inside") [some (.ref S.p), some v, some (.int r.2), some v3] H2 (IsR (.ref S.iA)) := ev_inside T (ev_ref rfl) c2.sk
  have gk : EvP (tVar 3) [some (.ref S.p), some v, some (.int r.2), some v3] H2 (IsK encR r) := ev_var (v := v3) rfl (isK_R h3)
  have q1 := evt_test (ev_ninD (P := P) (w := w) (K := K) mv_int gk gi hm.rd)
  rw [hgr] at q1
  refine s_ifF q1 fun H2' e2' => ?_
  have c2' := c2.ex e2'
  have hm' := hm.ex mv_int e2'
  have gi' := gi.mono e2'
  have gk' := gk.mono e2'
  have hml : m.length ≤ 1000 := by
    have hsub : ∀ q ∈ m.map (·.1), q ∈ S.B := fun q hq => by
      have := getG_isSome.mpr hq
      rw [hcount] at this
      by_cases z : S.B.count q = 0
      · rw [if_pos z] at this; cases this
      · exact List.count_pos_iff.mp (by omega)
    have h1 : (m.map (·.1)).length ≤ S.B.length := nd_len hnd hsub
    rw [List.length_map] at h1
    have := hc.sk.ok.lenB
    omega
  refine s_seq (s_setD mv_int (d := S.iA) (k := r) (m := m) (x := ((S.B.count r : Nat) : Int) - 1) (p := Is (.int (((S.B.count r : Nat) : Int) - 1)))
    (ev_sub ((ev_ixD mv_int (d := S.iA) (k := r) gi' gk' hm'.rd hgr).imp fun H v h => by
      have h : v = .int _ := h
      subst h
      exact IsD.int _) (ev_int 1)) gi' gk' (fun _ _ h => isInt_get h) hm' (by omega) fun H3 f3 hm3 => ?_)
  have npi : S.p ∉ [S.iA] := by simpa using a1
  have nki : S.kA ∉ [S.iA] := by simpa using a4.symm
  have ngi : S.gA ∉ [S.iA] := by simpa using a5.symm
  have nti : ∀ e ∈ S.tabs, e.2 ∉ [S.iA] := fun e he => by simpa using (a7 e.2 (List.mem_map.mpr ⟨e, he, rfl⟩)).2.1
  have np : S.p ∉ S.tabs.map (·.2) := fun z => (a7 _ z).1 rfl
  have ni : S.iA ∉ S.tabs.map (·.2) := fun z => (a7 _ z).2.1 rfl
  have nk : S.kA ∉ S.tabs.map (·.2) := fun z => (a7 _ z).2.2.1 rfl
  have ng : S.gA ∉ S.tabs.map (·.2) := fun z => (a7 _ z).2.2.2 rfl
  have k3 := c2'.sk.fr f3 npi nki ngi
  have o3 := c2'.con.fr f3 nti
  have hv3 := (hv2.mono (Tp.of e2')).mono f3.2
  have h33 : IsD H3 v3 (rowD r) := (h3.mono (Tp.of e2')).mono f3.2
  have fH : Fr [S.iA] H H3 := (((Fr.ex e1).trans (Fr.ex e2)).trans (Fr.ex e2')).trans f3
  have fin : ∀ (H4 : Hp) (m4 : List ((List Int × Int) × Int)), Fr [S.iA] H3 H4 → DAt P w encR vInt H4 S.iA m4 → (m4.map (·.1)).Nodup → (∀ q, getG m4 q = if (S.B.erase r).count q = 0 then none else some (((S.B.erase r).count q : Nat) : Int)) →
      tDrop (tMeth n.cube "touch" (sp_c_touch P w K n) [] E0 (tVar 0) (tCons (tVar 1) (tCons (tUn rNegI (tC (.int 1))) (tCons (tOp (rMinus P w) (tC (.int 0)) (tVar 2)) tNil)))) { nx := fun _ H' => Q .non H', rt := Q } [some (.ref S.p), some v, some (.int r.2), some v3] H4 := by
    intro H4 m4 f4 hm4 hnd4 hc4
    have k4 := k3.fr f4 npi nki ngi
    have o4 := o3.fr f4 nti
    have hneg : EvP (tUn rNegI (tC (.int 1))) [some (.ref S.p), some v, some (.int r.2), some v3] H4 (IsR (.int (-1))) := fun H1 e Q q => ⟨1, rfl, q _ H1 (Ex.refl _) rfl⟩
    have hsub : EvP (tOp (rMinus P w) (tC (.int 0)) (tVar 2)) [some (.ref S.p), some v, some (.int r.2), some v3] H4 (IsR (.int (0 - r.2))) := (ev_sub (ev_int 0) (ev_vi (i := 2) (z := r.2) rfl)).imp fun _ _ h => isInt_get h
    refine x_meth (ps := [Is (dT r.1), IsR (.int (-1)), IsR (.int (0 - r.2))]) (ev_ref rfl) k4.ob (m_touch S) (eas_cons (ev_var (v := v) rfl (hv3.mono f4.2)) (eas_cons hneg (eas_cons hsub eas_nil))) fun vs H5 e5 hvs => ?_
    obtain ⟨u, x, y, rfl, q1, q2, q3⟩ := als3 hvs
    have q2 : x = .int (-1) := q2
    have q3 : y = .int (0 - r.2) := q3
    subst q2 q3
    refine ⟨S, u, r.1, -1, 0 - r.2, S.B, S.B.erase r, rfl, k4.ex e5, q1, hr.1, o4.ex e5, hc.sk.ok.lenB, fun L m => right_take hrB L m, fun H6 f6 o6 => ?_⟩
    have f : Fr S.foot H H6 := (((fH.trans f4).mono (by simp [CS.foot])).trans (Fr.ex e5)).trans (f6.mono fun a ha => by
      simp only [CS.foot, List.mem_cons]
      exact .inr (.inr (.inr (.inr ha))))
    exact k H6 f ⟨((k4.ex e5).fr f6 np nk ng).withB (fun q hq => hc.sk.ok.rows q (List.mem_of_mem_erase hq)) (Nat.le_trans List.length_erase_le hc.sk.ok.lenB), ⟨m4, (hm4.ex mv_int e5).fr mv_int f6 ni, hnd4, hc4⟩, o6⟩
  have gi3 : EvP (tFld K (tVar 0) "inside") [some (.ref S.p), some v, some (.int r.2), some v3] H3 (IsR (.ref S.iA)) := ev_inside T (ev_ref rfl) k3
  have gk3 : EvP (tVar 3) [some (.ref S.p), some v, some (.int r.2), some v3] H3 (IsK encR r) := ev_var (v := v3) rfl (isK_R h33)
  have gr3 : getG (putG m r (((S.B.count r : Nat) : Int) - 1)) r = some (((S.B.count r : Nat) : Int) - 1) := by rw [get_put, if_pos rfl]
  have gx : EvP (tOp (rIxU P w K) (tFld K (tVar 0) "inside") (tVar 3)) [some (.ref S.p), some v, some (.int r.2), some v3] H3 (Is (.int (((S.B.count r : Nat) : Int) - 1))) := (ev_ixD mv_int (d := S.iA) (k := r) gi3 gk3 hm3.rd gr3).imp fun H v h => by
    have h : v = .int _ := h
    subst h
    exact IsD.int _
  have hce : (S.B.erase r).count r = S.B.count r - 1 := List.count_erase_self
  have hcn : ∀ q, ¬ q = r → (S.B.erase r).count q = S.B.count q := fun q z => List.count_erase_of_ne z
  refine s_ifs (b := decide (((S.B.count r : Nat) : Int) - 1 = 0)) (evt_test (ev_eqI gx (ev_int 0))) (fun z H4 e4 => ?_) fun z H4 e4 => ?_
  · have z := of_decide_eq_true z
    refine s_popD mv_int (d := S.iA) (k := r) (gi3.mono e4) (gk3.mono e4) (hm3.ex mv_int e4) gr3 fun H5 f5 hm5 => ?_
    refine fin H5 _ ((Fr.ex e4).trans f5) hm5 (nd_drop _ (nd_put _ _ hnd)) fun q => ?_
    rw [get_drop, get_put]
    by_cases y : q = r
    · subst y
      rw [if_pos rfl, hce, if_pos (by omega)]
    · rw [if_neg y, if_neg y, hcount, hcn q y]
  · have z := of_decide_eq_false z
    refine fin H4 _ (Fr.ex e4) (hm3.ex mv_int e4) (nd_put _ _ hnd) fun q => ?_
    rw [get_put]
    by_cases y : q = r
    · subst y
      rw [if_pos rfl, hce, if_neg (by omega)]
      congr 1
      omega
    · rw [if_neg y, hcount, hcn q y]
end
end KC
end

section
set_option Elab.async false
set_option linter.all false
set_option autoImplicit false
set_option maxRecDepth 100000
set_option maxHeartbeats 4000000
/-! The cube's methods that take tables. -/
namespace KC
open PySem L2 PySem.W
open Evl (Ex EvT)
/-! ### plain -/
theorem srt3_map (L : List (Int × Int × List Int)) : (srt3 L).map triD = (L.map triD).mergeSort dle := sort_maps triD fun a _ b _ => rfl
theorem srt3_perm {L M : List (Int × Int × List Int)} (p : L.Perm M) : (srt3 L).map triD = (srt3 M).map triD := by
  rw [srt3_map, srt3_map]
  exact sort_perm (p.map _) (fun d hd => by
    obtain ⟨e, _, rfl⟩ := List.mem_map.mp hd
    exact pure_tri e) (AllAlike.of alike_tri)
theorem triD_inj {a b : Int × Int × List Int} (h : triD a = triD b) : a = b := by
  unfold triD at h
  injection h with h
  injection h with h1 h
  injection h with h2 h
  injection h with h3 _
  injection h1 with h1
  injection h2 with h2
  injection h3 with h3
  have : a.2.2 = b.2.2 := by
    have inj : ∀ {S T : List Int}, S.map PyData.int = T.map PyData.int → S = T := by
      intro S
      induction S with
      | nil => intro T h; cases T with
        | nil => rfl
        | cons y T => simp at h
      | cons x S ih => intro T h; cases T with
        | nil => simp at h
        | cons y T =>
          rw [List.map_cons, List.map_cons] at h
          injection h with h1 h2
          injection h1 with h1
          rw [h1, ih h2]
    exact inj h3
  exact Prod.ext h1 (Prod.ext h2 this)
theorem map_inj {α β : Type} {f : α → β} (hf : ∀ a b, f a = f b → a = b) : ∀ {l m : List α}, l.map f = m.map f → l = m
  | [], [], _ => rfl
  | [], _ :: _, h => by simp at h
  | _ :: _, [], h => by simp at h
  | a :: l, b :: m, h => by
    rw [List.map_cons, List.map_cons] at h
    injection h with h1 h2
    rw [hf a b h1, map_inj hf h2]
theorem srt3_eq {L M : List (Int × Int × List Int)} (p : L.Perm M) : srt3 L = srt3 M := map_inj (fun _ _ => triD_inj) (srt3_perm p)
theorem cntT_perm {B B' : List (List Int × Int)} (p : B.Perm B') (T : List Int) : cntT B T = cntT B' T := by
  unfold cntT
  exact len_nub_of (nd_nub _) fun k => mem_nub.trans (((p.map _).map _).mem_iff)
theorem rankL_perm {B B' : List (List Int × Int)} {Ts Ts' : List (List Int)} (p : B.Perm B') (q : Ts.Perm Ts') (T : List Int) : rankL B Ts T = rankL B' Ts' T := by
  unfold rankL
  have e : (fun R => ((cntT B R : Int), (R.length : Int), R)) = fun R : List Int => ((cntT B' R : Int), (R.length : Int), R) := by
    funext R
    rw [cntT_perm p R]
  rw [e]
  exact srt3_eq ((q.filter _).map _)
theorem bestR_perm {B B' : List (List Int × Int)} {Ts Ts' : List (List Int)} (p : B.Perm B') (q : Ts.Perm Ts') (T : List Int) : bestR B Ts T = bestR B' Ts' T := by
  unfold bestR
  rw [rankL_perm p q]
theorem rank_mem {B : List (List Int × Int)} {Ts : List (List Int)} {T : List Int} {e : Int × Int × List Int} (h : e ∈ rankL B Ts T) : e.2.2 ∈ Ts ∧ sub T e.2.2 = true ∧ e.1 = (cntT B e.2.2 : Int) ∧ e.2.1 = (e.2.2.length : Int) := by
  unfold rankL srt3 at h
  have := (List.mergeSort_perm _ _).mem_iff.mp h
  obtain ⟨R, hR, rfl⟩ := List.mem_map.mp this
  obtain ⟨h1, h2⟩ := List.mem_filter.mp hR
  exact ⟨h1, h2, rfl, rfl⟩
theorem rank_head {B : List (List Int × Int)} {Ts : List (List Int)} {T : List Int} (h : ∃ R ∈ Ts, sub T R = true) : ∃ e rest, rankL B Ts T = e :: rest ∧ e.2.2 = bestR B Ts T ∧ e.2.2 ∈ Ts ∧ sub T e.2.2 = true := by
  obtain ⟨R, hR, hs⟩ := h
  have hm : ((cntT B R : Int), (R.length : Int), R) ∈ rankL B Ts T := (List.mergeSort_perm _ _).mem_iff.mpr (List.mem_map.mpr ⟨R, List.mem_filter.mpr ⟨hR, hs⟩, rfl⟩)
  cases e : rankL B Ts T with
  | nil => rw [e] at hm; cases hm
  | cons x rest =>
    have hx : x ∈ rankL B Ts T := by rw [e]; exact List.mem_cons_self
    obtain ⟨h1, h2, _⟩ := rank_mem hx
    exact ⟨x, rest, rfl, by unfold bestR; rw [e], h1, h2⟩
theorem prj_prj {v R T : List Int} (h : sub T R = true) : prj (prj v R) (plc R T) = prj v T := by
  unfold plc
  unfold prj
  rw [List.map_map]
  refine List.map_congr_left fun e he => ?_
  have hm := sub_mem h e he
  have h1 : R.idxOf e < R.length := List.idxOf_lt_length_iff.mpr hm
  show (R.map fun e => v.getD e.toNat 0).getD ((R.idxOf e : Nat) : Int).toNat 0 = v.getD e.toNat 0
  have h2 : ((R.idxOf e : Nat) : Int).toNat = R.idxOf e := by omega
  rw [h2, List.getD_eq_getElem?_getD, List.getElem?_map, List.getElem?_eq_getElem h1, List.getElem_idxOf]
  rfl
theorem bag_bag (B : List (List Int × Int)) {R T : List Int} (h : sub T R = true) : (bag B R).map (fun r => (prj r.1 (plc R T), r.2)) = bag B T := by
  unfold bag
  rw [List.map_map]
  refine List.map_congr_left fun r _ => ?_
  show (prj (prj r.1 R) (plc R T), r.2) = _
  rw [prj_prj h]
theorem right_reck {B : List (List Int × Int)} {R T : List Int} {m : List (List Int × (Int × Int))} (hr : Right m (bag B R)) (h : sub T R = true) : Right (reck (fun k => prj k (plc R T)) m []) (bag B T) := by
  have := hr.reck (fun k => prj k (plc R T))
  rw [bag_bag B h] at this
  exact this
section
variable {P : Program} {w : World} {K : PySem.W.Frag} {mg : Str → Option Value} {n : Nm}
theorem s_lockAsg {te : TE} {i : Nat} {σ : L2.St} {H : Hp} {D : Ends} {u : TS} {ds : List PyData} (h : EvF (tLockE te) σ H ds) (k : ∀ a xs H', H a = none → Ex H H' → H' a = some (.lst xs) → IsDs H' xs ds → u D (σ.set i (some (.ref a))) H') : tSeq (tLock (tAsg te (gName i))) u D σ H :=
  h H (Ex.refl _) (fun v H' => u D (σ.set i (some v)) H') fun a xs H2 n e ha hs => k a xs H2 n e ha hs
theorem isL_at {K : PySem.W.Frag} {H : Hp} {a : Addr} {xs : List V} {ds : List PyData} (h : H a = some (.lst xs)) (hs : IsDs H xs ds) : IsL K ds H (.ref a) := ⟨a, xs, rfl, .inl (.inl h), hs⟩
/-- the table's content, and how many rows it has -/
theorem ev_cont {te tk : TE} {σ : L2.St} {H : Hp} {S : CS} {L : List Int} (T : Txt K mg n) (hp : EvP te σ H (IsR (.ref S.p))) (hk : EvP tk σ H (Is (dT L))) (h : Skel P w n.cube H S) (hL : L ∈ S.Ts) {d : Addr} (hd : getG S.tabs L = some d) : EvP (tOp (rIxU P w K) (tFld K te "known") tk) σ H (IsR (.ref d)) :=
  (ev_ixD mv_ref (d := S.kA) (k := L) (ev_known T hp h) (ev_K hk) h.kn.rd hd).imp fun _ _ h => h
theorem ev_cnt {te tk : TE} {σ : L2.St} {H : Hp} {S : CS} {L : List Int} (T : Txt K mg n) (hp : EvP te σ H (IsR (.ref S.p))) (hk : EvP tk σ H (Is (dT L))) (h : CubeAt P w n.cube H S) (hL : L ∈ S.Ts) : EvP (tCB (rLenA P w K) (tCons (tOp (rIxU P w K) (tFld K te "known") tk) tNil)) σ H (Is (.int (cntT S.B L : Nat))) := by
  obtain ⟨d, h1, h2⟩ := h.sk.gets hL
  obtain ⟨m, h3, h4⟩ := h.con _ h2
  rw [← h4.cnt]
  exact ev_lenD mv_cs (ev_cont T hp hk h.sk hL h1) h3.rd
theorem turn_tup3 {K : PySem.W.Frag} {tt : TT} {te : TE} {i j k : Nat} {σ : L2.St} {H : Hp} {v : V} {b : Bool} {d d1 d2 d3 : PyData} (hv : IsD H v (.tuple [d1, d2, d3]))
    (hw : ∀ v1 v2 v3, wipe ((((wipe σ [i, j, k]).set i (some v1)).set j (some v2)).set k (some v3)) [i, j, k] = wipe σ [i, j, k])
    (ht : ∀ v1 v2 v3, IsD H v1 d1 → IsD H v2 d2 → IsD H v3 d3 → EvT tt ((((wipe σ [i, j, k]).set i (some v1)).set j (some v2)).set k (some v3)) H b ∧ (b = true → EvP te ((((wipe σ [i, j, k]).set i (some v1)).set j (some v2)).set k (some v3)) H (Is d))) : Turn1 (gTup K 3 (gCons (gName i) (gCons (gName j) (gCons (gName k) gNil)))) tt te [i, j, k] σ H v b d := by
  obtain ⟨a, vs, rfl, ha, hs⟩ := isTup_get hv
  obtain ⟨v1, ws, rfl, h1, hs⟩ := isDs_cons hs
  obtain ⟨v2, ws, rfl, h2, hs⟩ := isDs_cons hs
  obtain ⟨v3, ws, rfl, h3, hs⟩ := isDs_cons hs
  have := isDs_nil hs
  subst this
  exact ⟨_, fun Q' q => ⟨a, _, rfl, ha.sq, rfl, _, _, rfl, _, _, rfl, _, _, rfl, rfl, q⟩, hw v1 v2 v3, (ht v1 v2 v3 h1 h2 h3).1, (ht v1 v2 v3 h1 h2 h3).2⟩
theorem turn_tup2 {K : PySem.W.Frag} {tt : TT} {te : TE} {i j : Nat} {σ : L2.St} {H : Hp} {v : V} {b : Bool} {d d1 d2 : PyData} (hv : IsD H v (.tuple [d1, d2]))
    (hw : ∀ v1 v2, wipe (((wipe σ [i, j]).set i (some v1)).set j (some v2)) [i, j] = wipe σ [i, j])
    (ht : ∀ v1 v2, IsD H v1 d1 → IsD H v2 d2 → EvT tt (((wipe σ [i, j]).set i (some v1)).set j (some v2)) H b ∧ (b = true → EvP te (((wipe σ [i, j]).set i (some v1)).set j (some v2)) H (Is d))) : Turn1 (gTup K 2 (gCons (gName i) (gCons (gName j) gNil))) tt te [i, j] σ H v b d := by
  obtain ⟨a, vs, rfl, ha, hs⟩ := isTup_get hv
  obtain ⟨v1, ws, rfl, h1, hs⟩ := isDs_cons hs
  obtain ⟨v2, ws, rfl, h2, hs⟩ := isDs_cons hs
  have := isDs_nil hs
  subst this
  exact ⟨_, fun Q' q => ⟨a, _, rfl, ha.sq, rfl, _, _, rfl, _, _, rfl, rfl, q⟩, hw v1 v2, (ht v1 v2 h1 h2).1, (ht v1 v2 h1 h2).2⟩
theorem Lk.skel {H H' : Hp} {S : CS} {od : Obj} {rows : List KRow} {C : Addr} (lk : Lk P w S.kA od rows H H') (h : Skel P w C H S) : H' S.p = some (.ins C S.dx (cfs S)) := lk.1 _ _ (foot_apart h.ok.foot).2.1 h.ob
theorem pure_c_roads {vs : List V} {H : Hp} {Q : VK} {E : XK} (T : Txt K mg n) (h : sp_c_roads P w K n vs H Q E) : t_c_roads P w K n E0 { nx := fun _ H' => Q .non H', rt := Q } (start ["self", "table", "some", "ranked", "road", "edge", "rows", "many"] vs) H := by
  obtain ⟨S, t, L, rfl, hc, ht, hl, k⟩ := h
  obtain ⟨rows, hrow, hDD⟩ := id hc.sk.kn
  have hlim := hc.sk.ok.lim
  have h1 := evf_lcD (P := P) (w := w) (K := K) (g := gName 4) (tt := tTest (tOp (rEqU P w K) (tLc (iAny P w K (tVar 1)) (gName 5) (tTest (tOp (rInU P w K true) (tVar 5) (tVar 4))) (tVar 5) [5]) (tLst tNil))) (te := tVar 4) (vs := [4])
    (σ := start ["self", "table", "some", "ranked", "road", "edge", "rows", "many"] [.ref S.p, t]) (td := tFld K (tVar 0) "known") (fun e => sub L e.1) (fun e => dT e.1) S.tabs (fun e => encT e.1) hrow
    (Paired.mapP hDD fun a b q => ⟨q.1, q.2.1⟩) (by omega) (fun od H' lk => ev_fld (ev_ref rfl) (lk.skel hc.sk) T.cl T.f_known (cf_known S)) fun x hx v od H' lk hv => by
      rw [data_T] at hv
      exact turn_id (by show 4 < 8; decide) hv (evt_test (ev_goes (by show 5 < 8; decide) (ev_var (v := t) rfl (ht.mono (lk.tp hrow))) hl fun u H2 e2 => ev_var (v := v) rfl (hv.mono (Tp.of e2))))
  refine s_lockAsg h1 fun a xs H1 na e1 ha hx => ?_
  have c1 := hc.ex e1
  show tSeq _ _ _ [some (.ref S.p), some t, some (.ref a), none, none, none, none, none] H1
  have h2 := evf_lc (P := P) (w := w) (K := K) (g := gName 4) (tt := tYes) (te := tTupF (tCons (tCB (rLenA P w K) (tCons (tOp (rIxU P w K) (tFld K (tVar 0) "known") (tVar 4)) tNil)) (tCons (tCB (rLenA P w K) (tCons (tVar 4) tNil)) (tCons (tVar 4) tNil)))) (vs := [4])
    (σ := [some (.ref S.p), some t, some (.ref a), none, none, none, none, none]) (H := H1) (tl := tVar 2) (fun e : List Int × Addr => dT e.1) (fun _ => true) (fun e => triD ((cntT S.B e.1 : Int), (e.1.length : Int), e.1)) (S.tabs.filter fun e => sub L e.1) ((ev_var (p := IsL K _) rfl (isL_at ha hx)).sq)
    (line1000 (Nat.le_trans (List.length_filter_le _ _) (by omega))) fun x hx v H2 e2 hv => turn_of evt_yes fun _ => by
      have hm := (List.mem_filter.mp hx).1
      have hT : x.1 ∈ S.Ts := List.mem_map.mpr ⟨x, hm, rfl⟩
      have g4 : EvP (tVar 4) ((wipe [some (V.ref S.p), some t, some (.ref a), none, none, none, none, none] [4]).set 4 (some v)) H2 (Is (dT x.1)) := ev_var (v := v) rfl hv
      have gl := ev_len (P := P) (w := w) (K := K) g4.tq
      rw [List.length_map] at gl
      exact ev_tup (eds_cons (ev_cnt T (S := S) (ev_ref rfl) g4 (c1.ex e2) hT) (eds_cons gl (eds_cons g4 eds_nil))) (by simp)
  rw [filter_all] at h2
  have er : (S.tabs.filter fun e => sub L e.1).map (fun e => triD ((cntT S.B e.1 : Int), (e.1.length : Int), e.1)) = (((S.Ts.filter fun R => sub L R).map fun R => ((cntT S.B R : Int), (R.length : Int), R))).map triD := by
    unfold CS.Ts
    rw [List.filter_map, List.map_map, List.map_map]
    rfl
  rw [er] at h2
  refine s_asgF (sorted_tris (h2.l (K := K))) fun b ys H2 nb e2 hb hy => ?_
  rw [← srt3_map] at hy
  show tRet _ _ [some (.ref S.p), some t, some (.ref a), some (.ref b), none, none, none, none] H2
  have h3 := evf_lc (P := P) (w := w) (K := K) (g := gTup K 3 (gCons (gName 6) (gCons (gName 7) (gCons (gName 4) gNil)))) (tt := tYes) (te := tTupF (tCons (tVar 6) (tCons (tVar 4) tNil))) (vs := [6, 7, 4])
    (σ := [some (.ref S.p), some t, some (.ref a), some (.ref b), none, none, none, none]) (H := H2) (tl := tVar 3) triD (fun _ => true) (fun e => .tuple [.int e.1, dT e.2.2]) (rankL S.B S.Ts L) ((ev_var (p := IsL K _) rfl (isL_at hb hy)).sq)
    (line1000 (by
      unfold rankL srt3
      rw [List.length_mergeSort, List.length_map]
      refine Nat.le_trans (List.length_filter_le _ _) ?_
      unfold CS.Ts
      rw [List.length_map]
      omega)) fun x hx v H3 e3 hv => turn_tup3 hv (fun _ _ _ => rfl) fun v1 v2 v3 q1 q2 q3 => ⟨evt_yes, fun _ => ev_tup (eds_cons (ev_var (v := v1) rfl q1) (eds_cons (ev_var (v := v3) rfl q3) eds_nil)) (by simp)⟩
  rw [filter_all] at h3
  exact s_retF h3 fun c zs H3 nc e3 hcc hz => k c zs H3 (Evl.fresh_back (e1.trans e2) nc) ((e1.trans e2).trans e3) hcc hz
theorem g_set {κ α : Type} [DecidableEq κ] {enc : κ → NestedKey} [KeyE enc] {val : Hp → V → α → Prop} (mv : MnV val) {td tk : TE} {σ : L2.St} {H : Hp} {d : Addr} {k : κ} {m : List (κ × α)} {x : α} {v : V} {Q : L2.St → Hp → Prop} (hd : EvP td σ H (IsR (.ref d))) (hk : EvP tk σ H (IsK enc k)) (hv : val H v x) (h : DAt P w enc val H d m) (hz : m.length ≤ 100000)
    (kk : ∀ H', Fr [d] H H' → DAt P w enc val H' d (putG m k x) → Q σ H') : gSub td tk (rSetU P w) v σ H Q :=
  hd H (Ex.refl _) _ fun o H2 e2 ho => hk H2 e2 _ fun i H3 e3 hi => by
    have ho : o = .ref d := ho
    subst ho
    obtain ⟨q, rfl, hq⟩ := keyOf hi
    have e : Ex H H3 := e2.trans e3
    exact putD_core mv (h.ex mv e) hq (mv _ _ _ _ (Tp.of e) hv) hz fun o t _ hD => kk _ ((Fr.ex e).trans (Fr.set (by simp) t)) hD
theorem foot_tracked {C : Addr} {H : Hp} {S : CS} (h : CubeAt P w C H S) : ∀ a ∈ S.foot, H a ≠ none := by
  intro a ha z
  simp only [CS.foot, List.mem_cons] at ha
  rcases ha with rfl | rfl | rfl | rfl | ha
  · rw [h.sk.ob] at z; cases z
  · obtain ⟨m, ⟨rows, hr, _⟩, _⟩ := h.ins
    rw [hr] at z; cases z
  · obtain ⟨rows, hr, _⟩ := h.sk.kn
    rw [hr] at z; cases z
  · obtain ⟨rows, hr, _⟩ := h.sk.gn
    rw [hr] at z; cases z
  · obtain ⟨e, he, rfl⟩ := List.mem_map.mp ha
    obtain ⟨m, ⟨rows, hr, _⟩, _⟩ := h.con e he
    rw [hr] at z; cases z
theorem whole_best {S : CS} (h : CubeOk S) {T : List Int} (hT : Tab S.n T) : ∃ R ∈ S.Ts, sub T R = true := ⟨_, h.whole, sub_rng hT⟩
theorem pure_c_make {vs : List V} {H : Hp} {Q : VK} {E : XK} (T : Txt K mg n) (h : sp_c_make P w K n vs H Q E) : t_c_make P w K n E0 { nx := fun _ H' => Q .non H', rt := Q } (start ["self", "table", "road"] vs) H := by
  obtain ⟨S, t, L, rfl, hc, ht, hL, hn1, hn2, hlim, k⟩ := h
  obtain ⟨x, rest, hx, hxb, hxT, hxs⟩ := rank_head (B := S.B) (whole_best hc.sk.ok hL)
  have hTb : Tab S.n (bestR S.B S.Ts L) := hxb ▸ hc.sk.ok.tab _ hxT
  have hl4 := hL.len hc.sk.ok.n4
  have r1 : EvF (tMeth n.cube "roads" (sp_c_roads P w K n) [] E0 (tVar 0) (tCons (tVar 1) tNil)) (start ["self", "table", "road"] [.ref S.p, t]) H ((rankL S.B S.Ts L).map fun e => .tuple [.int e.1, dT e.2.2]) :=
    evf_meth (ps := [Is (dT L)]) (ev_ref rfl) hc.sk.ob (m_roads S) (eas_cons (ev_var rfl ht) eas_nil) fun vs H1 e1 hv Q q => by
      obtain ⟨u, rfl, q1⟩ := als1 hv
      exact ⟨S, u, L, rfl, hc.ex e1, q1, by omega, q⟩
  rw [hx] at r1
  refine s_asg (p := Is (dT (bestR S.B S.Ts L))) (ev_at (i := 1) (ev_ix (i := 0) (r1.l (K := K)).sq (ev_int _) rfl) (by rw [← hxb]; rfl)) fun v2 H1 e1 hv2 => ?_
  rw [hxb] at hxs hxT
  have c1 := hc.ex e1
  have ht1 := ht.mono (Tp.of e1)
  obtain ⟨d, hd1, hd2⟩ := hc.sk.gets hxT
  obtain ⟨m, hm1, hm2⟩ := c1.con _ hd2
  show tSeq _ _ _ [some (.ref S.p), some t, some v2] H1
  refine s_seq (x_call (ps := [Is (dT (bestR S.B S.Ts L)), IsR (.ref d), Is (dT L)]) (eas_cons (ev_var (v := v2) rfl hv2) (eas_cons (ev_cont T (S := S) (ev_ref rfl) (ev_var (v := v2) rfl hv2) c1.sk hxT hd1) (eas_cons (ev_var rfl ht1) eas_nil))) fun vs H2 e2 hvs => ?_)
  obtain ⟨u1, u2, u3, rfl, q1, q2, q3⟩ := als3 hvs
  have q2 : u2 = .ref d := q2
  subst q2
  have c2 := c1.ex e2
  refine ⟨u1, u3, d, bestR S.B S.Ts L, L, m, rfl, q1, q3, hm1.ex mv_cs e2, hm2.nd, hm2.klen, hxs, by have := hTb.len hc.sk.ok.n4; omega, by omega, by have := hm2.blen; have := hc.sk.ok.lenB; omega, fun f H3 nf e3 hf => ?_⟩
  have c3 := c2.ex e3
  have e13 := e2.trans e3
  have hlimT : S.tabs.length ≤ 1000 := by omega
  refine g_set mv_ref (d := S.kA) (k := L) (m := S.tabs) (x := f) (ev_known T (S := S) (ev_ref rfl) c3.sk) (ev_K (ev_var rfl (ht1.mono (Tp.of e13)))) rfl c3.sk.kn (by omega) fun H4 f4 hk4 => ?_
  rw [putG_new (getG_notin hn1)] at hk4
  have hv4 : IsD H4 v2 (dT (bestR S.B S.Ts L)) := (hv2.mono (Tp.of e13)).mono f4.2
  refine s_ret (p := Is (dT (bestR S.B S.Ts L))) (ev_var (v := v2) rfl hv4) fun v H5 e5 hv5 => ?_
  obtain ⟨a1, a2, a3, a4, a5, a6, a7, a8⟩ := foot_apart hc.sk.ok.foot
  have nf0 : H f = none := Evl.fresh_back (e1.trans e2) nf
  have hft : ∀ a ∈ S.foot, f ≠ a := fun a ha z => foot_tracked hc a ha (z ▸ nf0)
  have nfk : f ≠ S.kA := hft _ (by simp [CS.foot])
  have ntk : ∀ e ∈ S.tabs, e.2 ∉ [S.kA] := fun e he => by simpa using (a7 e.2 (List.mem_map.mpr ⟨e, he, rfl⟩)).2.2.1
  refine k v f H5 nf0 (((((Fr.ex e1).trans (Fr.ex e13)).trans (f4.mono (by simp [CS.foot]))).trans (Fr.ex e5))) hv5 ?_
  refine CubeAt.ex e5 ⟨⟨?_, f4.1 _ _ c3.sk.ob (by simpa using a2), c3.sk.wt.mono f4.2, hk4, c3.sk.gn.fr mv_bl f4 (by simpa using a6.symm)⟩, c3.ins.fr f4 (by simpa using a4), fun e he => ?_⟩
  · have o := hc.sk.ok
    have eTs : ({ S with tabs := S.tabs ++ [(L, f)] } : CS).Ts = S.Ts ++ [L] := by
      show (S.tabs ++ [(L, f)]).map (·.1) = _
      rw [List.map_append]; rfl
    refine ⟨o.n1, o.n4, o.rows, o.lenB, fun U hU => ?_, o.tabG, ?_, o.ndG, fun U hU => ?_, ?_, ?_, ?_⟩
    · rw [eTs] at hU
      rcases List.mem_append.mp hU with hU | hU
      · exact o.tab U hU
      · rw [List.mem_singleton.mp hU]; exact hL
    · rw [eTs]
      exact List.nodup_append.mpr ⟨o.ndT, by simp, fun a ha b hb e => hn1 (by rw [List.mem_singleton] at hb; rw [← hb, ← e]; exact ha)⟩
    · rw [eTs] at hU
      rcases List.mem_append.mp hU with hU | hU
      · exact o.dis U hU
      · rw [List.mem_singleton.mp hU]; exact hn2
    · rw [eTs]
      exact List.mem_append_left _ o.whole
    · show (S.p :: S.iA :: S.kA :: S.gA :: (S.tabs ++ [(L, f)]).map (·.2)).Nodup
      have : (S.p :: S.iA :: S.kA :: S.gA :: (S.tabs ++ [(L, f)]).map (·.2)) = S.foot ++ [f] := by
        rw [List.map_append]; rfl
      rw [this]
      exact List.nodup_append.mpr ⟨o.foot, by simp, fun a ha b hb e => hft a ha (by rw [List.mem_singleton] at hb; rw [← hb]; exact e.symm)⟩
    · show (S.tabs ++ [(L, f)]).length + S.gone.length ≤ 1000
      rw [List.length_append, List.length_singleton]
      omega
  · have he : e ∈ S.tabs ++ [(L, f)] := he
    rcases List.mem_append.mp he with he | he
    · obtain ⟨m', h1, h2⟩ := c3.con e he
      exact ⟨m', h1.fr mv_cs f4 (ntk e he), h2⟩
    · have : e = (L, f) := by simpa using he
      subst this
      exact ⟨_, hf.fr mv_cs f4 (by simpa using nfk), right_reck hm2 hxs⟩
end
end KC
end

section
set_option Elab.async false
set_option linter.all false
set_option autoImplicit false
set_option maxRecDepth 100000
set_option maxHeartbeats 4000000
/-! keep, rebuild, lose, drop, room, the maker. -/
namespace KC
open PySem L2 PySem.W
open Evl (Ex EvT)
section
variable {P : Program} {w : World} {K : PySem.W.Frag} {mg : Str → Option Value} {n : Nm}
theorem x_make {σ : L2.St} {H : Hp} {S : CS} {v : V} {L : List Int} {Q : VK} {E : XK} (h0 : σ[0]? = some (some (.ref S.p))) (h1 : σ[1]? = some (some v)) (hc : CubeAt P w n.cube H S) (hv : IsD H v (dT L)) (hL : Tab S.n L) (hn1 : L ∉ S.Ts) (hn2 : L ∉ S.gone.map (·.1)) (hlim : S.tabs.length + S.gone.length < 1000)
    (k : ∀ v d H', H d = none → Fr S.foot H H' → IsD H' v (dT (bestR S.B S.Ts L)) → CubeAt P w n.cube H' { S with tabs := S.tabs ++ [(L, d)] } → Q v H') : tMeth n.cube "make" (sp_c_make P w K n) [] E (tVar 0) (tCons (tVar 1) tNil) σ H Q :=
  x_meth (ps := [Is (dT L)]) (ev_ref h0) hc.sk.ob (m_make S) (eas_cons (ev_var h1 hv) eas_nil) fun vs H1 e1 hvs => by
    obtain ⟨u, rfl, q1⟩ := als1 hvs
    exact ⟨S, u, L, rfl, hc.ex e1, q1, hL, hn1, hn2, hlim, fun v d H' nd f hv c => k v d H' (Evl.fresh_back e1 nd) ((Fr.ex e1).trans f) hv c⟩
theorem pure_c_keep {vs : List V} {H : Hp} {Q : VK} {E : XK} (T : Txt K mg n) (h : sp_c_keep P w K n vs H Q E) : t_c_keep P w K n E0 { nx := fun _ H' => Q .non H', rt := Q } (start ["self", "table"] vs) H := by
  obtain ⟨S, t, L, rfl, hc, ht, hL, hn1, hn2, hlim, k⟩ := h
  refine s_need T (S := S) (L := L) (ev_ref rfl) (ev_var rfl ht) hc.sk hL fun H1 e1 => ?_
  have c1 := hc.ex e1
  have ht1 := ht.mono (Tp.of e1)
  have gk : EvP (tVar 1) (start ["self", "table"] [.ref S.p, t]) H1 (IsK encT L) := ev_K (ev_var rfl ht1)
  have q1 := evt_test (ev_inD (P := P) (w := w) (K := K) mv_ref gk (ev_known T (S := S) (te := tVar 0) (ev_ref rfl) c1.sk) c1.sk.kn.rd)
  have q2 := evt_test (ev_inD (P := P) (w := w) (K := K) mv_bl gk (ev_gone T (S := S) (te := tVar 0) (ev_ref rfl) c1.sk) c1.sk.gn.rd)
  have g1 : (getG S.tabs L).isSome = false := by rw [getG_notin hn1]; rfl
  have g2 : (getG S.gone L).isSome = false := by rw [getG_notin hn2]; rfl
  rw [g1] at q1
  rw [g2] at q2
  refine s_ifF (evt_or q1 fun _ => q2) fun H2 e2 => ?_
  exact x_make rfl rfl (c1.ex e2) (ht1.mono (Tp.of e2)) hL hn1 hn2 hlim fun v d H' nd f hv c => k v d H' (Evl.fresh_back (e1.trans e2) nd) ((Fr.ex (e1.trans e2)).trans f) hv c
theorem dropG_keys {κ α : Type} [DecidableEq κ] (m : List (κ × α)) (k : κ) : (dropG m k).map (·.1) = (m.map (·.1)).filter fun j => decide (j ≠ k) := by
  unfold dropG
  rw [List.filter_map]
  rfl
theorem mem_dropG {κ α : Type} [DecidableEq κ] {m : List (κ × α)} {k j : κ} : j ∈ (dropG m k).map (·.1) ↔ j ∈ m.map (·.1) ∧ j ≠ k := by
  rw [dropG_keys, List.mem_filter]
  simp
theorem CubeOk.dropGone {S : CS} (h : CubeOk S) (L : List Int) : CubeOk { S with gone := dropG S.gone L } :=
  ⟨h.n1, h.n4, h.rows, h.lenB, h.tab, fun U hU => h.tabG U (mem_dropG.mp hU).1, h.ndT, nd_drop L h.ndG, fun U hU z => h.dis U hU (mem_dropG.mp z).1, h.whole, h.foot, by
    have := length_drop S.gone L
    have := h.lim
    show S.tabs.length + (dropG S.gone L).length ≤ 1000
    omega⟩
theorem CubeAt.setGone {H H' : Hp} {S : CS} {C : Addr} {g : List (List Int × Bool)} (h : CubeAt P w C H S) (f : Fr [S.gA] H H') (hg : DAt P w encT vBl H' S.gA g) (ok : CubeOk { S with gone := g }) : CubeAt P w C H' { S with gone := g } := by
  obtain ⟨a1, a2, a3, a4, a5, a6, a7, a8⟩ := foot_apart h.sk.ok.foot
  refine ⟨⟨ok, f.1 _ _ h.sk.ob (by simpa using a3), h.sk.wt.mono f.2, h.sk.kn.fr mv_ref f (by simpa using a6), hg⟩, h.ins.fr f (by simpa using a5), fun e he => ?_⟩
  obtain ⟨m, h1, h2⟩ := h.con e he
  exact ⟨m, h1.fr mv_cs f (by simpa using (a7 e.2 (List.mem_map.mpr ⟨e, he, rfl⟩)).2.2.2), h2⟩
theorem CubeAt.setTabs {H H' : Hp} {S : CS} {C : Addr} {g : List (List Int × Addr)} (h : CubeAt P w C H S) (f : Fr [S.kA] H H') (hg : DAt P w encT vRef H' S.kA g) (hs : ∀ e ∈ g, e ∈ S.tabs) (ok : CubeOk { S with tabs := g }) : CubeAt P w C H' { S with tabs := g } := by
  obtain ⟨a1, a2, a3, a4, a5, a6, a7, a8⟩ := foot_apart h.sk.ok.foot
  refine ⟨⟨ok, f.1 _ _ h.sk.ob (by simpa using a2), h.sk.wt.mono f.2, hg, h.sk.gn.fr mv_bl f (by simpa using a6.symm)⟩, h.ins.fr f (by simpa using a4), fun e he => ?_⟩
  obtain ⟨m, h1, h2⟩ := h.con e (hs e he)
  exact ⟨m, h1.fr mv_cs f (by simpa using (a7 e.2 (List.mem_map.mpr ⟨e, hs e he, rfl⟩)).2.2.1), h2⟩
theorem CubeOk.dropTabs {S : CS} (h : CubeOk S) {L : List Int} (hL : L ≠ rng S.n) : CubeOk { S with tabs := dropG S.tabs L } :=
  ⟨h.n1, h.n4, h.rows, h.lenB, fun U hU => h.tab U (mem_dropG.mp hU).1, h.tabG, nd_drop L h.ndT, h.ndG, fun U hU => h.dis U (mem_dropG.mp hU).1, mem_dropG.mpr ⟨h.whole, fun z => hL z.symm⟩, by
    have := h.foot
    unfold CS.foot at this ⊢
    refine List.Nodup.sublist ?_ this
    refine List.Sublist.cons₂ _ (List.Sublist.cons₂ _ (List.Sublist.cons₂ _ (List.Sublist.cons₂ _ ?_)))
    exact List.Sublist.map _ List.filter_sublist, by
    have := length_drop S.tabs L
    have := h.lim
    show (dropG S.tabs L).length + S.gone.length ≤ 1000
    omega⟩
theorem length_drop_lt {κ α : Type} [DecidableEq κ] {m : List (κ × α)} {k : κ} (h : k ∈ m.map (·.1)) : (dropG m k).length < m.length := by
  obtain ⟨e, he, rfl⟩ := List.mem_map.mp h
  unfold dropG
  exact List.length_filter_lt_length_iff_exists.mpr ⟨e, he, by simp⟩
theorem pure_c_rebuild {vs : List V} {H : Hp} {Q : VK} {E : XK} (T : Txt K mg n) (h : sp_c_rebuild P w K n vs H Q E) : t_c_rebuild P w K n E0 { nx := fun _ H' => Q .non H', rt := Q } (start ["self", "table"] vs) H := by
  obtain ⟨S, t, L, rfl, hc, ht, hg, k⟩ := h
  have hL := hc.sk.ok.tabG L hg
  refine s_need T (S := S) (L := L) (ev_ref rfl) (ev_var rfl ht) hc.sk hL fun H1 e1 => ?_
  have c1 := hc.ex e1
  have ht1 := ht.mono (Tp.of e1)
  have gk : EvP (tVar 1) (start ["self", "table"] [.ref S.p, t]) H1 (IsK encT L) := ev_K (ev_var rfl ht1)
  have q2 := evt_test (ev_ninD (P := P) (w := w) (K := K) mv_bl gk (ev_gone T (S := S) (te := tVar 0) (ev_ref rfl) c1.sk) c1.sk.gn.rd)
  rw [getG_inD hg] at q2
  refine s_ifF q2 fun H2 e2 => ?_
  have c2 := c1.ex e2
  have ht2 := ht1.mono (Tp.of e2)
  obtain ⟨b, hb⟩ := Option.isSome_iff_exists.mp (getG_inD hg)
  refine s_seq (s_popD mv_bl (d := S.gA) (k := L) (ev_gone T (S := S) (ev_ref rfl) c2.sk) (ev_K (ev_var rfl ht2)) c2.sk.gn hb fun H3 f3 hg3 => ?_)
  have c3 := c2.setGone f3 hg3 (hc.sk.ok.dropGone L)
  have fH : Fr S.foot H H3 := (Fr.ex (e1.trans e2)).trans (f3.mono (by simp [CS.foot]))
  have hlt := length_drop_lt hg
  have hlim := hc.sk.ok.lim
  refine x_make (S := { S with gone := dropG S.gone L }) rfl rfl c3 (ht2.mono f3.2) hL (fun z => hc.sk.ok.dis L z hg) (fun z => (mem_dropG.mp z).2 rfl) (by show S.tabs.length + (dropG S.gone L).length < 1000; omega) fun v d H' nd f hv c => ?_
  refine k v d H' ?_ (fH.trans f) hv c
  cases z : H d with
  | none => rfl
  | some o =>
    by_cases y : d ∈ [S.gA]
    · have : d = S.gA := by simpa using y
      subst this
      obtain ⟨rows, hr, _⟩ := hg3
      rw [hr] at nd
      cases nd
    · have := f3.1 d o (e2 _ _ (e1 _ _ z)) y
      rw [this] at nd
      cases nd
theorem ev_need_kept {σ : L2.St} {H : Hp} {S : CS} {E : XK} {v : V} {L : List Int} {tk : TE} (h0 : σ[0]? = some (some (.ref S.p))) (h1 : EvP tk σ H (Is (dT L))) (hc : CubeAt P w n.cube H S) (hL : L ∈ S.Ts) :
    EvP (tMeth n.cube "need_kept" (sp_c_need_kept P w K n) [] E (tVar 0) (tCons tk tNil)) σ H (IsR .non) :=
  ev_meth (ps := [Is (dT L)]) (ev_ref h0) hc.sk.ob (m_need_kept S) (eas_cons h1 eas_nil) fun vs H1 e1 hvs Q q => by
    obtain ⟨u, rfl, q1⟩ := als1 hvs
    exact ⟨S, u, L, rfl, hc.ex e1, q1, hL, fun H2 e2 => q _ H2 e2 rfl⟩
theorem putG_app {κ α : Type} [DecidableEq κ] {m : List (κ × α)} {k : κ} {v : α} (h : k ∉ m.map (·.1)) : putG m k v = m ++ [(k, v)] := putG_new (getG_notin h)
theorem CubeOk.addGone {S : CS} (h : CubeOk S) {L : List Int} (hL : Tab S.n L) (h1 : L ∉ S.Ts) (h2 : L ∉ S.gone.map (·.1)) (h3 : S.tabs.length + S.gone.length < 1000) : CubeOk { S with gone := S.gone ++ [(L, true)] } := by
  have e : (S.gone ++ [(L, true)]).map (·.1) = S.gone.map (·.1) ++ [L] := by rw [List.map_append]; rfl
  refine ⟨h.n1, h.n4, h.rows, h.lenB, h.tab, fun U hU => ?_, h.ndT, ?_, fun U hU z => ?_, h.whole, h.foot, ?_⟩
  · have hU : U ∈ (S.gone ++ [(L, true)]).map (·.1) := hU
    rw [e] at hU
    rcases List.mem_append.mp hU with hU | hU
    · exact h.tabG U hU
    · rw [List.mem_singleton.mp hU]; exact hL
  · show ((S.gone ++ [(L, true)]).map (·.1)).Nodup
    rw [e]
    exact List.nodup_append.mpr ⟨h.ndG, by simp, fun a ha b hb z => h2 (by rw [List.mem_singleton] at hb; rw [← hb, ← z]; exact ha)⟩
  · have z : U ∈ (S.gone ++ [(L, true)]).map (·.1) := z
    rw [e] at z
    rcases List.mem_append.mp z with z | z
    · exact h.dis U hU z
    · rw [List.mem_singleton.mp z] at hU
      exact h1 hU
  · show S.tabs.length + (S.gone ++ [(L, true)]).length ≤ 1000
    rw [List.length_append, List.length_singleton]
    omega
theorem pure_c_lose {vs : List V} {H : Hp} {Q : VK} {E : XK} (T : Txt K mg n) (h : sp_c_lose P w K n vs H Q E) : t_c_lose P w K n E0 { nx := fun _ H' => Q .non H', rt := Q } (start ["self", "table"] vs) H := by
  obtain ⟨S, t, L, rfl, hc, ht, hT, hw, k⟩ := h
  have hL := hc.sk.tab_of hT
  refine s_drops (ev_need_kept (v := t) (L := L) rfl (ev_var rfl ht) hc hT) fun _ H1 e1 _ => ?_
  have c1 := hc.ex e1
  have ht1 := ht.mono (Tp.of e1)
  have q1 := evt_test (ev_eq (P := P) (w := w) (K := K) (σ := start ["self", "table"] [.ref S.p, t]) (a := tVar 1) (ev_var (p := Is (dT L)) rfl ht1) (ev_whole T (S := S) (te := tVar 0) (ev_ref rfl) c1.sk) sh_T sh_T)
  rw [eqv_T, decide_eq_false hw] at q1
  refine s_ifF q1 fun H2 e2 => ?_
  have c2 := c1.ex e2
  have ht2 := ht1.mono (Tp.of e2)
  obtain ⟨d, hd⟩ := Option.isSome_iff_exists.mp (getG_inD hT)
  refine s_seq (s_popD mv_ref (d := S.kA) (k := L) (ev_known T (S := S) (ev_ref rfl) c2.sk) (ev_K (ev_var rfl ht2)) c2.sk.kn hd fun H3 f3 hk3 => ?_)
  have c3 := c2.setTabs f3 hk3 (fun e he => (List.mem_filter.mp he).1) (hc.sk.ok.dropTabs hw)
  have ht3 := ht2.mono f3.2
  have hng : L ∉ S.gone.map (·.1) := hc.sk.ok.dis L hT
  have hlt := length_drop_lt hT
  have hlim := hc.sk.ok.lim
  refine s_setD mv_bl (d := S.gA) (k := L) (m := S.gone) (x := true) (p := IsR (.bl true)) (ev_c _) (ev_gone T (S := { S with tabs := dropG S.tabs L }) (ev_ref rfl) c3.sk) (ev_K (ev_var rfl ht3)) (fun _ _ h => h) c3.sk.gn (by omega) fun H4 f4 hg4 => ?_
  rw [putG_app hng] at hg4
  have c4 := c3.setGone f4 hg4 ((hc.sk.ok.dropTabs hw).addGone hL (fun z => (mem_dropG.mp z).2 rfl) hng (by show (dropG S.tabs L).length + S.gone.length < 1000; omega))
  exact k H4 (((Fr.ex (e1.trans e2)).trans (f3.mono (by simp [CS.foot]))).trans (f4.mono (by simp [CS.foot]))) c4
theorem pure_c_drop {vs : List V} {H : Hp} {Q : VK} {E : XK} (T : Txt K mg n) (h : sp_c_drop P w K n vs H Q E) : t_c_drop P w K n E0 { nx := fun _ H' => Q .non H', rt := Q } (start ["self", "table"] vs) H := by
  obtain ⟨S, t, L, rfl, hc, ht, hL, hw, hin, k⟩ := h
  refine s_need T (S := S) (L := L) (ev_ref rfl) (ev_var rfl ht) hc.sk hL fun H1 e1 => ?_
  have c1 := hc.ex e1
  have ht1 := ht.mono (Tp.of e1)
  have gk : EvP (tVar 1) (start ["self", "table"] [.ref S.p, t]) H1 (IsK encT L) := ev_K (ev_var rfl ht1)
  have q1 := evt_test (ev_eq (P := P) (w := w) (K := K) (σ := start ["self", "table"] [.ref S.p, t]) (a := tVar 1) (ev_var (p := Is (dT L)) rfl ht1) (ev_whole T (S := S) (te := tVar 0) (ev_ref rfl) c1.sk) sh_T sh_T)
  rw [eqv_T, decide_eq_false hw] at q1
  have q2 := evt_test (ev_ninD (P := P) (w := w) (K := K) mv_ref gk (ev_known T (S := S) (te := tVar 0) (ev_ref rfl) c1.sk) c1.sk.kn.rd)
  have q3 := evt_test (ev_ninD (P := P) (w := w) (K := K) mv_bl gk (ev_gone T (S := S) (te := tVar 0) (ev_ref rfl) c1.sk) c1.sk.gn.rd)
  have q4 : EvT _ (start ["self", "table"] [.ref S.p, t]) H1 _ := evt_or q1 fun _ => evt_and q2 fun _ => q3
  have e4 : (false || (!(getG S.tabs L).isSome && !(getG S.gone L).isSome)) = false := by
    rcases hin with h | h
    · rw [getG_inD h]; rfl
    · rw [getG_inD h]; simp
  rw [e4] at q4
  refine s_ifF q4 fun H2 e2 => ?_
  have c2 := c1.ex e2
  have ht2 := ht1.mono (Tp.of e2)
  refine s_seq (s_popD2 mv_ref (p := IsR .non) (d := S.kA) (k := L) (ev_known T (S := S) (ev_ref rfl) c2.sk) (ev_K (ev_var rfl ht2)) (ev_c _) c2.sk.kn fun H3 f3 hk3 => ?_)
  have c3 := c2.setTabs f3 hk3 (fun e he => (List.mem_filter.mp he).1) (hc.sk.ok.dropTabs hw)
  have ht3 := ht2.mono f3.2
  refine s_popD2 mv_bl (p := IsR .non) (d := S.gA) (k := L) (ev_gone T (S := { S with tabs := dropG S.tabs L }) (ev_ref rfl) c3.sk) (ev_K (ev_var rfl ht3)) (ev_c _) c3.sk.gn fun H4 f4 hg4 => ?_
  exact k H4 (((Fr.ex (e1.trans e2)).trans (f3.mono (by simp [CS.foot]))).trans (f4.mono (by simp [CS.foot]))) (c3.setGone f4 hg4 ((hc.sk.ok.dropTabs hw).dropGone L))
theorem ev_sum {te : TE} {σ : L2.St} {H : Hp} {ns : List Int} (h : EvP te σ H (IsL K (dI ns))) : EvP (tCB (rSum K) (tCons te tNil)) σ H (Is (.int ns.sum)) := fun H1 e Q k =>
  h H1 e _ fun v H2 e2 ⟨a, xs, ev, hl, hs⟩ => by
    subst ev
    have := ints_of_isDs hs
    subst this
    exact ⟨a, ns, rfl, hl, k _ H2 e2 (IsD.int _)⟩
theorem pure_c_room {vs : List V} {H : Hp} {Q : VK} {E : XK} (T : Txt K mg n) (h : sp_c_room P w K n vs H Q E) : t_c_room P w K n E0 { nx := fun _ H' => Q .non H', rt := Q } (start ["self", "table"] vs) H := by
  obtain ⟨S, rfl, hc, k⟩ := h
  obtain ⟨rows, hrow, hDD⟩ := id hc.sk.kn
  have hlim := hc.sk.ok.lim
  have h1 := evf_lcD (P := P) (w := w) (K := K) (g := gName 1) (tt := tYes) (te := tCB (rLenA P w K) (tCons (tOp (rIxU P w K) (tFld K (tVar 0) "known") (tVar 1)) tNil)) (vs := [1])
    (σ := start ["self", "table"] [.ref S.p]) (td := tFld K (tVar 0) "known") (fun _ => true) (fun e => PyData.int (cntT S.B e.1 : Nat)) S.tabs (fun e => encT e.1) hrow
    (Paired.mapP hDD fun a b q => ⟨q.1, q.2.1⟩) (by omega) (fun od H' lk => ev_fld (ev_ref rfl) (lk.skel hc.sk) T.cl T.f_known (cf_known S)) fun x hx v od H' lk hv => turn_of evt_yes fun _ => by
      rw [data_T] at hv
      obtain ⟨m, hm1, hm2⟩ := hc.con x hx
      have nk : x.2 ≠ S.kA := ((foot_apart hc.sk.ok.foot).2.2.2.2.2.2.1 _ (List.mem_map.mpr ⟨x, hx, rfl⟩)).2.2.1
      have hm' : DAt P w encT vCS H' x.2 m := by
        obtain ⟨rs, h1, h2⟩ := hm1
        exact ⟨rs, lk.1 _ _ nk h1, h2.mono mv_cs (lk.tp hrow)⟩
      rw [← hm2.cnt]
      refine ev_lenD mv_cs ((ev_ixD mv_ref (d := S.kA) (k := x.1) (ev_fld (ev_ref rfl) (lk.skel hc.sk) T.cl T.f_known (cf_known S)) (ev_K (ev_var (v := v) rfl hv)) ⟨rows, lk.rd, hDD.mono mv_ref (lk.tp hrow)⟩ (hc.sk.get hx)).imp fun _ _ h => h) hm'.rd
  rw [filter_all] at h1
  have er : S.tabs.map (fun e => PyData.int (cntT S.B e.1 : Nat)) = dI (S.Ts.map fun L => (cntT S.B L : Int)) := by
    show _ = (((S.tabs.map (·.1)).map fun L => (cntT S.B L : Int))).map PyData.int
    rw [List.map_map, List.map_map]
    rfl
  rw [er] at h1
  refine s_ret (ev_sum (h1.l (K := K))) fun v H' e hv => ?_
  have := isInt_get hv
  subst this
  exact k H' e
end
end KC
end

section
set_option Elab.async false
set_option linter.all false
set_option autoImplicit false
set_option maxRecDepth 100000
set_option maxHeartbeats 4000000
/-! kept, the maker. -/
namespace KC
open PySem L2 PySem.W
open Evl (Ex EvT)
section
variable {P : Program} {w : World} {K : PySem.W.Frag} {mg : Str → Option Value} {n : Nm}
def o2d : Option Nat → PyData
  | none => .none
  | some c => .int c
def oP (e : List Int × Option Nat) : List Int × PyData := (e.1, o2d e.2)
theorem pairD_eq (e : List Int × Option Nat) : pairD e = pD (oP e) := by
  obtain ⟨T, o⟩ := e
  cases o <;> rfl
theorem srt2_map (L : List (List Int × Option Nat)) : (srt2 L).map oP = (L.map oP).mergeSort pLe := sort_maps oP fun a _ b _ => rfl
theorem srt2_pairs (L : List (List Int × Option Nat)) : ((L.map oP).mergeSort pLe).map pD = (srt2 L).map pairD := by
  rw [← srt2_map, List.map_map]
  exact List.map_congr_left fun e _ => (pairD_eq e).symm
theorem evf_sortP {te : TE} {σ : L2.St} {H : Hp} {L : List (List Int × Option Nat)} (h : EvP te σ H (IsL K (L.map pairD))) (hd : (L.map (·.1)).Nodup) (hz : L.length ≤ 1000) : EvF (tCB (rSortU w K) (tCons te tNil)) σ H ((srt2 L).map pairD) := fun H1 e Q k =>
  h H1 e _ fun v H2 e2 ⟨a, xs, ev, hl, hs⟩ => by
    subst ev
    have em : L.map pairD = (L.map oP).map pD := by
      rw [List.map_map]
      exact List.map_congr_left fun e _ => pairD_eq e
    rw [em] at hs
    refine .inr (.inl ⟨a, xs, L.map oP, rfl, hl, hs, fun p hp q hq hpq => ?_, fun p hp => ?_, ?_, fun ys p hy hp => ?_⟩)
    · obtain ⟨x, hx, rfl⟩ := List.mem_map.mp hp
      obtain ⟨y, hy, rfl⟩ := List.mem_map.mp hq
      have h1 := getG_of_mem hd (show (x.1, x.2) ∈ L from hx)
      have h2 := getG_of_mem hd (show (y.1, y.2) ∈ L from hy)
      have hpq : x.1 = y.1 := hpq
      rw [hpq, h2] at h1
      have := Option.some.inj h1
      show (x.1, o2d x.2) = (y.1, o2d y.2)
      rw [hpq, this]
    · obtain ⟨x, hx, rfl⟩ := List.mem_map.mp hp
      show alike (o2d x.2) (o2d x.2) = true ∧ (o2d x.2).depth ≤ 1
      cases x.2 with
      | none => exact ⟨by rw [o2d, alike], by rw [o2d, PyData.depth]; exact Nat.zero_le _⟩
      | some c => exact ⟨by rw [o2d, alike], by rw [o2d, PyData.depth]; exact Nat.zero_le _⟩
    · rw [List.length_map]; exact line1000 hz
    · rw [srt2_pairs] at hy
      exact k p ys _ (Evl.fresh_back e2 hp) (e2.trans (Evl.Ex.new hp)) upd_same (hy.mono (Tp.of (Evl.Ex.new hp)))
def IsM (ds : List PyData) : PV := fun H v => ∃ a xs, v = .ref a ∧ H a = some (.lst xs) ∧ IsDs H xs ds
instance (ds : List PyData) : Mn (IsM ds) := ⟨fun e ⟨a, xs, h1, h2, h3⟩ => ⟨a, xs, h1, e _ _ h2, h3.mono (Tp.of e)⟩⟩
theorem EvF.m {te : TE} {σ : L2.St} {H : Hp} {ds : List PyData} (h : EvF te σ H ds) : EvP te σ H (IsM ds) := fun H1 e Q k => h H1 e Q fun a xs H2 _ e2 ha hx => k _ _ e2 ⟨a, xs, rfl, ha, hx⟩
theorem evf_cat {a b : TE} {σ : L2.St} {H : Hp} {ds es : List PyData} (ha : EvP a σ H (IsM ds)) (hb : EvF b σ H es) (hz : ds.length + es.length ≤ 5000) : EvF (tOp (rPlus K) a b) σ H (ds ++ es) := fun H1 e Q k =>
  ha H1 e _ fun v H2 e2 hv => hb H2 (e.trans e2) _ fun c ys H3 nc e3 hc hy => by
    obtain ⟨x, xs, rfl, hx, hs⟩ := Mn.mn e3 hv
    have l1 := hs.length
    have l2 := hy.length
    have hz' : xs.length + ys.length ≤ sizeLine := Nat.le_trans (by omega : _ ≤ 5000) (by decide)
    exact .inr (.inr (.inl ⟨x, c, xs, ys, rfl, rfl, hx, hc, hz', fun p hp => k p _ _ (Evl.fresh_back (e2.trans e3) hp) ((e2.trans e3).trans (Ex.new hp)) upd_same ((hs.append hy).mono (Tp.of (Ex.new hp)))⟩))
theorem m_at {H : Hp} {a : Addr} {xs : List V} {ds : List PyData} (h : H a = some (.lst xs)) (hs : IsDs H xs ds) : IsM ds H (.ref a) := ⟨a, xs, rfl, h, hs⟩
theorem pure_c_kept {vs : List V} {H : Hp} {Q : VK} {E : XK} (T : Txt K mg n) (h : sp_c_kept P w K n vs H Q E) : t_c_kept P w K n E0 { nx := fun _ H' => Q .non H', rt := Q } (start ["self", "found", "table"] vs) H := by
  obtain ⟨S, rfl, hc, k⟩ := h
  obtain ⟨rows, hrow, hDD⟩ := id hc.sk.kn
  have hlim := hc.sk.ok.lim
  have h1 := evf_lcD (P := P) (w := w) (K := K) (g := gName 2) (tt := tYes) (te := tTupF (tCons (tVar 2) (tCons (tCB (rLenA P w K) (tCons (tOp (rIxU P w K) (tFld K (tVar 0) "known") (tVar 2)) tNil)) tNil))) (vs := [2])
    (σ := start ["self", "found", "table"] [.ref S.p]) (td := tFld K (tVar 0) "known") (fun _ => true) (fun e => pairD (e.1, some (cntT S.B e.1))) S.tabs (fun e => encT e.1) hrow
    (Paired.mapP hDD fun a b q => ⟨q.1, q.2.1⟩) (by omega) (fun od H' lk => ev_fld (ev_ref rfl) (lk.skel hc.sk) T.cl T.f_known (cf_known S)) fun x hx v od H' lk hv => turn_of evt_yes fun _ => by
      rw [data_T] at hv
      obtain ⟨m, hm1, hm2⟩ := hc.con x hx
      have nk : x.2 ≠ S.kA := ((foot_apart hc.sk.ok.foot).2.2.2.2.2.2.1 _ (List.mem_map.mpr ⟨x, hx, rfl⟩)).2.2.1
      have hm' : DAt P w encT vCS H' x.2 m := by
        obtain ⟨rs, h1, h2⟩ := hm1
        exact ⟨rs, lk.1 _ _ nk h1, h2.mono mv_cs (lk.tp hrow)⟩
      have hl := ev_lenD (P := P) (w := w) (K := K) mv_cs (σ := (wipe (start ["self", "found", "table"] [.ref S.p]) [2]).set 2 (some v)) (td := tOp (rIxU P w K) (tFld K (tVar 0) "known") (tVar 2)) ((ev_ixD mv_ref (d := S.kA) (k := x.1) (ev_fld (ev_ref rfl) (lk.skel hc.sk) T.cl T.f_known (cf_known S)) (ev_K (ev_var (v := v) rfl hv)) ⟨rows, lk.rd, hDD.mono mv_ref (lk.tp hrow)⟩ (hc.sk.get hx)).imp fun _ _ h => h) hm'.rd
      rw [hm2.cnt] at hl
      exact ev_tup (eds_cons (ev_var (p := Is (dT x.1)) (v := v) rfl hv) (eds_cons hl eds_nil)) (by simp)
  rw [filter_all] at h1
  refine s_lockAsg h1 fun a xs H1 na e1 ha hx => ?_
  have c1 := hc.ex e1
  obtain ⟨rows2, hrow2, hDD2⟩ := id c1.sk.gn
  show tRet _ _ [some (.ref S.p), some (.ref a), none] H1
  have h2 := evf_lcD (P := P) (w := w) (K := K) (g := gName 2) (tt := tYes) (te := tTupF (tCons (tVar 2) (tCons (tC .non) tNil))) (vs := [2])
    (σ := [some (.ref S.p), some (.ref a), none]) (td := tFld K (tVar 0) "gone") (fun _ => true) (fun e => pairD (e.1, none)) S.gone (fun e => encT e.1) hrow2
    (Paired.mapP hDD2 fun a b q => ⟨q.1, q.2.1⟩) (by omega) (fun od H' lk => ev_fld (ev_ref rfl) (lk.1 _ _ (foot_apart hc.sk.ok.foot).2.2.1 c1.sk.ob) T.cl T.f_gone (cf_gone S)) fun x hx v od H' lk hv => turn_of evt_yes fun _ => by
      rw [data_T] at hv
      exact ev_tup (eds_cons (ev_var (p := Is (dT x.1)) (v := v) rfl hv) (eds_cons ev_non eds_nil)) (by simp)
  rw [filter_all] at h2
  have h3 := evf_cat (K := K) (a := tVar 1) (ev_var (p := IsM _) rfl (m_at ha hx)) h2 (by rw [List.length_map, List.length_map]; omega)
  have er : S.tabs.map (fun e : List Int × Addr => pairD (e.1, some (cntT S.B e.1))) ++ S.gone.map (fun e : List Int × Bool => pairD (e.1, none)) = (S.tabs.map (fun e : List Int × Addr => (e.1, some (cntT S.B e.1))) ++ S.gone.map fun e : List Int × Bool => (e.1, (none : Option Nat))).map pairD := by
    rw [List.map_append, List.map_map, List.map_map]
    rfl
  rw [er] at h3
  refine s_retF (evf_sortP (w := w) (h3.l (K := K)) ?_ (by rw [List.length_append, List.length_map, List.length_map]; omega)) fun b ys H2 nb e2 hb hy => k b ys H2 (Evl.fresh_back e1 nb) (e1.trans e2) hb hy
  rw [List.map_append, List.map_map, List.map_map]
  show (S.tabs.map (fun e => e.1) ++ S.gone.map fun e => e.1).Nodup
  exact List.nodup_append.mpr ⟨hc.sk.ok.ndT, hc.sk.ok.ndG, fun a ha b hb z => hc.sk.ok.dis a ha (z ▸ hb)⟩
theorem s_fld {ta tv : TE} {σ : L2.St} {H : Hp} {D : Ends} {o C dx : Addr} {fs : List (Str × V)} {f : Str} {p : PV} (hv : EvP tv σ H p) (ho : EvP ta σ H (IsR (.ref o))) (hp : H o = some (.ins C dx fs)) (hc : Cls K C) (hn : NoAttr K C f) (hl : fs.length < 1000)
    (k : ∀ y H1 H2, Ex H H1 → p H1 y → Ex H1 H2 → D.nx σ (upd H2 o (.ins C dx (putF f y fs)))) : sFld K ta tv f D σ H :=
  hv H (Ex.refl _) _ fun y H1 e1 hy => ho H1 e1 _ fun x H2 e2 hx => ⟨o, C, dx, fs, hx, e2 _ _ (e1 _ _ hp), hc, hn, hl, k y H1 H2 e1 hy e2⟩
theorem tp_ins {H : Hp} {a C dx : Addr} {fs : List (Str × V)} {o : HO} (h : H a = some (.ins C dx fs)) : Tp H (upd H a o) := tp_upd fun ob ys e => by rw [h] at e; cases e
theorem pf1 (v : V) : putF "many" v [] = [(("many" : Str), v)] := rfl
theorem pf2 (a v : V) : putF "whole" v [(("many" : Str), a)] = [(("many" : Str), a), ("whole", v)] := by
  show (if ("many" : Str) = "whole" then _ else _) = _
  rw [if_neg (by decide +kernel)]; rfl
theorem pf3 (a b v : V) : putF "inside" v [(("many" : Str), a), ("whole", b)] = [(("many" : Str), a), ("whole", b), ("inside", v)] := by
  show (if ("many" : Str) = "inside" then _ else _ :: (if ("whole" : Str) = "inside" then _ else _)) = _
  rw [if_neg (by decide +kernel), if_neg (by decide +kernel)]; rfl
theorem pf4 (a b c v : V) : putF "known" v [(("many" : Str), a), ("whole", b), ("inside", c)] = [(("many" : Str), a), ("whole", b), ("inside", c), ("known", v)] := by
  show (if ("many" : Str) = "known" then _ else _ :: (if ("whole" : Str) = "known" then _ else _ :: (if ("inside" : Str) = "known" then _ else _))) = _
  rw [if_neg (by decide +kernel), if_neg (by decide +kernel), if_neg (by decide +kernel)]; rfl
theorem pf5 (a b c d v : V) : putF "gone" v [(("many" : Str), a), ("whole", b), ("inside", c), ("known", d)] = [(("many" : Str), a), ("whole", b), ("inside", c), ("known", d), ("gone", v)] := by
  show (if ("many" : Str) = "gone" then _ else _ :: (if ("whole" : Str) = "gone" then _ else _ :: (if ("inside" : Str) = "gone" then _ else _ :: (if ("known" : Str) = "gone" then _ else _)))) = _
  rw [if_neg (by decide +kernel), if_neg (by decide +kernel), if_neg (by decide +kernel), if_neg (by decide +kernel)]; rfl
/-- what is new in the maker: all but p is new, p is changed -/
structure Mk0 (H : Hp) (p : Addr) (H' : Hp) : Prop where
  fr : ∀ a o, a ≠ p → H a = some o → H' a = some o
  tp : Tp H H'
theorem Mk0.ex {H H' H'' : Hp} {p : Addr} (h : Mk0 H p H') (e : Ex H' H'') : Mk0 H p H'' := ⟨fun a o n q => e _ _ (h.fr a o n q), h.tp.trans (Tp.of e)⟩
theorem Mk0.set {H H' : Hp} {p C dx : Addr} {fs : List (Str × V)} {o : HO} (h : Mk0 H p H') (hp : H' p = some (.ins C dx fs)) : Mk0 H p (upd H' p o) := ⟨fun a u n q => by rw [upd_ne n]; exact h.fr a u n q, h.tp.trans (tp_ins hp)⟩
theorem Mk0.none {H H' : Hp} {p a : Addr} (h : Mk0 H p H') (n : a ≠ p) (z : H' a = none) : H a = none := by
  cases e : H a with
  | none => rfl
  | some o => rw [h.fr a o n e] at z; cases z
theorem pure_c_init {vs : List V} {H : Hp} {Q : VK} {E : XK} (T : Txt K mg n) (h : sp_c_init P w K n vs H Q E) : t_c_init P w K n E0 { nx := fun _ H' => Q .non H', rt := Q } (start ["self", "edges"] vs) H := by
  obtain ⟨p, dx, N, rfl, hN1, hN4, hp, k⟩ := h
  have q1 : EvT _ (start ["self", "edges"] [.ref p, .int N]) H _ := evt_not (evt_test (ev_chLeLe (ev_int 1) (ev_vi (i := 1) (z := N) rfl) (ev_int 4)))
  have e1 : (!(decide ((1 : Int) ≤ N) && decide ((N : Int) ≤ 4))) = false := by
    rw [decide_eq_true (by omega), decide_eq_true (by omega)]; rfl
  rw [e1] at q1
  refine s_ifF q1 fun H0 f0 => ?_
  have hp0 := f0 _ _ hp
  show tSeq _ _ _ [some (.ref p), some (.int N)] H0
  refine s_seq (s_fld (p := Is (.int N)) (ev_vi rfl) (ev_ref rfl) hp0 T.cl T.f_many (by decide) fun y H1 H2 g1 hy g2 => ?_)
  have hy := isInt_get hy
  subst hy
  rw [pf1]
  have m2 : Mk0 H p (upd H2 p (.ins n.cube dx [(("many" : Str), .int N)])) := (Mk0.ex ⟨fun a o _ q => q, Tp.refl H⟩ (f0.trans (g1.trans g2))).set (g2 _ _ (g1 _ _ hp0))
  have hp2 : (upd H2 p (.ins n.cube dx [(("many" : Str), .int N)])) p = some (.ins n.cube dx [(("many" : Str), .int N)]) := upd_same
  generalize upd H2 p (.ins n.cube dx [(("many" : Str), .int N)]) = H3 at m2 hp2
  refine s_seq (s_fld (p := Is (dT (rng N))) (ev_tupRg (ev_vi rfl) (by omega)) (ev_ref rfl) hp2 T.cl T.f_whole (by show 1 < 1000; decide) fun y H4 H5 g4 hy g5 => ?_)
  obtain ⟨wq, rfl, _⟩ := isT_get hy
  rw [pf2]
  have hy5 := IsD.mono (Tp.of g5) hy
  have hp5 := g5 _ _ (g4 _ _ hp2)
  have m5 := (m2.ex (g4.trans g5)).set (o := .ins n.cube dx [(("many" : Str), .int N), ("whole", .ref wq)]) hp5
  have hy6 := IsD.mono (tp_ins (o := .ins n.cube dx [(("many" : Str), .int N), ("whole", .ref wq)]) hp5) hy5
  have hp6 : (upd H5 p (.ins n.cube dx [(("many" : Str), .int N), ("whole", .ref wq)])) p = some (.ins n.cube dx [(("many" : Str), .int N), ("whole", .ref wq)]) := upd_same
  generalize upd H5 p (.ins n.cube dx [(("many" : Str), .int N), ("whole", .ref wq)]) = H6 at m5 hp6 hy6
  -- inside
  refine s_seq fun iA niA => ?_
  have npi : p ≠ iA := ne_of_none hp6 niA
  refine ⟨_, rfl, p, n.cube, dx, _, rfl, (by rw [upd_ne npi]; exact hp6), T.cl, T.f_inside, (by show 2 < 1000; decide), ?_⟩
  rw [pf3]
  have g7 : Ex H6 (upd H6 iA (KDO P w iA [])) := Ex.new niA
  have hp7 := g7 _ _ hp6
  have hi7 : (upd H6 iA (KDO P w iA [])) iA = some (KDO P w iA []) := upd_same
  have nz6 : H iA = none := m5.none npi.symm niA
  have m7 := m5.ex g7
  have hy7 := IsD.mono (Tp.of g7) hy6
  generalize upd H6 iA (KDO P w iA []) = H7 at g7 hp7 hi7 m7 hy7
  have m8 := m7.set (o := .ins n.cube dx [(("many" : Str), .int N), ("whole", .ref wq), ("inside", .ref iA)]) hp7
  have hy8 := IsD.mono (tp_ins (o := .ins n.cube dx [(("many" : Str), .int N), ("whole", .ref wq), ("inside", .ref iA)]) hp7) hy7
  have hp8 : (upd H7 p (.ins n.cube dx [(("many" : Str), .int N), ("whole", .ref wq), ("inside", .ref iA)])) p = some (.ins n.cube dx [(("many" : Str), .int N), ("whole", .ref wq), ("inside", .ref iA)]) := upd_same
  have hi8 : (upd H7 p (.ins n.cube dx [(("many" : Str), .int N), ("whole", .ref wq), ("inside", .ref iA)])) iA = some (KDO P w iA []) := by rw [upd_ne npi.symm]; exact hi7
  generalize upd H7 p (.ins n.cube dx [(("many" : Str), .int N), ("whole", .ref wq), ("inside", .ref iA)]) = H8 at m8 hp8 hi8 hy8
  -- known
  refine s_seq fun kA nkA => ?_
  have npk : p ≠ kA := ne_of_none hp8 nkA
  have nik : iA ≠ kA := ne_of_none hi8 nkA
  have nzk : H kA = none := m8.none npk.symm nkA
  have g9 : Ex H8 (upd H8 kA (KDO P w kA [])) := Ex.new nkA
  have hk9 : (upd H8 kA (KDO P w kA [])) kA = some (KDO P w kA []) := upd_same
  have hp9 := g9 _ _ hp8
  have hi9 := g9 _ _ hi8
  have m9 := m8.ex g9
  have hy9 := IsD.mono (Tp.of g9) hy8
  generalize upd H8 kA (KDO P w kA []) = H9 at g9 hk9 hp9 hi9 m9 hy9
  refine ⟨_, rfl, p, n.cube, dx, _, .ref wq, rfl, hp9, T.cl, T.f_whole, rfl, fun tA ntA => ?_⟩
  have npt : p ≠ tA := ne_of_none hp9 ntA
  have nit : iA ≠ tA := ne_of_none hi9 ntA
  have nkt : kA ≠ tA := ne_of_none hk9 ntA
  have nzt : H tA = none := m9.none npt.symm ntA
  have g10 : Ex H9 (upd H9 tA (KDO P w tA [])) := Ex.new ntA
  have ht10 : (upd H9 tA (KDO P w tA [])) tA = some (KDO P w tA []) := upd_same
  have hk10 := g10 _ _ hk9
  have hp10 := g10 _ _ hp9
  have hi10 := g10 _ _ hi9
  have m10 := m9.ex g10
  have hy10 := IsD.mono (Tp.of g10) hy9
  generalize upd H9 tA (KDO P w tA []) = H10 at g10 ht10 hk10 hp10 hi10 m10 hy10
  refine ⟨wq, encT (rng N), rfl, keyAt_T hy10, hk10, _, rfl, p, n.cube, dx, _, rfl, (by rw [upd_ne npk]; exact hp10), T.cl, T.f_known, (by show 3 < 1000; decide), ?_⟩
  rw [pf4]
  have t11 : Tp H10 (upd H10 kA (KDO P w kA [(encT (rng N), wq, .ref tA)])) := tp_kd hk10
  have hk11 : (upd H10 kA (KDO P w kA [(encT (rng N), wq, .ref tA)])) kA = some (KDO P w kA [(encT (rng N), wq, .ref tA)]) := upd_same
  have hp11 := (upd_ne (H := H10) (a := kA) (o := KDO P w kA [(encT (rng N), wq, V.ref tA)]) npk).trans hp10
  have hi11 := (upd_ne (H := H10) (a := kA) (o := KDO P w kA [(encT (rng N), wq, V.ref tA)]) nik).trans hi10
  have ht11 := (upd_ne (H := H10) (a := kA) (o := KDO P w kA [(encT (rng N), wq, V.ref tA)]) nkt.symm).trans ht10
  have m11 : Mk0 H p (upd H10 kA (KDO P w kA [(encT (rng N), wq, .ref tA)])) := ⟨fun a o na q => by rw [upd_ne (ne_of_none q nzk)]; exact m10.fr a o na q, m10.tp.trans t11⟩
  have hy11 := IsD.mono t11 hy10
  generalize upd H10 kA (KDO P w kA [(encT (rng N), wq, .ref tA)]) = H11 at t11 hk11 hp11 hi11 ht11 m11 hy11
  have m12 := m11.set (o := .ins n.cube dx [(("many" : Str), .int N), ("whole", .ref wq), ("inside", .ref iA), ("known", .ref kA)]) hp11
  have hy12 := IsD.mono (tp_ins (o := .ins n.cube dx [(("many" : Str), .int N), ("whole", .ref wq), ("inside", .ref iA), ("known", .ref kA)]) hp11) hy11
  have hp12 : (upd H11 p (.ins n.cube dx [(("many" : Str), .int N), ("whole", .ref wq), ("inside", .ref iA), ("known", .ref kA)])) p = some (.ins n.cube dx [(("many" : Str), .int N), ("whole", .ref wq), ("inside", .ref iA), ("known", .ref kA)]) := upd_same
  have hi12 := (upd_ne (H := H11) (a := p) (o := .ins n.cube dx [(("many" : Str), .int N), ("whole", .ref wq), ("inside", .ref iA), ("known", .ref kA)]) npi.symm).trans hi11
  have hk12 := (upd_ne (H := H11) (a := p) (o := .ins n.cube dx [(("many" : Str), .int N), ("whole", .ref wq), ("inside", .ref iA), ("known", .ref kA)]) npk.symm).trans hk11
  have ht12 := (upd_ne (H := H11) (a := p) (o := .ins n.cube dx [(("many" : Str), .int N), ("whole", .ref wq), ("inside", .ref iA), ("known", .ref kA)]) npt.symm).trans ht11
  generalize upd H11 p (.ins n.cube dx [(("many" : Str), .int N), ("whole", .ref wq), ("inside", .ref iA), ("known", .ref kA)]) = H12 at m12 hy12 hp12 hi12 hk12 ht12
  -- gone
  refine fun gA ngA => ?_
  have npg : p ≠ gA := ne_of_none hp12 ngA
  have nig : iA ≠ gA := ne_of_none hi12 ngA
  have nkg : kA ≠ gA := ne_of_none hk12 ngA
  have ntg : tA ≠ gA := ne_of_none ht12 ngA
  have nzg : H gA = none := m12.none npg.symm ngA
  have g13 : Ex H12 (upd H12 gA (KDO P w gA [])) := Ex.new ngA
  have hg13 : (upd H12 gA (KDO P w gA [])) gA = some (KDO P w gA []) := upd_same
  have hp13 := g13 _ _ hp12
  have hi13 := g13 _ _ hi12
  have hk13 := g13 _ _ hk12
  have ht13 := g13 _ _ ht12
  have m13 := m12.ex g13
  have hy13 := IsD.mono (Tp.of g13) hy12
  generalize upd H12 gA (KDO P w gA []) = H13 at g13 hg13 hp13 hi13 hk13 ht13 m13 hy13
  refine ⟨_, rfl, p, n.cube, dx, _, rfl, hp13, T.cl, T.f_gone, (by show 4 < 1000; decide), ?_⟩
  rw [pf5]
  have m14 := m13.set (o := .ins n.cube dx [(("many" : Str), .int N), ("whole", .ref wq), ("inside", .ref iA), ("known", .ref kA), ("gone", .ref gA)]) hp13
  have hy14 := IsD.mono (tp_ins (o := .ins n.cube dx [(("many" : Str), .int N), ("whole", .ref wq), ("inside", .ref iA), ("known", .ref kA), ("gone", .ref gA)]) hp13) hy13
  have hp14 : (upd H13 p (.ins n.cube dx [(("many" : Str), .int N), ("whole", .ref wq), ("inside", .ref iA), ("known", .ref kA), ("gone", .ref gA)])) p = some (.ins n.cube dx [(("many" : Str), .int N), ("whole", .ref wq), ("inside", .ref iA), ("known", .ref kA), ("gone", .ref gA)]) := upd_same
  have hi14 := (upd_ne (H := H13) (a := p) (o := .ins n.cube dx [(("many" : Str), .int N), ("whole", .ref wq), ("inside", .ref iA), ("known", .ref kA), ("gone", .ref gA)]) npi.symm).trans hi13
  have hk14 := (upd_ne (H := H13) (a := p) (o := .ins n.cube dx [(("many" : Str), .int N), ("whole", .ref wq), ("inside", .ref iA), ("known", .ref kA), ("gone", .ref gA)]) npk.symm).trans hk13
  have ht14 := (upd_ne (H := H13) (a := p) (o := .ins n.cube dx [(("many" : Str), .int N), ("whole", .ref wq), ("inside", .ref iA), ("known", .ref kA), ("gone", .ref gA)]) npt.symm).trans ht13
  have hg14 := (upd_ne (H := H13) (a := p) (o := .ins n.cube dx [(("many" : Str), .int N), ("whole", .ref wq), ("inside", .ref iA), ("known", .ref kA), ("gone", .ref gA)]) npg.symm).trans hg13
  generalize upd H13 p (.ins n.cube dx [(("many" : Str), .int N), ("whole", .ref wq), ("inside", .ref iA), ("known", .ref kA), ("gone", .ref gA)]) = H14 at m14 hy14 hp14 hi14 hk14 ht14 hg14
  refine k ⟨p, dx, iA, kA, gA, wq, N, [], [(rng N, tA)], []⟩ H14 rfl rfl rfl rfl rfl (fun a ha na => ?_) ⟨fun a o q na => m14.fr a o (by simpa using na) q, m14.tp⟩ ⟨⟨⟨hN1, hN4, (fun r hr => by cases hr), (Nat.zero_le _), fun U hU => ?_, (fun U hU => by cases hU), ?_, List.nodup_nil, (fun U hU z => by cases z), ?_, ?_, (by show 1 ≤ 1000; decide)⟩, hp14, hy14, ⟨_, hk14, .cons ⟨rfl, keyAt_T hy14, rfl⟩ .nil⟩, ⟨_, hg14, .nil⟩⟩, ⟨[], ⟨_, hi14, .nil⟩, List.nodup_nil, fun r => rfl⟩, fun e he => ?_⟩
  · have ha : a ∈ [p, iA, kA, gA, tA] := ha
    simp only [List.mem_cons, List.not_mem_nil, or_false] at ha
    rcases ha with rfl | rfl | rfl | rfl | rfl
    · exact absurd rfl na
    · exact nz6
    · exact nzk
    · exact nzg
    · exact nzt
  · have : U = rng N := by simpa [CS.Ts] using hU
    rw [this]
    exact tab_rng N
  · simp [CS.Ts]
  · simp [CS.Ts]
  · show [p, iA, kA, gA, tA].Nodup
    simp only [List.nodup_cons, List.mem_cons, List.not_mem_nil, or_false, not_or, List.nodup_nil, and_true, not_false_eq_true]
    exact ⟨⟨npi, npk, npg, npt⟩, ⟨nik, nig, nit⟩, ⟨nkg, nkt⟩, ntg.symm⟩
  · have : e = (rng N, tA) := by simpa using he
    subst this
    exact ⟨[], ⟨_, ht14, .nil⟩, Right.nil⟩
end
end KC
end

section
set_option Elab.async false
set_option linter.all false
set_option autoImplicit false
set_option maxRecDepth 100000
set_option maxHeartbeats 4000000
/-! Asking a cube. -/
namespace KC
open PySem L2 PySem.W
open Evl (Ex EvT)
/-! ### sorted(set(ns)) -/
def sset (ns : List Int) : List Int := (nub ns).mergeSort fun a b => decide (a ≤ b)
theorem mem_sset {ns : List Int} {k : Int} : k ∈ sset ns ↔ k ∈ ns := (List.mergeSort_perm _ _).mem_iff.trans mem_nub
theorem asc_unique : ∀ {l m : List Int}, l.Pairwise (· < ·) → m.Pairwise (· < ·) → (∀ k, k ∈ l ↔ k ∈ m) → l = m
  | [], [], _, _, _ => rfl
  | [], y :: m, _, _, h => by have := (h y).mpr List.mem_cons_self; cases this
  | x :: l, [], _, _, h => by have := (h x).mp List.mem_cons_self; cases this
  | x :: l, y :: m, h1, h2, h => by
    rw [List.pairwise_cons] at h1 h2
    have e : x = y := by
      rcases List.mem_cons.mp ((h x).mp List.mem_cons_self) with e | hx
      · exact e
      · rcases List.mem_cons.mp ((h y).mpr List.mem_cons_self) with e | hy
        · exact e.symm
        · have := h1.1 y hy
          have := h2.1 x hx
          omega
    subst e
    rw [asc_unique h1.2 h2.2 fun k => ⟨fun hk => by
      rcases List.mem_cons.mp ((h k).mp (List.mem_cons_of_mem _ hk)) with e | q
      · subst e; have := h1.1 k hk; omega
      · exact q, fun hk => by
      rcases List.mem_cons.mp ((h k).mpr (List.mem_cons_of_mem _ hk)) with e | q
      · subst e; have := h2.1 k hk; omega
      · exact q⟩]
theorem sset_asc (ns : List Int) : (sset ns).Pairwise (· < ·) := by
  have h1 : (sset ns).Pairwise fun a b => decide (a ≤ b) = true := List.pairwise_mergeSort (le := fun a b : Int => decide (a ≤ b)) (fun a b c h1 h2 => by simp only [decide_eq_true_eq] at *; omega) (fun a b => by simp only [Bool.or_eq_true, decide_eq_true_eq]; omega) _
  have h2 : (sset ns).Nodup := (List.mergeSort_perm _ _).nodup_iff.mpr (nd_nub ns)
  exact List.Pairwise.imp₂ (fun a b q z => by
    have q := of_decide_eq_true q
    have z : a ≠ b := z
    omega) h1 h2
theorem sset_of {ns ms : List Int} (h1 : ms.Pairwise (· < ·)) (h2 : ∀ k, k ∈ ms ↔ k ∈ ns) : ms = sset ns := asc_unique h1 (sset_asc ns) fun k => (h2 k).trans mem_sset.symm
section
variable {P : Program} {w : World} {K : PySem.W.Frag} {mg : Str → Option Value} {n : Nm}
theorem evf_sset {te : TE} {σ : L2.St} {H : Hp} {ns : List Int} (h : EvP te σ H (IsL K (dI ns))) (hz : ns.length ≤ 40) : EvF (tCB (rSortU w K) (tCons (tCB (rSetC P w K) (tCons te tNil)) tNil)) σ H (dI (sset ns)) := fun H1 e Q k =>
  h H1 e _ fun v H2 e2 ⟨a, xs, ev, hl, hs⟩ => by
    subst ev
    have := ints_of_isDs hs
    subst this
    refine .inl ⟨a, ns, rfl, .inl hl, by omega, fun b c hb hc => ?_⟩
    refine .inr (.inr ⟨b, _, c, rfl, upd_same, by omega, fun ms p h1 h2 _ hp => ?_⟩)
    have e3 : ms = sset ns := sset_of h1 fun j => (h2 j).trans (by simp)
    subst e3
    have n1 : H2 p = none := Evl.fresh_back (Ex.new hb) hp
    exact k p _ _ (Evl.fresh_back e2 n1) ((e2.trans (Ex.new hb)).trans (Ex.new hp)) upd_same (isDs_ints _)
theorem ev_edges {te : TE} {σ : L2.St} {H : Hp} {F : List (Int × Int)} {i j : Nat} (h : EvP te σ H (IsSq K (F.map fixD))) (hz : F.length ≤ 40) (hw : ∀ v1 v2, wipe (((wipe σ [i, j]).set i (some v1)).set j (some v2)) [i, j] = wipe σ [i, j]) (hi : ∀ v1 v2, (((wipe σ [i, j]).set i (some v1)).set j (some v2))[i]? = some (some v1)) :
    EvF (tLc (iAny P w K te) (gTup K 2 (gCons (gName i) (gCons (gName j) gNil))) tYes (tVar i) [i, j]) σ H (dI (F.map (·.1))) := by
  have h1 := evf_lc (P := P) (w := w) (K := K) (g := gTup K 2 (gCons (gName i) (gCons (gName j) gNil))) (tt := tYes) (te := tVar i) (vs := [i, j]) (σ := σ) (H := H) (tl := te) fixD (fun _ => true) (fun f => .int f.1) F h (line1000 (by omega))
    fun x hx v H' e hv => turn_tup2 hv hw fun v1 v2 q1 q2 => ⟨evt_yes, fun _ => ev_var (p := Is (.int x.1)) (hi v1 v2) q1⟩
  rw [filter_all] at h1
  have e : F.map (fun f => PyData.int f.1) = dI (F.map (·.1)) := by
    show _ = ((F.map (·.1))).map PyData.int
    rw [List.map_map]; rfl
  rw [e] at h1
  exact h1
theorem pure_need_fixed {vs : List V} {H : Hp} {Q : VK} {E : XK} (T : Txt K mg n) (h : sp_need_fixed P w K n vs H Q E) : t_need_fixed P w K n E0 { nx := fun _ H' => Q .non H', rt := Q } (start ["cube", "fixed", "need", "edge", "value"] vs) H := by
  obtain ⟨S, f, F, rfl, hc, hf, ⟨hp, hb⟩, hl, k⟩ := h
  refine s_asgF (ev_edges (P := P) (w := w) (K := K) (ev_var (v := f) rfl hf) hl (fun _ _ => rfl) fun _ _ => rfl) fun a xs H1 na e1 ha hx => ?_
  have c1 := hc.ex e1
  show tIfS _ _ _ _ [some (.ref S.p), some f, some (.ref a), none, none] H1
  have hL : IsL K (dI (F.map (·.1))) H1 (.ref a) := isL_at ha hx
  have g2 : EvP (tVar 2) [some (.ref S.p), some f, some (.ref a), none, none] H1 (IsL K (dI (F.map (·.1)))) := ev_var rfl hL
  have l1 := evf_lc (P := P) (w := w) (K := K) (g := gName 3) (tt := tNot (tTest (tChain rLeI rLtI (tC (.int 0)) (tVar 3) (tFld K (tVar 0) "many")))) (te := tVar 3) (vs := [3]) (σ := [some (.ref S.p), some f, some (.ref a), none, none]) (H := H1) (tl := tVar 2) PyData.int (fun x => !(decide (0 ≤ x) && decide (x < (S.n : Int)))) PyData.int (F.map (·.1)) g2.sq (line1000 (by rw [List.length_map]; omega))
    fun x hx u H' e hu => turn_id (by show 3 < 5; decide) hu (evt_not (evt_test (ev_chLeLt (ev_int 0) (ev_var (p := Is (.int x)) (v := u) rfl hu) (ev_many T (S := S) (te := tVar 0) (ev_ref rfl) (c1.ex e).sk))))
  have e2 : (F.map (·.1)).filter (fun x => !(decide (0 ≤ x) && decide (x < (S.n : Int)))) = [] := List.filter_eq_nil_iff.mpr fun x hx => by
    have := hb x hx
    simp [this.1, this.2]
  rw [e2] at l1
  have q1 := evt_test (ev_neNil (l1.l (K := K)) (by exact sh_nil))
  have ess : sset (F.map (·.1)) = F.map (·.1) := (sset_of hp fun _ => Iff.rfl).symm
  have s1 := evf_sset (P := P) (w := w) (K := K) g2 (by rw [List.length_map]; exact hl)
  rw [ess] at s1
  have q2 := evt_test (ev_neDp (K := K) (s1.l (K := K)) g2 (fun _ _ h => isL_dp h) (fun _ _ h => isL_dp h) sh_ints sh_ints)
  have e3 : PyData.eqv (.list (dI (F.map (·.1)))) (.list (dI (F.map (·.1)))) = true := by
    rw [PyData.eqv, eqvAll_ints]
    simp
  rw [e3] at q2
  exact s_if (evt_or q1 fun _ => q2) (fun z => by cases z) fun _ H2 f2 => k H2 (e1.trans f2)
theorem evf_listOf {te : TE} {σ : L2.St} {H : Hp} {ds : List PyData} (h : EvP te σ H (IsSq K ds)) : EvF (tCB (rListOf K) (tCons te tNil)) σ H ds := fun H1 e Q k =>
  h H1 e _ fun v H2 e2 ⟨a, xs, ev, hq, hs⟩ => by
    subst ev
    exact ⟨a, xs, rfl, hq, fun l hl => k l xs _ (Evl.fresh_back e2 hl) (e2.trans (Ex.new hl)) upd_same (hs.mono (Tp.of (Ex.new hl)))⟩
theorem sset_len (ns : List Int) : (sset ns).length ≤ ns.length := by
  unfold sset
  rw [List.length_mergeSort]
  exact nub_le ns
theorem pure_wanted {vs : List V} {H : Hp} {Q : VK} {E : XK} (T : Txt K mg n) (h : sp_wanted P w K n vs H Q E) : t_wanted P w K n E0 { nx := fun _ H' => Q .non H', rt := Q } (start ["table", "fixed", "edge", "value"] vs) H := by
  obtain ⟨t, f, L, F, rfl, ht, hf, hl, hF, k⟩ := h
  have h1 := evf_listOf (K := K) (te := tVar 0) (σ := start ["table", "fixed", "edge", "value"] [t, f]) (H := H) (ev_var (p := Is (dT L)) rfl ht).tq
  have h2 := ev_edges (P := P) (w := w) (K := K) (te := tVar 1) (σ := start ["table", "fixed", "edge", "value"] [t, f]) (H := H) (i := 2) (j := 3) (ev_var (v := f) rfl hf) (by omega) (fun _ _ => rfl) fun _ _ => rfl
  have h3 := evf_cat (K := K) h1.m h2 (by rw [List.length_map, List.length_map, List.length_map]; omega)
  have e : dI L ++ dI (F.map (·.1)) = dI (L ++ F.map (·.1)) := (List.map_append).symm
  rw [e] at h3
  have h4 := evf_sset (P := P) (w := w) (K := K) (h3.l (K := K)) (by rw [List.length_append, List.length_map]; omega)
  refine s_ret (p := Is (dT (sset (L ++ F.map (·.1))))) (ev_tupOf (h4.l (K := K))) fun v H' e hv => k v _ H' e hv (fun j => mem_sset.trans List.mem_append) ?_
  have := sset_len (L ++ F.map (·.1))
  rw [List.length_append, List.length_map] at this
  omega
theorem all_congr' {α : Type} {l : List α} {p q : α → Bool} (h : ∀ x ∈ l, p x = q x) : l.all p = l.all q := by
  induction l with
  | nil => rfl
  | cons x l ih => rw [List.all_cons, List.all_cons, h x List.mem_cons_self, ih fun y hy => h y (List.mem_cons_of_mem _ hy)]
/-- whether a row of the road's table fits what is fixed -/
def fitR (R : List Int) (F : List (Int × Int)) (k : List Int) : Bool := F.all fun f => decide (k.getD (R.idxOf f.1) 0 = f.2)
theorem fit_bag (B : List (List Int × Int)) {R : List Int} {F : List (Int × Int)} (h : sub (F.map (·.1)) R = true) : (bag B R).filter (fun r => fitR R F r.1) = bag (B.filter (mat F)) R := by
  unfold bag
  rw [List.filter_map]
  congr 1
  refine List.filter_congr fun r _ => ?_
  show fitR R F (prj r.1 R) = mat F r
  unfold fitR mat
  refine all_congr' fun f hf => ?_
  have hm := sub_mem h f.1 (List.mem_map.mpr ⟨f, hf, rfl⟩)
  have h1 : R.idxOf f.1 < R.length := List.idxOf_lt_length_iff.mpr hm
  have : (prj r.1 R).getD (R.idxOf f.1) 0 = r.1.getD f.1.toNat 0 := by
    unfold prj
    rw [List.getD_eq_getElem?_getD, List.getElem?_map, List.getElem?_eq_getElem h1, List.getElem_idxOf]
    rfl
  rw [this]
/-- [place for place, value in places if values[place] != value] == [] -/
theorem ev_fit {σ : L2.St} {H : Hp} {tp tv : TE} {k : List Int} {R : List Int} {F : List (Int × Int)} {i j : Nat} (h : EvP tp σ H (IsSq K (F.map fun f => fixD ((R.idxOf f.1 : Nat), f.2)))) (hz : F.length ≤ 40) (hR : ∀ f ∈ F, R.idxOf f.1 < k.length)
    (hw : ∀ v1 v2, wipe (((wipe σ [i, j]).set i (some v1)).set j (some v2)) [i, j] = wipe σ [i, j]) (hi : ∀ v1 v2, (((wipe σ [i, j]).set i (some v1)).set j (some v2))[i]? = some (some v1)) (hj : ∀ v1 v2, (((wipe σ [i, j]).set i (some v1)).set j (some v2))[j]? = some (some v2))
    (hv : ∀ v1 v2 H', Ex H H' → EvP tv (((wipe σ [i, j]).set i (some v1)).set j (some v2)) H' (Is (dT k))) :
    EvP (tOp (rEqU P w K) (tLc (iAny P w K tp) (gTup K 2 (gCons (gName i) (gCons (gName j) gNil))) (tTest (tOp (rNeD K) (tOp (rIxU P w K) tv (tVar i)) (tVar j))) (tVar i) [i, j]) (tLst tNil)) σ H (Is (.bool (fitR R F k))) := by
  have h1 := evf_lc (P := P) (w := w) (K := K) (g := gTup K 2 (gCons (gName i) (gCons (gName j) gNil))) (tt := tTest (tOp (rNeD K) (tOp (rIxU P w K) tv (tVar i)) (tVar j))) (te := tVar i) (vs := [i, j]) (σ := σ) (H := H) (tl := tp) (fun f : Int × Int => fixD ((R.idxOf f.1 : Nat), f.2)) (fun f => !decide (k.getD (R.idxOf f.1) 0 = f.2)) (fun f => .int (R.idxOf f.1 : Nat)) F h (line1000 (by omega))
    fun x hx v H' e hvv => turn_tup2 hvv hw fun v1 v2 q1 q2 => ⟨by
      have hk := hR x hx
      have g1 : EvP (tOp (rIxU P w K) tv (tVar i)) (((wipe σ [i, j]).set i (some v1)).set j (some v2)) H' (Is (.int (k.getD (R.idxOf x.1) 0))) := ev_ix (i := R.idxOf x.1) (hv v1 v2 H' e).tq (ev_var (hi v1 v2) q1) (by simp [hk])
      exact evt_test (ev_neI g1 (ev_var (hj v1 v2) q2)), fun _ => ev_var (p := Is _) (hi v1 v2) q1⟩
  have h2 := ev_eqNil (P := P) (w := w) (h1.l (K := K)) (by
    have : ((F.filter fun f => !decide (k.getD (R.idxOf f.1) 0 = f.2)).map fun f => PyData.int (R.idxOf f.1 : Nat)) = (((F.filter fun f => !decide (k.getD (R.idxOf f.1) 0 = f.2)).map fun f => ((R.idxOf f.1 : Nat) : Int))).map PyData.int := by
      rw [List.map_map]; rfl
    rw [this]
    exact sh_ints)
  have h3 : ((F.filter fun f => !decide (k.getD (R.idxOf f.1) 0 = f.2)).map fun f => PyData.int (R.idxOf f.1 : Nat)).isEmpty = fitR R F k := by
    rw [List.isEmpty_map, Bool.eq_iff_iff, List.isEmpty_iff, List.filter_eq_nil_iff]
    unfold fitR
    rw [List.all_eq_true]
    simp
  rw [h3] at h2
  exact h2
theorem filter_take_one {α : Type} (p : α → Bool) (l : List α) {i : Nat} {x : α} (h : l[i]? = some x) : (l.take (i + 1)).filter p = (l.take i).filter p ++ (if p x = true then [x] else []) := by
  rw [List.take_add_one, h, List.filter_append]
  congr 1
  show List.filter p [x] = _
  by_cases q : p x = true
  · rw [List.filter_cons_of_pos q, if_pos q]; rfl
  · rw [List.filter_cons_of_neg q, if_neg q]; rfl
def IsDA (P : Program) (w : World) (m : List (List Int × (Int × Int))) : PV := fun H v => ∃ f, v = .ref f ∧ DAt P w encT vCS H f m
instance (P : Program) (w : World) (m : List (List Int × (Int × Int))) : Mn (IsDA P w m) := ⟨fun e ⟨f, h1, h2⟩ => ⟨f, h1, h2.ex mv_cs e⟩⟩
theorem pure_asked {vs : List V} {H : Hp} {Q : VK} {E : XK} (T : Txt K mg n) (h : sp_asked P w K n vs H Q E) : t_asked P w K n E0 { nx := fun _ H' => Q .non H', rt := Q } (start ["cube", "table", "fixed", "road", "known", "places", "some", "values", "edge", "value", "place"] vs) H := by
  obtain ⟨S, t, f, r, L, R, F, rfl, hc, ht, hf, hr, hL, hFT, hF8, hL8, hRT, hs1, hs2, k⟩ := h
  have hRtab := hc.sk.tab_of hRT
  have hR4 := hRtab.len hc.sk.ok.n4
  refine s_need T (S := S) (L := L) (ev_ref rfl) (ev_var (v := t) rfl ht) hc.sk hL fun H1 e1 => ?_
  have c1 := hc.ex e1
  refine s_drops (p := IsR .non) (ev_call (ps := [IsR (.ref S.p), IsSq K (F.map fixD)]) (eas_cons (ev_ref rfl) (eas_cons (ev_var (v := f) rfl (Mn.mn e1 hf)) eas_nil)) fun vs H2 e2 hv Q q => by
    obtain ⟨v, u, rfl, q1, q2⟩ := als2 hv
    have q1 : v = .ref S.p := q1
    subst q1
    exact ⟨S, u, F, rfl, c1.ex e2, q2, hFT, by omega, fun H3 e3 => q _ H3 e3 rfl⟩) fun _ H2 e2 _ => ?_
  have e12 := e1.trans e2
  refine s_drops (ev_need_kept (v := r) (L := R) rfl (ev_var (v := r) rfl (hr.mono (Tp.of e12))) (hc.ex e12) hRT) fun _ H3 e3 _ => ?_
  have e13 := e12.trans e3
  have c3 := hc.ex e13
  have hr3 := hr.mono (Tp.of e13)
  have ht3 := ht.mono (Tp.of e13)
  have hf3 : IsSq K (F.map fixD) H3 f := Mn.mn e13 hf
  have qW : EvP (tCall (sp_wanted P w K n) [] E0 (tCons (tVar 1) (tCons (tVar 2) tNil))) (start ["cube", "table", "fixed", "road", "known", "places", "some", "values", "edge", "value", "place"] [.ref S.p, t, f, r]) H3 (fun H v => ∃ W, IsD H v (dT W) ∧ wantL L F W ∧ W.length ≤ 1000) :=
    ev_call (ps := [Is (dT L), IsSq K (F.map fixD)]) (eas_cons (ev_var (v := t) rfl ht3) (eas_cons (ev_var (v := f) rfl hf3) eas_nil)) fun vs H4 e4 hv Q q => by
      obtain ⟨v, u, rfl, q1, q2⟩ := als2 hv
      exact ⟨v, u, L, F, rfl, q1, q2, hL8, hF8, fun v W H5 e5 h5 hW hWl => q v H5 e5 ⟨W, h5, hW, hWl⟩⟩
  have : Mn (fun H v => ∃ W, IsD H v (dT W) ∧ wantL L F W ∧ W.length ≤ 1000) := ⟨fun e ⟨W, h1, h2⟩ => ⟨W, h1.mono (Tp.of e), h2⟩⟩
  have qG : EvP (tCall (sp_goes P w K n) [] E0 (tCons (tVar 3) (tCons (tCall (sp_wanted P w K n) [] E0 (tCons (tVar 1) (tCons (tVar 2) tNil))) tNil))) (start ["cube", "table", "fixed", "road", "known", "places", "some", "values", "edge", "value", "place"] [.ref S.p, t, f, r]) H3 (Is (.bool true)) :=
    ev_call (ps := [Is (dT R), fun H v => ∃ W, IsD H v (dT W) ∧ wantL L F W ∧ W.length ≤ 1000]) (eas_cons (ev_var (v := r) rfl hr3) (eas_cons qW eas_nil)) fun vs H4 e4 hv Q q => by
      obtain ⟨v, u, rfl, q1, W, q2, hW, hWl⟩ := als2 hv
      have hsub : sub W R = true := sub_of fun e he => by
        rcases (hW e).mp he with h | h
        · exact sub_mem hs1 e h
        · exact sub_mem hs2 e h
      refine ⟨R, W, v, u, rfl, q1, q2, hWl, fun H5 e5 => ?_⟩
      rw [hsub]
      exact q _ H5 e5 (IsD.bl _)
  refine s_ifF (evt_not (evt_b qG)) fun H4 e4 => ?_
  have e14 := e13.trans e4
  have c4 := hc.ex e14
  have hr4 := hr.mono (Tp.of e14)
  obtain ⟨d, hd1, hd2⟩ := hc.sk.gets hRT
  refine s_asg (ev_cont T (S := S) (ev_ref rfl) (ev_var (v := r) rfl hr4) c4.sk hRT hd1) fun v5 H5 e5 h5 => ?_
  have h5 : v5 = .ref d := h5
  subst h5
  have e15 := e14.trans e5
  have hf5 : IsSq K (F.map fixD) H5 f := Mn.mn e15 hf
  have hr5 := hr.mono (Tp.of e15)
  show tSeq _ _ _ [some (.ref S.p), some t, some f, some r, some (.ref d), none, none, none, none, none, none] H5
  have hpl := evf_lc (P := P) (w := w) (K := K) (g := gTup K 2 (gCons (gName 8) (gCons (gName 9) gNil))) (tt := tYes) (te := tTupF (tCons (tBG P w K "tuple" (rTIx K) (tVar 3) (tCons (tVar 8) tNil)) (tCons (tVar 9) tNil))) (vs := [8, 9])
    (σ := [some (.ref S.p), some t, some f, some r, some (.ref d), none, none, none, none, none, none]) (H := H5) (tl := tVar 2) fixD (fun _ => true) (fun f : Int × Int => fixD ((R.idxOf f.1 : Nat), f.2)) F (ev_var (v := f) rfl hf5) (line1000 (by omega))
    fun x hx v H' e hv => turn_tup2 hv (fun _ _ => rfl) fun v1 v2 q1 q2 => ⟨evt_yes, fun _ => ev_tup (eds_cons (ev_index (ev_var (v := r) rfl (hr5.mono (Tp.of e))) (ev_var (v := v1) rfl q1) (sub_mem hs2 x.1 (List.mem_map.mpr ⟨x, hx, rfl⟩))) (eds_cons (ev_var (v := v2) rfl q2) eds_nil)) (by simp)⟩
  rw [filter_all] at hpl
  refine s_asgF hpl fun a xs H6 na e6 ha hx => ?_
  refine fun sA hsA => ?_
  show tSeq _ _ _ [some (.ref S.p), some t, some f, some r, some (.ref d), some (.ref a), some (.ref sA), none, none, none, none] _
  have e7 : Ex H6 (upd H6 sA (KDO P w sA [])) := Ex.new hsA
  have hsA7 : DAt P w encT vCS (upd H6 sA (KDO P w sA [])) sA [] := dAt_new _ _ _
  have nas : a ≠ sA := ne_of_none ha hsA
  generalize upd H6 sA (KDO P w sA []) = H7 at e7 hsA7
  have e17 := ((e15.trans e6).trans e7)
  have c7 := hc.ex e17
  obtain ⟨m, hm1, hm2⟩ := c7.con _ hd2
  obtain ⟨rows, hrow, hDD⟩ := id hm1
  have hlr : rows.length = m.length := hDD.len
  have hmB := hm2.blen
  have hB := hc.sk.ok.lenB
  have ha7 : H7 a = some (.lst xs) := e7 _ _ ha
  have hx7 := hx.mono (Tp.of e7)
  have nsd : sA ≠ d := fun z => by
    subst z
    obtain ⟨_, ⟨rs, h1, _⟩, _⟩ := (hc.ex (e15.trans e6)).con _ hd2
    have h1 : H6 sA = some (KDO P w sA rs) := h1
    rw [h1] at hsA
    cases hsA
  have nad : a ≠ d := fun z => by
    subst z
    rw [ha7] at hrow
    cases hrow
  refine s_seq (s_forD hrow (fun od H' lk => ev_ref rfl) (fun i σ' H' => ∃ x7 x8 x9 x10, σ' = [some (.ref S.p), some t, some f, some r, some (.ref d), some (.ref a), some (.ref sA), x7, x8, x9, x10] ∧ (∀ b o, b ≠ d → b ≠ sA → H7 b = some o → H' b = some o) ∧ Tp H7 H' ∧ DAt P w encT vCS H' sA ((m.take i).filter fun e => fitR R F e.1))
    (fun od H' e => ⟨none, none, none, none, rfl, fun b o n1 n2 q => e _ _ (by rw [upd_ne n1]; exact q), (tp_kd hrow).trans (Tp.of e), (hsA7.keep mv_cs (tp_kd hrow) (upd_ne nsd)).ex mv_cs e⟩) (fun od i rw' σ' H' hi hlk ⟨x7, x8, x9, x10, hσ, hfr, htp, hDf⟩ D' kn => ?_) fun od σ' H' hlk ⟨x7, x8, x9, x10, hσ, hfr, htp, hDf⟩ => ?_)
  · subst hσ
    obtain ⟨e, he, hre⟩ := paired_at hDD hi
    have hmem := List.mem_of_getElem? he
    have hek : getG m e.1 = some e.2 := getG_of_mem hm2.nd (by rw [show (e.1, e.2) = e from rfl]; exact hmem)
    have hkq : IsD H' (.ref rw'.2.1) (dT e.1) := by
      have := hre.2.1
      rw [hre.1] at this
      exact (this.isT).mono htp
    have hrd : DRd P w encT vCS H' d m := ⟨rows, .inr ⟨od, hlk⟩, hDD.mono mv_cs htp⟩
    show tIfS _ _ _ _ [some (.ref S.p), some t, some f, some r, some (.ref d), some (.ref a), some (.ref sA), some (.ref rw'.2.1), x8, x9, x10] H'
    have hpl' : IsSq K (F.map fun f : Int × Int => fixD ((R.idxOf f.1 : Nat), f.2)) H' (.ref a) := ⟨a, xs, rfl, .inl (.inl (.inl (hfr a _ nad nas ha7))), hx7.mono htp⟩
    have qf := ev_fit (P := P) (w := w) (K := K) (tp := tVar 5) (tv := tVar 7) (σ := [some (.ref S.p), some t, some f, some r, some (.ref d), some (.ref a), some (.ref sA), some (.ref rw'.2.1), x8, x9, x10]) (H := H') (k := e.1) (R := R) (F := F) (i := 10) (j := 9) (ev_var rfl hpl') (by omega) (fun x hx => by
      rw [hm2.klen e hmem]
      exact List.idxOf_lt_length_iff.mpr (sub_mem hs2 x.1 (List.mem_map.mpr ⟨x, hx, rfl⟩))) (fun _ _ => rfl) (fun _ _ => rfl) (fun _ _ => rfl) fun v1 v2 H'' e'' => ev_var (v := .ref rw'.2.1) rfl (hkq.mono (Tp.of e''))
    refine s_if (evt_test qf) (fun z H8 e8 => ?_) fun z H8 e8 => ?_
    · have hnk : e.1 ∉ ((m.take i).filter fun e => fitR R F e.1).map (·.1) := fun z => by
        obtain ⟨y, hy, ey⟩ := List.mem_map.mp z
        have hy := (List.mem_filter.mp hy).1
        have hnd := hm2.nd
        rw [split_at he, List.map_append, List.nodup_append] at hnd
        exact hnd.2.2 y.1 (List.mem_map.mpr ⟨y, hy, rfl⟩) e.1 (by rw [List.map_cons]; exact List.mem_cons_self) ey
      have : Mn (fun H v => vCS H v e.2) := ⟨fun ee hh => mv_cs _ _ _ _ (Tp.of ee) hh⟩
      refine s_setD mv_cs (d := sA) (k := e.1) (x := e.2) (p := fun H v => vCS H v e.2) ((ev_ixD mv_cs (d := d) (k := e.1) (ev_ref rfl) (ev_K (ev_var (v := .ref rw'.2.1) rfl hkq)) hrd hek).mono e8) (ev_ref rfl) (ev_K (ev_var (v := .ref rw'.2.1) rfl (hkq.mono (Tp.of e8)))) (fun _ _ h => h) (hDf.ex mv_cs e8) (by
        refine Nat.le_trans (List.length_filter_le _ _) ?_
        rw [List.length_take]
        omega) fun H9 f9 hD9 => ?_
      refine kn _ _ (f9.1 _ _ (e8 _ _ hlk) (by simpa using nsd.symm)) ⟨_, x8, x9, x10, rfl, fun b o n1 n2 q => f9.1 _ _ (e8 _ _ (hfr b o n1 n2 q)) (by simpa using n2), (htp.trans (Tp.of e8)).trans f9.2, ?_⟩
      rw [filter_take_one _ m he, if_pos z]
      rw [putG_app hnk] at hD9
      exact hD9
    · refine kn _ _ (e8 _ _ hlk) ⟨_, x8, x9, x10, rfl, fun b o n1 n2 q => e8 _ _ (hfr b o n1 n2 q), htp.trans (Tp.of e8), ?_⟩
      rw [filter_take_one _ m he, z]
      simpa using hDf.ex mv_cs e8
  · subst hσ
    rw [hlr, List.take_length] at hDf
    have hk : ∀ b o, b ≠ sA → H7 b = some o → upd H' d (KDO P w d rows) b = some o := fun b o n2 q => by
      by_cases hb : b = d
      · subst hb; rw [upd_same]; exact hrow.symm.trans q
      · rw [upd_ne hb]; exact hfr b o hb n2 q
    have ns0 : H sA = none := Evl.fresh_back (e15.trans e6) hsA
    have e18 : Ex H (upd H' d (KDO P w d rows)) := fun b o q => hk b o (ne_of_none q ns0) (e17 _ _ q)
    have hDs : DAt P w encT vCS (upd H' d (KDO P w d rows)) sA (m.filter fun e => fitR R F e.1) := hDf.keep mv_cs (tp_upd fun ob ys z => by rw [hlk] at z; cases z) (upd_ne nsd)
    generalize upd H' d (KDO P w d rows) = H8 at e18 hDs
    have hRf : Right (m.filter fun e => fitR R F e.1) (bag (S.B.filter (mat F)) R) := by
      rw [← fit_bag S.B hs2]
      exact hm2.filter _
    have hmf : (m.filter fun e => fitR R F e.1).length ≤ 1000 := Nat.le_trans (List.length_filter_le _ _) (by omega)
    have hmm := right_reck hRf hs1
    have qr : EvP (tCall (sp_reckoned P w K n) [] E0 (tCons (tVar 3) (tCons (tVar 6) (tCons (tVar 1) tNil)))) [some (.ref S.p), some t, some f, some r, some (.ref d), some (.ref a), some (.ref sA), x7, x8, x9, x10] H8 (IsDA P w (reck (fun k => prj k (plc R L)) (m.filter fun e => fitR R F e.1) [])) :=
      ev_call (ps := [Is (dT R), IsR (.ref sA), Is (dT L)]) (eas_cons (ev_var (v := r) rfl (hr.mono (Tp.of e18))) (eas_cons (ev_ref rfl) (eas_cons (ev_var (v := t) rfl (ht.mono (Tp.of e18))) eas_nil))) fun vs H9 e9 hv Q q => by
        obtain ⟨u1, u2, u3, rfl, q1, q2, q3⟩ := als3 hv
        have q2 : u2 = .ref sA := q2
        subst q2
        exact ⟨u1, u3, sA, R, L, _, rfl, q1, q3, hDs.ex mv_cs e9, hRf.nd, hRf.klen, hs1, by omega, by omega, by omega, fun g H10 _ e10 hg => q _ H10 e10 ⟨g, rfl, hg⟩⟩
    refine s_retF (evf_call (ps := [IsDA P w (reck (fun k => prj k (plc R L)) (m.filter fun e => fitR R F e.1) [])]) (eas_cons qr eas_nil) fun vs H9 e9 hv Q q => ?_) fun b ys H9 nb e9 hb hy => k _ hmm b ys H9 (Evl.fresh_back e18 nb) (e18.trans e9) hb hy
    obtain ⟨v, rfl, g, rfl, hg⟩ := als1 hv
    exact ⟨g, _, rfl, hg, hmm.nd, by have := hmm.blen; have := List.length_filter_le (mat F) S.B; omega, fun e he => by rw [hmm.klen e he]; omega, q⟩
end
end KC
end

section
set_option Elab.async false
set_option linter.all false
set_option autoImplicit false
set_option maxRecDepth 100000
set_option maxHeartbeats 4000000
/-! The law's own defs: the script's reader, the law's dict, what it draws. -/
namespace KC
open PySem L2 PySem.W
open Evl (Ex EvT)
section
variable {P : Program} {w : World} {K : PySem.W.Frag} {mg : Str → Option Value} {n : Nm}
theorem ixN_nat {l i : Nat} (h : i < l) : ixN l (i : Int) = some i := by
  have h1 := atI_nat (xs := List.range l) (j := i) (v := i) (by simp [h])
  unfold atI at h1
  cases e : ixN l (i : Int) with
  | none => rw [List.length_range, e] at h1; cases h1
  | some j =>
    rw [List.length_range, e] at h1
    have h2 : (List.range l)[j]? = some i := h1
    have h3 : j < l := by
      have := (List.getElem?_eq_some_iff.mp h2).1
      rwa [List.length_range] at this
    rw [List.getElem?_range h3] at h2
    rw [Option.some.inj h2]
theorem g_setL {to : TE} {σ : L2.St} {H : Hp} {p : Addr} {xs : List V} {v : V} {i : Nat} {Q : L2.St → Hp → Prop} (ho : EvP to σ H (IsR (.ref p))) (hp : H p = some (.lst xs)) (hi : i < xs.length) (k : ∀ H1, Ex H H1 → Q σ (upd H1 p (.lst (xs.set i v)))) : gSub to (tC (.int (i : Nat))) (rSetU P w) v σ H Q :=
  ho H (Ex.refl _) _ fun o H1 e1 h1 => .inl ⟨p, xs, i, i, h1, rfl, e1 _ _ hp, ixN_nat hi, k H1 e1⟩
theorem ev_lx {a : TE} {σ : L2.St} {H : Hp} {p : Addr} {xs : List V} {i : Nat} {v : V} (ha : EvP a σ H (IsR (.ref p))) (hp : H p = some (.lst xs)) (hi : xs[i]? = some v) : EvP (tOp (rIxU P w K) a (tC (.int (i : Nat)))) σ H (IsR v) := fun H1 e Q k =>
  ha H1 e _ fun x H2 e2 hx => .inl ⟨p, xs, _, v, hx, rfl, .inl (.inl (e2 _ _ (e _ _ hp))), atI_nat hi, k v H2 e2 rfl⟩
theorem evR_int {te : TE} {σ : L2.St} {H : Hp} {i : Int} (h : EvP te σ H (IsR (.int i))) : EvP te σ H (Is (.int i)) := h.imp fun H v e => by
  have e : v = .int i := e
  subst e
  exact IsD.int i
theorem RowAt.ex {H H' : Hp} {r s : Addr} (e : Ex H H') (h : RowAt K H r s) : RowAt K H' r s := let ⟨p, z, h1, h2, h3, h4, h5⟩ := h; ⟨p, z, e _ _ h1, h2, h3, h4, h5.imp id fun ⟨ns, a, b⟩ => ⟨ns, a, Evl.ex_rd e b⟩⟩
/-- the script, read -/
def Scr (K : PySem.W.Frag) (H : Hp) (s : Addr) : Prop := KS K s ∨ ∃ ns : List Int, ns.length ≤ 63 ∧ Rd H s (.lst (ns.map V.int))
theorem Scr.ex {H H' : Hp} {s : Addr} (e : Ex H H') (h : Scr K H s) : Scr K H' s := h.imp id fun ⟨ns, a, b⟩ => ⟨ns, a, Evl.ex_rd e b⟩
theorem rd_ne {H : Hp} {s D : Addr} {u : HO} (h : Rd H s u) (hD : H D = none) : s ≠ D := fun z => by
  subst z
  rcases h with h | ⟨o, h⟩ <;> rw [h] at hD <;> cases hD
theorem rd_upd {H : Hp} {s D : Addr} {u o : HO} (h : Rd H s u) (n : s ≠ D) : Rd (upd H D o) s u := by
  rcases h with h | ⟨ob, h⟩
  · exact .inl (by rw [upd_ne n]; exact h)
  · exact .inr ⟨ob, by rw [upd_ne n]; exact h⟩
theorem row_ne {H : Hp} {r s D : Addr} (h : RowAt K H r s) (hD : H D = none) : r ≠ D := fun z => by
  subst z
  obtain ⟨p, z, h1, _⟩ := h
  rw [h1] at hD
  cases hD
/-- a place that was new when the reader stood changes -/
theorem RowAt.new {H H' : Hp} {r s D : Addr} {o : HO} (h : RowAt K H r s) (hD : H D = none) (h' : RowAt K H' r s) : RowAt K (upd H' D o) r s := by
  have hr := row_ne h hD
  obtain ⟨p, z, h1, h2, h3, h4, h5⟩ := h'
  refine ⟨p, z, by rw [upd_ne hr]; exact h1, h2, h3, h4, ?_⟩
  obtain ⟨_, _, _, _, _, _, h6⟩ := h
  rcases h6 with h6 | ⟨_, _, h6⟩
  · exact .inl h6
  · rcases h5 with h5 | ⟨ns, h5, h7⟩
    · exact .inl h5
    · exact .inr ⟨ns, h5, rd_upd h7 (rd_ne h6 hD)⟩
theorem scr_row {H : Hp} {r s : Addr} {ys zs : List V} (hr : H r = some (.lst (.ref s :: ys))) (h : Scr K H s) : Scr K (upd H r (.lst zs)) s := by
  rcases h with h | ⟨ns, hl, h⟩
  · exact .inl h
  · refine .inr ⟨ns, hl, rd_upd h fun z => ?_⟩
    subst z
    rcases h with h | ⟨ob, h⟩
    · rw [h] at hr
      cases ns with
      | nil => simp at hr
      | cons y ns => simp at hr
    · rw [h] at hr; simp at hr
theorem Scr.get {H : Hp} {s : Addr} (h : Scr K H s) : ∃ ns : List Int, ns.length ≤ 63 ∧ ∀ H', Ex H H' → SqL K H' s (ns.map V.int) := by
  rcases h with ⟨ns, h1, h2⟩ | ⟨ns, h1, h2⟩
  · exact ⟨ns, h1, fun H' _ => h2 H'⟩
  · exact ⟨ns, h1, fun H' e => .inl (Evl.ex_rd e h2)⟩
theorem s_asgS {te : TE} {g : TG} {σ : L2.St} {H : Hp} {D : Ends} {u : TS} {p : PV} (h : EvP te σ H p) (k : ∀ v H', Ex H H' → p H' v → g v σ H' (u D)) : tSeq (tAsg te g) u D σ H := h H (Ex.refl _) _ fun v H2 e hv => k v H2 e hv
theorem s_row {te to : TE} {σ : L2.St} {H : Hp} {D : Ends} {r s : Addr} {ys : List V} {v : V} {i : Nat} (h : EvP te σ H (IsR v)) (ho : EvP to σ H (IsR (.ref r))) (hr : H r = some (.lst (.ref s :: ys))) (hs : Scr K H s) (hi : i < (V.ref s :: ys).length)
    (k : ∀ H', Fr [r] H H' → H' r = some (.lst ((V.ref s :: ys).set i v)) → Scr K H' s → D.nx σ H') : tAsg te (gSub to (tC (.int (i : Nat))) (rSetU P w)) D σ H :=
  h H (Ex.refl _) _ fun u H1 e1 hu => by
    have hu : u = v := hu
    subst hu
    refine g_setL (ho.mono e1) (e1 _ _ hr) hi fun H2 e2 => ?_
    have e := e1.trans e2
    exact k _ ((Fr.ex e).trans (Fr.set (by simp) (tp_lst (e _ _ hr)))) upd_same (scr_row (e _ _ hr) (hs.ex e))
theorem ev_sqR {te : TE} {σ : L2.St} {H : Hp} {s : Addr} {ns : List Int} (h : EvP te σ H (IsR (.ref s))) (hs : ∀ H', Ex H H' → SqL K H' s (ns.map V.int)) : EvP te σ H (IsSq K (dI ns)) := fun H1 e Q k => h H1 e Q fun v H2 e2 hv => k v H2 e2 ⟨s, _, hv, .inl (hs _ (e.trans e2)), isDs_ints _⟩
theorem evI_R {te : TE} {σ : L2.St} {H : Hp} {i : Int} (h : EvP te σ H (Is (.int i))) : EvP te σ H (IsR (.int i)) := h.imp fun _ _ e => isInt_get e
theorem pure_law_taken {vs : List V} {H : Hp} {Q : VK} {E : XK} (T : Txt K mg n) (h : sp_law_taken P w K n vs H Q E) : t_law_taken P w K n E0 { nx := fun _ H' => Q .non H', rt := Q } (start ["_law_row", "_law_many", "_law_cell"] vs) H := by
  obtain ⟨r, s, m, rfl, ⟨p, z, hr, hp, hz, hz2, hs⟩, hm, k⟩ := h
  have hs : Scr K H s := hs
  show tSeq _ _ _ [some (.ref r), some (.int m), none] H
  refine s_seq (s_row (i := 1) (evI_R (ev_add (evR_int (ev_lx (i := 1) (ev_ref rfl) hr rfl)) (ev_int 1))) (ev_ref rfl) hr hs (by show 1 < 3; decide) fun H1 f1 hr1 hs1 => ?_)
  have hr1 : H1 r = some (.lst [.ref s, .int (p + 1), .int z]) := hr1
  obtain ⟨ns, hl, hns⟩ := hs1.get
  have gs : EvP (tOp (rIxU P w K) (tVar 0) (tC (.int (0 : Nat)))) [some (.ref r), some (.int m), none] H1 (IsSq K (dI ns)) := ev_sqR (ev_lx (i := 0) (ev_ref rfl) hr1 rfl) hns
  have gl := ev_len (P := P) (w := w) (K := K) gs
  rw [List.length_map] at gl
  have g1 : EvP (tOp (rIxU P w K) (tVar 0) (tC (.int (1 : Nat)))) [some (.ref r), some (.int m), none] H1 (Is (.int (p + 1))) := evR_int (ev_lx (i := 1) (ev_ref rfl) hr1 rfl)
  refine s_ifs (evt_test (ev_gt g1 gl)) (fun zc H2 e2 => ?_) fun zc H2 e2 => ?_
  · have hr2 := e2 _ _ hr1
    refine s_seq (s_row (i := 2) (evI_R (ev_mod (ev_add (ev_mul (evR_int (ev_lx (i := 2) (ev_ref rfl) hr2 rfl)) (ev_int 48271) (.inl ⟨by omega, by omega⟩)) (ev_int 11)) (ev_int 2147483647) (by decide))) (ev_ref rfl) hr2 (hs1.ex e2) (by show 2 < 3; decide) fun H3 f3 hr3 hs3 => ?_)
    have hr3 : H3 r = some (.lst [.ref s, .int (p + 1), .int ((z * 48271 + 11) % 2147483647)]) := hr3
    refine s_ret (p := Is (.int (((z * 48271 + 11) % 2147483647) / 7 % m))) (ev_mod (ev_div (evR_int (ev_lx (i := 2) (ev_ref rfl) hr3 rfl)) (ev_int 7) ⟨by decide, by decide⟩) (ev_vi rfl) hm) fun v H4 e4 hv => ?_
    have := isInt_get hv
    subst this
    exact k _ H4 ((f1.trans (Fr.ex e2)).trans (f3.trans (Fr.ex e4))) ⟨p + 1, _, e4 _ _ hr3, by omega, Int.emod_nonneg _ (by decide), Int.emod_lt_of_pos _ (by decide), hs3.ex e4⟩ (Int.emod_nonneg _ (by omega)) (Int.emod_lt_of_pos _ hm)
  · have zc := of_decide_eq_false zc
    have hr2 := e2 _ _ hr1
    have hlt : p.toNat < ns.length := by omega
    have g2 := ev_sub (P := P) (w := w) (g1.mono e2) (ev_int 1)
    have e1' : p + 1 - 1 = ((p.toNat : Nat) : Int) := by omega
    rw [e1'] at g2
    have gc : EvP (tOp (rIxU P w K) (tOp (rIxU P w K) (tVar 0) (tC (.int (0 : Nat)))) (tOp (rMinus P w) (tOp (rIxU P w K) (tVar 0) (tC (.int (1 : Nat)))) (tC (.int 1)))) [some (.ref r), some (.int m), none] H2 (Is (.int ns[p.toNat])) := ev_ix (gs.mono e2) g2 (getT hlt)
    show tSeq _ _ _ [some (.ref r), some (.int m), none] H2
    refine s_asg gc fun v H3 e3 hv => ?_
    have := isInt_get hv
    subst this
    show tSeq _ _ _ [some (.ref r), some (.int m), some (.int ns[p.toNat])] H3
    have hr3 := e3 _ _ hr2
    refine s_seq (s_row (i := 2) (evI_R (ev_mod (ev_add (ev_add (ev_mul (evR_int (ev_lx (i := 2) (ev_ref rfl) hr3 rfl)) (ev_int 48271) (.inl ⟨by omega, by omega⟩)) (ev_vi rfl)) (ev_int 11)) (ev_int 2147483647) (by decide))) (ev_ref rfl) hr3 (hs1.ex (e2.trans e3)) (by show 2 < 3; decide) fun H4 f4 hr4 hs4 => ?_)
    refine s_ret (p := Is (.int (ns[p.toNat] % m))) (ev_mod (ev_vi rfl) (ev_vi rfl) hm) fun v H5 e5 hv => ?_
    have := isInt_get hv
    subst this
    exact k _ H5 ((f1.trans (Fr.ex (e2.trans e3))).trans (f4.trans (Fr.ex e5))) ⟨p + 1, _, e5 _ _ hr4, by omega, Int.emod_nonneg _ (by decide), Int.emod_lt_of_pos _ (by decide), hs4.ex e5⟩ (Int.emod_nonneg _ (by omega)) (Int.emod_lt_of_pos _ hm)
/-! ### draws -/
theorem x_taken {E : XK} {σ : L2.St} {H : Hp} {r s : Addr} {m : Int} {to te : TE} {Q : VK} (hr : RowAt K H r s) (ho : EvP to σ H (IsR (.ref r))) (hm : EvP te σ H (Is (.int m))) (h0 : 0 < m) (k : ∀ i H', Fr [r] H H' → RowAt K H' r s → 0 ≤ i → i < m → Q (.int i) H') :
    tCall (sp_law_taken P w K n) [] E (tCons to (tCons te tNil)) σ H Q :=
  x_call (ps := [IsR (.ref r), Is (.int m)]) (eas_cons ho (eas_cons hm eas_nil)) fun vs H1 e1 hv => by
    obtain ⟨u, v, rfl, q1, q2⟩ := als2 hv
    have q1 : u = .ref r := q1
    have q2 := isInt_get q2
    subst q1 q2
    exact ⟨r, s, m, rfl, hr.ex e1, h0, fun i H' f hR h1 h2 => k i H' ((Fr.ex e1).trans f) hR h1 h2⟩
theorem vm_edges (M : MS) : valV (mkv M) (.inr "edges") = some (.int M.n) := by rfl
theorem vm_wide (M : MS) : valV (mkv M) (.inr "wide") = some (.int M.wd) := by rfl
theorem vm_rows (M : MS) : valV (mkv M) (.inr "rows") = some (.ref M.rA) := by rfl
theorem vm_kept (M : MS) : valV (mkv M) (.inr "kept") = some (.ref M.kA) := by rfl
theorem ev_md {td : TE} {σ : L2.St} {H : Hp} {d : Addr} {kvs : List (Key × V)} {x : Str} {v : V} (h : EvP td σ H (IsR (.ref d))) (hd : H d = some (.dK kvs)) (hv : valV kvs (.inr x) = some v) : EvP (tDGet td (tC (.str x))) σ H (IsR v) := fun H1 e Q k =>
  h H1 e _ fun u H2 e2 hu => ⟨d, v, hu, by
    have := DGet.k (k := (Sum.inr x : Key)) (e2 _ _ (e _ _ hd))
    rw [hv] at this
    exact this, k v H2 e2 rfl⟩
theorem ev_medges {td : TE} {σ : L2.St} {H : Hp} {M : MS} (h : EvP td σ H (IsR (.ref M.p))) (hM : H M.p = some (.dK (mkv M))) : EvP (tDGet td (tC (.str "edges"))) σ H (Is (.int M.n)) := evR_int (ev_md h hM (vm_edges M))
theorem ev_mwide {td : TE} {σ : L2.St} {H : Hp} {M : MS} (h : EvP td σ H (IsR (.ref M.p))) (hM : H M.p = some (.dK (mkv M))) : EvP (tDGet td (tC (.str "wide"))) σ H (Is (.int M.wd)) := evR_int (ev_md h hM (vm_wide M))
theorem ev_mrows {td : TE} {σ : L2.St} {H : Hp} {M : MS} (h : EvP td σ H (IsR (.ref M.p))) (hM : H M.p = some (.dK (mkv M))) : EvP (tDGet td (tC (.str "rows"))) σ H (IsR (.ref M.rA)) := ev_md h hM (vm_rows M)
theorem ev_mkept {td : TE} {σ : L2.St} {H : Hp} {M : MS} (h : EvP td σ H (IsR (.ref M.p))) (hM : H M.p = some (.dK (mkv M))) : EvP (tDGet td (tC (.str "kept"))) σ H (IsR (.ref M.kA)) := ev_md h hM (vm_kept M)
theorem MAt.ex {H H' : Hp} {M : MS} (e : Ex H H') (h : MAt P w H M) : MAt P w H' M := { h with ob := e _ _ h.ob, rl := (let ⟨xs, h1, h2⟩ := h.rl; ⟨xs, e _ _ h1, h2.mono (Tp.of e)⟩), kn := h.kn.ex mv_bl e }
theorem MAt.fr {H H' : Hp} {M : MS} {L : List Addr} (f : Fr L H H') (hn : ∀ a ∈ M.foot, a ∉ L) (h : MAt P w H M) : MAt P w H' M :=
  { h with ob := f.1 _ _ h.ob (hn _ (by simp [MS.foot])), rl := (let ⟨xs, h1, h2⟩ := h.rl; ⟨xs, f.1 _ _ h1 (hn _ (by simp [MS.foot])), h2.mono f.2⟩), kn := h.kn.fr mv_bl f (hn _ (by simp [MS.foot])) }
theorem merge4 (a b c d : V) : mergeK [] [((.inr "edges" : Key), a), (.inr "wide", b), (.inr "rows", c), (.inr "kept", d)] = [((.inr "edges" : Key), a), (.inr "wide", b), (.inr "rows", c), (.inr "kept", d)] := by rfl
theorem pure_law_fresh {vs : List V} {H : Hp} {Q : VK} {E : XK} (T : Txt K mg n) (h : sp_law_fresh P w K n vs H Q E) : t_law_fresh P w K n E0 { nx := fun _ H' => Q .non H', rt := Q } (start ["_law_row", "_law_most"] vs) H := by
  obtain ⟨r, s, N, rfl, hR, hN1, hN4, k⟩ := h
  refine fun p hp => ?_
  show tOp (rPlus K) _ _ _ _ _
  have e0 : Ex H (upd H p (.dK [])) := Ex.new hp
  have hp0 : (upd H p (.dK [])) p = some (.dK []) := upd_same
  have hrp : r ≠ p := row_ne hR hp
  have hR0 := hR.ex e0
  generalize upd H p (.dK []) = H0 at e0 hp0 hR0
  refine (ev_int 1) H0 (Ex.refl _) _ fun v1 H1 e1 hv1 => ?_
  have := isInt_get hv1
  subst this
  refine x_taken (hR0.ex e1) (ev_ref rfl) (ev_vi rfl) (by omega) fun i H2 f2 hR2 hi0 hi1 => ?_
  refine .inl ⟨1, i, rfl, rfl, ?_⟩
  show tOp (rIxU P w K) _ _ _ _ _
  have hp2 : H2 p = some (.dK []) := f2.1 _ _ (e1 _ _ hp0) (by simpa using hrp.symm)
  -- wide
  refine (evf_lst (ds := [.int 2, .int 3, .int 100]) (eds_cons (ev_int 2) (eds_cons (ev_int 3) (eds_cons (ev_int 100) eds_nil))) (by decide)) H2 (Ex.refl _) _ fun a xs H3 na e3 ha hx => ?_
  refine x_taken (hR2.ex e3) (ev_ref rfl) (ev_int 3) (by decide) fun j H4 f4 hR4 hj0 hj1 => ?_
  have har : a ≠ r := (row_ne hR2 na).symm
  have ha4 : H4 a = some (.lst xs) := f4.1 _ _ ha (by simpa using har)
  have hx' : xs = [V.int 2, V.int 3, V.int 100] := ints_of_isDs (T := [2, 3, 100]) hx
  subst hx'
  obtain ⟨wd, hw1, hw2, hwj⟩ : ∃ wd : Nat, 1 ≤ wd ∧ wd ≤ 100 ∧ ([V.int 2, V.int 3, V.int 100] : List V)[j.toNat]? = some (.int wd) := by
    have : j.toNat = 0 ∨ j.toNat = 1 ∨ j.toNat = 2 := by omega
    rcases this with e | e | e <;> rw [e]
    · exact ⟨2, by decide, by decide, rfl⟩
    · exact ⟨3, by decide, by decide, rfl⟩
    · exact ⟨100, by decide, by decide, rfl⟩
  have ej : j = ((j.toNat : Nat) : Int) := by omega
  refine .inl ⟨a, _, j, .int wd, rfl, rfl, .inl (.inl ha4), by rw [ej]; exact atI_nat hwj, ?_⟩
  have hp4 : H4 p = some (.dK []) := f4.1 _ _ (e3 _ _ hp2) (by simpa using hrp.symm)
  -- rows, kept
  refine ⟨Nat.zero_le _, fun rA nrA => ?_⟩
  have e5 : Ex H4 (upd H4 rA (.lst [])) := Ex.new nrA
  have hr5 : (upd H4 rA (.lst [])) rA = some (.lst []) := upd_same
  have npr : p ≠ rA := ne_of_none hp4 nrA
  generalize upd H4 rA (.lst []) = H5 at e5 hr5
  refine fun kA nkA => ?_
  have e6 : Ex H5 (upd H5 kA (KDO P w kA [])) := Ex.new nkA
  have hk6 : (upd H5 kA (KDO P w kA [])) kA = some (KDO P w kA []) := upd_same
  have hp5 := e5 _ _ hp4
  have npk : p ≠ kA := ne_of_none hp5 nkA
  have nrk : rA ≠ kA := ne_of_none hr5 nkA
  generalize upd H5 kA (KDO P w kA []) = H6 at e6 hk6
  have hp6 := e6 _ _ hp5
  have hr6 := e6 _ _ hr5
  have f6 : Fr [r] H H6 := ((((Fr.ex (e0.trans e1)).trans f2).trans (Fr.ex e3)).trans f4).trans (Fr.ex (e5.trans e6))
  refine ⟨hp6, [((.inr "edges" : Key), .int (1 + i)), (.inr "wide", .int wd), (.inr "rows", .ref rA), (.inr "kept", .ref kA)], rfl, (show 4 ≤ 15 by decide), ?_⟩
  rw [merge4]
  have t7 : Tp H6 (upd H6 p (.dK [((.inr "edges" : Key), .int (1 + i)), (.inr "wide", .int wd), (.inr "rows", .ref rA), (.inr "kept", .ref kA)])) := tp_upd fun ob ys z => by rw [hp6] at z; cases z
  have ei : (1 + i) = ((i.toNat + 1 : Nat) : Int) := by omega
  rw [ei] at t7 ⊢
  have nzr : H rA = none := by
    cases z : H rA with
    | none => rfl
    | some o =>
      by_cases y : rA = r
      · exact absurd y (row_ne hR4 nrA).symm
      · have := f4.1 _ _ (e3 _ _ (f2.1 _ _ (e1 _ _ (e0 _ _ z)) (by simpa using y))) (by simpa using y)
        rw [this] at nrA
        cases nrA
  have nzk : H kA = none := by
    cases z : H kA with
    | none => rfl
    | some o =>
      by_cases y : kA = r
      · exact absurd y (row_ne (hR4.ex e5) nkA).symm
      · have := e5 _ _ (f4.1 _ _ (e3 _ _ (f2.1 _ _ (e1 _ _ (e0 _ _ z)) (by simpa using y))) (by simpa using y))
        rw [this] at nkA
        cases nkA
  refine k ⟨p, rA, kA, i.toNat + 1, wd, [], []⟩ _ (fun b hb => ?_) rfl rfl (by show i.toNat + 1 ≤ N; omega) (f6.new hp t7) ?_ ?_
  · have hb : b ∈ [p, rA, kA] := hb
    simp only [List.mem_cons, List.not_mem_nil, or_false] at hb
    rcases hb with rfl | rfl | rfl
    · exact hp
    · exact nzr
    · exact nzk
  · exact hR.new hp ((hR4.ex e5).ex e6)
  · refine ⟨(by show 1 ≤ i.toNat + 1; omega), (by show i.toNat + 1 ≤ 4; omega), hw1, hw2, upd_same, ⟨[], ?_, .nil⟩, ⟨[], ?_, .nil⟩, ?_, (fun r hr => by cases hr), Nat.zero_le _, (fun U hU => by cases hU), List.nodup_nil, (fun z => by cases z), Nat.zero_le _⟩
    · exact (upd_ne npr.symm).trans hr6
    · exact (upd_ne npk.symm).trans hk6
    · show [p, rA, kA].Nodup
      simp only [List.nodup_cons, List.mem_cons, List.not_mem_nil, or_false, not_or, List.nodup_nil, and_true, not_false_eq_true]
      exact ⟨⟨npr, npk⟩, nrk⟩
end
end KC
end

section
set_option Elab.async false
set_option linter.all false
set_option autoImplicit false
set_option maxRecDepth 100000
set_option maxHeartbeats 4000000
/-! What the law draws, and what it counts by itself. -/
namespace KC
open PySem L2 PySem.W
open Evl (Ex EvT)
section
variable {P : Program} {w : World} {K : PySem.W.Frag} {mg : Str → Option Value} {n : Nm}
theorem if_t {a b : Prop} (h : a) : if true = true then a else b := by rw [if_pos rfl]; exact h
theorem line0 : (1000 : Nat) < sizeLine := by decide
theorem pure_law_table {vs : List V} {H : Hp} {Q : VK} {E : XK} (T : Txt K mg n) (h : sp_law_table P w K n vs H Q E) : t_law_table P w K n E0 { nx := fun _ H' => Q .non H', rt := Q } (start ["_law_row", "_law_m", "_law_edge"] vs) H := by
  obtain ⟨r, s, M, rfl, hR, hM, hrM, k⟩ := h
  refine (ev_medges (M := M) (ev_ref rfl) hM.ob) H (Ex.refl _) _ fun v H1 e1 hv => ?_
  have := isInt_get hv
  subst this
  have hn4 := hM.n4
  have en : (M.n : Int).toNat = M.n := by omega
  refine ⟨M.n, rfl, by omega, by omega, fun D hD => lc_range (lo := 0) (n := (M.n : Int).toNat) (fun i H' => Fr [r] H1 H' ∧ RowAt K H' r s ∧ ∃ L : List Int, H' D = some (.lst (L.map V.int)) ∧ L.length ≤ i ∧ L.Pairwise (· < ·) ∧ ∀ x ∈ L, 0 ≤ x ∧ x < (i : Int)) ?_ (fun i H' hi ⟨f, hR', L, hL, hlen, hp, hb⟩ => ?_) fun H' ⟨f, hR', L, hL, hlen, hp, hb⟩ => ?_⟩
  · exact ⟨Fr.ex (Ex.new hD), (hR.ex e1).ex (Ex.new hD), [], upd_same, Nat.zero_le _, List.Pairwise.nil, fun x hx => by cases hx⟩
  · have hDr := (row_ne (hR.ex e1) hD).symm
    refine ⟨rfl, x_taken hR' (ev_ref rfl) (ev_int 2) (by decide) fun j H3 f3 hR3 _ _ => ?_⟩
    refine .inl ⟨.int j, .int 1, .int _, .int _, sh_int _, sh_int _, _, rfl, ?_⟩
    have hL3 : H3 D = some (.lst (L.map V.int)) := f3.1 _ _ hL (by simpa using hDr)
    rw [eqv_int]
    show (if decide (j = 1) = true then _ else _)
    by_cases z : j = 1
    · rw [if_pos (decide_eq_true z)]
      have h0 := line0
      refine ⟨.int (0 + (i : Nat)), rfl, L.map V.int, hL3, by rw [List.length_map]; omega, (f.trans f3).new hD (tp_lst hL3), (hR.ex e1).new hD hR3, L ++ [(i : Int)], ?_, ?_, ?_, ?_⟩
      · rw [upd_same, List.map_append, Int.zero_add]; rfl
      · rw [List.length_append, List.length_singleton]; omega
      · exact List.pairwise_append.mpr ⟨hp, List.pairwise_singleton _ _, fun a ha b hb2 => by
          rw [List.mem_singleton] at hb2
          subst hb2
          exact (hb a ha).2⟩
      · intro x hx
        rcases List.mem_append.mp hx with hx | hx
        · have := hb x hx; omega
        · rw [List.mem_singleton] at hx; omega
    · rw [if_neg (by simp [z])]
      exact ⟨f.trans f3, hR3, L, hL3, by omega, hp, fun x hx => by have := hb x hx; omega⟩
  · refine ⟨D, _, rfl, .inl (.inl hL), newT_is (isDs_ints L) fun v H2 e2 hv => k v L H2 (((Fr.ex e1).trans f).trans (Fr.ex e2)) (hR'.ex e2) hv ⟨hp, fun x hx => by have := hb x hx; omega⟩⟩
theorem pure_law_drawn {vs : List V} {H : Hp} {Q : VK} {E : XK} (T : Txt K mg n) (h : sp_law_drawn P w K n vs H Q E) : t_law_drawn P w K n E0 { nx := fun _ H' => Q .non H', rt := Q } (start ["_law_row", "_law_m", "_law_values", "_law_some", "_law_k"] vs) H := by
  obtain ⟨r, s, M, rfl, hR, hM, hrM, k⟩ := h
  refine (ev_medges (M := M) (ev_ref rfl) hM.ob) H (Ex.refl _) _ fun v H1 e1 hv => ?_
  have := isInt_get hv
  subst this
  have hn4 := hM.n4
  have hw1 := hM.w1
  have hw2 := hM.w2
  have hpr : M.p ∉ [r] := by
    simp only [List.mem_singleton]
    exact fun z => hrM (by simp [MS.foot, z])
  have en : (M.n : Int).toNat = M.n := by omega
  refine ⟨M.n, rfl, by omega, by omega, fun D hD => lc_range (lo := 0) (n := (M.n : Int).toNat) (fun i H' => Fr [r] H1 H' ∧ RowAt K H' r s ∧ ∃ L : List Int, H' D = some (.lst (L.map V.int)) ∧ L.length = i ∧ ∀ x ∈ L, 0 ≤ x ∧ x ≤ 99) ?_ (fun i H' hi ⟨f, hR', L, hL, hlen, hb⟩ => ?_) fun H' ⟨f, hR', L, hL, hlen, hb⟩ => ?_⟩
  · exact ⟨Fr.ex (Ex.new hD), (hR.ex e1).ex (Ex.new hD), [], upd_same, rfl, fun x hx => by cases hx⟩
  · have hDr := (row_ne (hR.ex e1) hD).symm
    refine ⟨rfl, ?_⟩
    refine x_taken hR' (ev_ref rfl) (ev_mwide (M := M) (ev_ref rfl) (f.1 _ _ (e1 _ _ hM.ob) hpr)) (by omega) fun j H3 f3 hR3 h0 h1 => ?_
    have hL3 : H3 D = some (.lst (L.map V.int)) := f3.1 _ _ hL (by simpa using hDr)
    have hl := line0
    refine ⟨L.map V.int, hL3, by rw [List.length_map]; omega, (f.trans f3).new hD (tp_lst hL3), (hR.ex e1).new hD hR3, L ++ [j], ?_, ?_, ?_⟩
    · rw [upd_same, List.map_append]; rfl
    · rw [List.length_append, List.length_singleton]; omega
    · intro x hx
      rcases List.mem_append.mp hx with hx | hx
      · exact hb x hx
      · rw [List.mem_singleton] at hx; omega
  · rw [en] at hlen
    have f1 : Fr [r] H H' := (Fr.ex e1).trans f
    refine ⟨D, _, rfl, .inl (.inl hL), newT_is (isDs_ints L) fun v H2 e2 hv => ?_⟩
    have hR2 := hR'.ex e2
    show tSeq _ _ _ [some (.ref r), some (.ref M.p), some v, none, none] H2
    -- some = [..]
    refine x_taken hR2 (ev_ref rfl) (ev_int 5) (by decide) fun a1 H3 f3 hR3 p1 p2 => ?_
    refine .inl ⟨a1, 2, rfl, rfl, ?_⟩
    refine x_taken hR3 (ev_ref rfl) (ev_int 2000001) (by decide) fun a2 H4 f4 hR4 p3 p4 => ?_
    refine .inl ⟨a2, 1000000, rfl, rfl, ?_⟩
    refine (ev_pow (i := 10) (j := 9) (ev_int 10) (ev_int 9) ⟨by decide, by decide, by decide⟩) H4 (Ex.refl _) _ fun u5 H5 e5 h5 => ?_
    have h5 := isInt_get h5
    subst h5
    refine x_taken (hR4.ex e5) (ev_ref rfl) (ev_int 2) (by decide) fun a3 H6 f6 hR6 p5 p6 => ?_
    refine .inl ⟨_, a3, rfl, rfl, ?_⟩
    refine ⟨(by show 3 ≤ sizeLine; decide), fun A hA => ?_⟩
    have e7 : Ex H6 (upd H6 A (.lst [.int (a1 - 2), .int (a2 - 1000000), .int ((10 : Int) ^ (9 : Int).toNat - a3)])) := Ex.new hA
    have hA7 : (upd H6 A (.lst [.int (a1 - 2), .int (a2 - 1000000), .int ((10 : Int) ^ (9 : Int).toNat - a3)])) A = some (.lst [.int (a1 - 2), .int (a2 - 1000000), .int ((10 : Int) ^ (9 : Int).toNat - a3)]) := upd_same
    have hR7 := hR6.ex e7
    generalize upd H6 A (.lst [.int (a1 - 2), .int (a2 - 1000000), .int ((10 : Int) ^ (9 : Int).toNat - a3)]) = H7 at e7 hA7 hR7
    have e10 : (10 : Int) ^ (9 : Int).toNat = 1000000000 := by decide
    rw [e10] at hA7
    have fv : Fr [r] H2 H7 := ((((f3.trans f4).trans (Fr.ex e5)).trans f6).trans (Fr.ex e7))
    refine ⟨v, rfl, .ref A, rfl, ?_⟩
    have hA9 := hA7
    have hR9 := hR7
    have nAr := (row_ne (hR6) hA).symm
    refine x_taken hR9 (ev_ref rfl) (ev_int 3) (by decide) fun b1 H10 f10 hR10 q1 q2 => ?_
    have hA10 : H10 A = _ := f10.1 _ _ hA9 (by simpa using nAr)
    obtain ⟨y, hy, hy1, hy2⟩ : ∃ y : Int, ([.int (a1 - 2), .int (a2 - 1000000), .int (1000000000 - a3)] : List V)[b1.toNat]? = some (.int y) ∧ -1000000000 ≤ y ∧ y ≤ 1000000000 := by
      have : b1.toNat = 0 ∨ b1.toNat = 1 ∨ b1.toNat = 2 := by omega
      rcases this with e | e | e <;> rw [e]
      · exact ⟨_, rfl, by omega, by omega⟩
      · exact ⟨_, rfl, by omega, by omega⟩
      · exact ⟨_, rfl, by omega, by omega⟩
    have eb1 : b1 = ((b1.toNat : Nat) : Int) := by omega
    refine .inl ⟨A, _, b1, .int y, rfl, rfl, .inl (.inl hA10), by rw [eb1]; exact atI_nat hy, ?_⟩
    refine (evf_lst (ds := [.int 1, .int 1, .int (0 - 1)]) (eds_cons (ev_int 1) (eds_cons (ev_int 1) (eds_cons (ev_sub (ev_int 0) (ev_int 1)) eds_nil))) (by simp)) H10 (Ex.refl _) _ fun B xs H11 nB e11 hB hxs => ?_
    have hR11 := hR10.ex e11
    refine x_taken hR11 (ev_ref rfl) (ev_int 3) (by decide) fun b2 H12 f12 hR12 q3 q4 => ?_
    have nBr := (row_ne hR10 nB).symm
    have hB12 : H12 B = some (.lst xs) := f12.1 _ _ hB (by simpa using nBr)
    have hxs' : xs = [V.int 1, V.int 1, V.int (0 - 1)] := ints_of_isDs (T := [1, 1, 0 - 1]) hxs
    subst hxs'
    obtain ⟨sg, hs, hsg⟩ : ∃ sg : Int, ([V.int 1, V.int 1, V.int (0 - 1)] : List V)[b2.toNat]? = some (.int sg) ∧ (sg = 1 ∨ sg = -1) := by
      have : b2.toNat = 0 ∨ b2.toNat = 1 ∨ b2.toNat = 2 := by omega
      rcases this with e | e | e <;> rw [e]
      · exact ⟨_, rfl, .inl rfl⟩
      · exact ⟨_, rfl, .inl rfl⟩
      · exact ⟨_, rfl, .inr (by omega)⟩
    have eb2 : b2 = ((b2.toNat : Nat) : Int) := by omega
    refine .inl ⟨B, _, b2, .int sg, rfl, rfl, .inl (.inl hB12), by rw [eb2]; exact atI_nat hs, ?_⟩
    refine ⟨y, sg, rfl, rfl, .inl ⟨by omega, by omega⟩, ?_⟩
    have fE : Fr [r] H2 H12 := (((fv.trans f10).trans (Fr.ex e11)).trans f12)
    have hvv : IsD H12 v (dT L) := hv.mono fE.2
    refine ⟨(by show 2 ≤ sizeLine; decide), newT_is (ds := [dT L, .int (y * sg)]) (.cons hvv (.cons (.int _) .nil)) fun u H13 e13 hu => ?_⟩
    refine k u (L, y * sg) H13 (((f1.trans (Fr.ex e2)).trans fE).trans (Fr.ex e13)) (hR12.ex e13) hu ⟨hlen, hb, ?_, ?_⟩
    · rcases hsg with e | e <;> subst e <;> show _ ≤ y * _ <;> omega
    · rcases hsg with e | e <;> subst e <;> show y * _ ≤ _ <;> omega
theorem pure_law_standing {vs : List V} {H : Hp} {Q : VK} {E : XK} (T : Txt K mg n) (h : sp_law_standing P w K n vs H Q E) : t_law_standing P w K n E0 { nx := fun _ H' => Q .non H', rt := Q } (start ["_law_m", "_law_table_here"] vs) H := by
  obtain ⟨M, rfl, hM, k⟩ := h
  obtain ⟨rows, hrow, hDD⟩ := id hM.kn
  have hn4 := hM.n4
  have hlim := hM.lim
  have npk : M.p ≠ M.kA := by
    have := hM.foot
    simp [MS.foot] at this
    exact this.1.2
  have h1 := evf_lst (σ := start ["_law_m", "_law_table_here"] [.ref M.p]) (H := H) (ds := [dT (rng M.n)]) (eds_cons (ev_tupRg (te := tDGet (tVar 0) (tC (.str "edges"))) (ev_medges (M := M) (ev_ref rfl) hM.ob) (by omega)) eds_nil) (by simp)
  have h2 := evf_lcD (P := P) (w := w) (K := K) (g := gName 1) (tt := tB (tOp (rIxU P w K) (tDGet (tVar 0) (tC (.str "kept"))) (tVar 1))) (te := tVar 1) (vs := [1])
    (σ := start ["_law_m", "_law_table_here"] [.ref M.p]) (td := tDGet (tVar 0) (tC (.str "kept"))) (fun e => e.2) (fun e => dT e.1) M.kept (fun e => encT e.1) hrow
    (Paired.mapP hDD fun a b q => ⟨q.1, q.2.1⟩) (by omega) (fun od H' lk => ev_mkept (M := M) (ev_ref rfl) (lk.1 _ _ npk hM.ob)) fun x hx v od H' lk hv => by
      rw [data_T] at hv
      refine turn_id (by show 1 < 2; decide) hv (evt_b ?_)
      refine ((ev_ixD mv_bl (d := M.kA) (k := x.1) (m := M.kept) (x := x.2) (ev_mkept (M := M) (ev_ref rfl) (lk.1 _ _ npk hM.ob)) (ev_K (ev_var (v := v) rfl hv)) ⟨rows, lk.rd, hDD.mono mv_bl (lk.tp hrow)⟩ (getG_of_mem hM.nd (by rw [show (x.1, x.2) = x from rfl]; exact hx))).imp fun H v h => ?_)
      have h : v = .bl x.2 := h
      subst h
      exact IsD.bl _
  have h3 := evf_cat (K := K) h1.m h2 (by
    rw [List.length_map]
    have := List.length_filter_le (fun e : List Int × Bool => e.2) M.kept
    show 1 + _ ≤ 5000
    omega)
  have er : [dT (rng M.n)] ++ (M.kept.filter fun e => e.2).map (fun e => dT e.1) = M.Ts.map dT := by
    unfold MS.Ts
    rw [List.map_cons, List.map_map]
    rfl
  rw [er] at h3
  exact s_retF h3 fun a xs H' na e ha hx => k a xs H' na e ha hx
end
end KC
end

section
set_option Elab.async false
set_option linter.all false
set_option autoImplicit false
set_option maxRecDepth 100000
set_option maxHeartbeats 4000000
/-! What the law counts by itself. -/
namespace KC
open PySem L2 PySem.W
open Evl (Ex EvT)
section
variable {P : Program} {w : World} {K : PySem.W.Frag} {mg : Str → Option Value} {n : Nm}
theorem MAt.mr {H : Hp} {M : MS} (h : MAt P w H M) : MR H M := ⟨h.n1, h.n4, h.ob, h.rl, h.rows, h.lenB⟩
theorem MR.ex {H H' : Hp} {M : MS} (e : Ex H H') (h : MR H M) : MR H' M := ⟨h.n1, h.n4, e _ _ h.ob, (let ⟨xs, h1, h2⟩ := h.rl; ⟨xs, e _ _ h1, h2.mono (Tp.of e)⟩), h.rows, h.lenB⟩
theorem ev_mrowsL {td : TE} {σ : L2.St} {H : Hp} {M : MS} (h : EvP td σ H (IsR (.ref M.p))) (hM : MR H M) : EvP (tDGet td (tC (.str "rows"))) σ H (IsM (M.rows.map rowD)) := fun H1 e Q k =>
  (ev_mrows h hM.ob) H1 e Q fun v H2 e2 hv => by
    have hv : v = .ref M.rA := hv
    subst hv
    obtain ⟨xs, h1, h2⟩ := hM.rl
    exact k _ H2 e2 ⟨M.rA, xs, rfl, e2 _ _ (e _ _ h1), h2.mono (Tp.of (e.trans e2))⟩
theorem EvP.msq {te : TE} {σ : L2.St} {H : Hp} {ds : List PyData} (h : EvP te σ H (IsM ds)) : EvP te σ H (IsSq K ds) := h.imp fun _ _ ⟨a, xs, h1, h2, h3⟩ => ⟨a, xs, h1, .inl (.inl (.inl h2)), h3⟩
theorem EvP.ml {te : TE} {σ : L2.St} {H : Hp} {ds : List PyData} (h : EvP te σ H (IsM ds)) : EvP te σ H (IsL K ds) := h.imp fun _ _ ⟨a, xs, h1, h2, h3⟩ => ⟨a, xs, h1, .inl (.inl h2), h3⟩
theorem tups_of {H : Hp} : ∀ {Ls : List (List Int)} {xs : List V}, IsDs H xs (Ls.map dT) → ∃ ks : List (Addr × List Int), xs = ks.map (fun p => V.ref p.1) ∧ ks.map (·.2) = Ls ∧ ∀ p ∈ ks, SqT K H p.1 (p.2.map V.int)
  | [], xs, h => by
    rw [List.map_nil] at h
    cases h
    exact ⟨[], rfl, rfl, fun p hp => by cases hp⟩
  | T :: Ls, xs, h => by
    rw [List.map_cons] at h
    obtain ⟨v, ws, rfl, h1, h2⟩ := isDs_cons h
    obtain ⟨a, rfl, ha⟩ := isT_get h1
    obtain ⟨ks, rfl, e2, h3⟩ := tups_of h2
    refine ⟨(a, T) :: ks, rfl, by rw [List.map_cons, e2], fun p hp => ?_⟩
    rcases List.mem_cons.mp hp with rfl | hp
    · exact ha.sq
    · exact h3 p hp
/-- len(set(xs)), xs a list of tuples -/
theorem ev_lenset {te : TE} {σ : L2.St} {H : Hp} {Ls : List (List Int)} (h : EvP te σ H (IsL K (Ls.map dT))) (hz : Ls.length < 64) : EvP (tCB (rLenA P w K) (tCons (tCB (rSetC P w K) (tCons te tNil)) tNil)) σ H (Is (.int (nub Ls).length)) := fun H1 e Q k =>
  h H1 e _ fun v H2 e2 ⟨a, xs, ev, hl, hs⟩ => by
    subst ev
    obtain ⟨ks, rfl, e3, h3⟩ := tups_of (K := K) hs
    refine .inr ⟨a, ks, rfl, hl, h3, by rw [← List.length_map (f := (·.2)) (as := ks), e3]; exact hz, fun b L hb h4 h5 => ?_⟩
    refine .inr ⟨b, L, rfl, upd_same, fun hnd => ?_⟩
    have : (L.map (·.2)).length = (nub Ls).length := len_nub_of hnd fun k => by
      rw [← e3]
      constructor
      · intro hk
        obtain ⟨p, hp, rfl⟩ := List.mem_map.mp hk
        exact List.mem_map.mpr ⟨p, h4 p hp, rfl⟩
      · intro hk
        obtain ⟨p, hp, rfl⟩ := List.mem_map.mp hk
        exact h5 p hp
    rw [List.length_map] at this
    rw [this]
    exact k _ _ (e2.trans (Ex.new hb)) (IsD.int _)
theorem tab_idx {N : Nat} {L v : List Int} (h : Tab N L) (hv : v.length = N) : ∀ p ∈ L, 0 ≤ p ∧ p < (v.length : Int) := fun p hp => by rw [hv]; exact h.2 p hp
theorem pure_law_size {vs : List V} {H : Hp} {Q : VK} {E : XK} (T : Txt K mg n) (h : sp_law_size P w K n vs H Q E) : t_law_size P w K n E0 { nx := fun _ H' => Q .non H', rt := Q } (start ["_law_m", "_law_table_here", "_law_values", "_law_amount", "_law_edge"] vs) H := by
  obtain ⟨M, t, L, rfl, hM, ht, hL, hrows, k⟩ := h
  have hl4 := hL.len hM.n4
  have h1 := evf_lc (P := P) (w := w) (K := K) (g := gTup K 2 (gCons (gName 2) (gCons (gName 3) gNil))) (tt := tYes) (te := tCB (rTupF K) (tCons (tLc (iAny P w K (tVar 1)) (gName 4) tYes (tOp (rIxU P w K) (tVar 2) (tVar 4)) [4]) tNil)) (vs := [2, 3])
    (σ := start ["_law_m", "_law_table_here", "_law_values", "_law_amount", "_law_edge"] [.ref M.p, t]) (H := H) (tl := tDGet (tVar 0) (tC (.str "rows"))) rowD (fun _ => true) (fun r => dT (prj r.1 L)) M.rows (ev_mrowsL (ev_ref rfl) hM).msq (line1000 hM.lenB)
    fun x hx v H' e hv => turn_tup2 hv (fun _ _ => rfl) fun v1 v2 q1 q2 => ⟨evt_yes, fun _ => ev_prj (by show 4 < 5; decide) (ev_var (v := t) rfl (ht.mono (Tp.of e))).tq (by omega) (fun u H'' e'' => ev_var (v := v1) rfl (IsD.mono (Tp.of e'') q1)) (tab_idx hL (hM.rows x hx).1)⟩
  rw [filter_all] at h1
  have er : M.rows.map (fun r => dT (prj r.1 L)) = ((bag M.rows L).map (·.1)).map dT := by
    unfold bag
    rw [List.map_map, List.map_map]
    rfl
  rw [er] at h1
  refine s_ret (ev_lenset (P := P) (w := w) (h1.l (K := K)) (by rw [List.length_map, bag_len]; exact hrows)) fun v H' e hv => ?_
  have := isInt_get hv
  subst this
  exact k H' e
/-- set(a) - set(b) == set([]) -/
theorem ev_setsub {a b : TE} {σ : L2.St} {H : Hp} {L R : List Int} (ha : EvP a σ H (Is (dT L))) (hb : EvP b σ H (Is (dT R))) (hL : L.length ≤ 3) (hR : R.length ≤ 40) : EvP (tOp (rEqU P w K) (tOp (rMinus P w) (tCB (rSetC P w K) (tCons a tNil)) (tCB (rSetC P w K) (tCons b tNil))) (tCB (rSetC P w K) (tCons (tLst tNil) tNil))) σ H (Is (.bool (sub L R))) := fun H1 e Q k =>
  ha H1 e _ fun x H2 e2 hx => by
    obtain ⟨p, rfl, hp⟩ := isT_get hx
    refine .inl ⟨p, L, rfl, .inr hp.sq, by omega, fun sa ca na hca => ?_⟩
    have e3 := Ex.new (o := SetO w sa (fun j => decide (j ∈ L)) ca) na
    have hsa : (upd H2 sa (SetO w sa (fun j => decide (j ∈ L)) ca)) sa = some (SetO w sa (fun j => decide (j ∈ L)) ca) := upd_same
    generalize upd H2 sa (SetO w sa (fun j => decide (j ∈ L)) ca) = H3 at e3 hsa
    refine hb H3 ((e.trans e2).trans e3) _ fun y H4 e4 hy => ?_
    obtain ⟨q, rfl, hq⟩ := isT_get hy
    refine .inl ⟨q, R, rfl, .inr hq.sq, by omega, fun sb cb nb hcb => ?_⟩
    have e5 := Ex.new (o := SetO w sb (fun j => decide (j ∈ R)) cb) nb
    have hsb : (upd H4 sb (SetO w sb (fun j => decide (j ∈ R)) cb)) sb = some (SetO w sb (fun j => decide (j ∈ R)) cb) := upd_same
    have hsa5 := e5 _ _ (e4 _ _ hsa)
    generalize upd H4 sb (SetO w sb (fun j => decide (j ∈ R)) cb) = H5 at e5 hsb hsa5
    refine .inr ⟨sa, sb, _, _, ca, cb, rfl, rfl, hsa5, hsb, by omega, fun r U c nr hU hc => ?_⟩
    have e6 := Ex.new (o := SetQ P w r U c) nr
    have hr6 : (upd H5 r (SetQ P w r U c)) r = some (SetQ P w r U c) := upd_same
    generalize upd H5 r (SetQ P w r U c) = H6 at e6 hr6
    refine ⟨Nat.zero_le _, fun z nz => ?_⟩
    have e7 := Ex.new (o := .lst []) nz
    have hz7 : (upd H6 z (.lst [])) z = some (.lst []) := upd_same
    have hr7 := e7 _ _ hr6
    generalize upd H6 z (.lst []) = H7 at e7 hz7 hr7
    refine .inl ⟨z, [], rfl, .inl (.inl (.inl hz7)), by decide, fun s0 c0 n0 hc0 => ?_⟩
    have e8 := Ex.new (o := SetO w s0 (fun j => decide (j ∈ ([] : List Int))) c0) n0
    have h08 : (upd H7 s0 (SetO w s0 (fun j => decide (j ∈ ([] : List Int))) c0)) s0 = some (SetO w s0 (fun j => decide (j ∈ ([] : List Int))) c0) := upd_same
    have hr8 := e8 _ _ hr7
    generalize upd H7 s0 (SetO w s0 (fun j => decide (j ∈ ([] : List Int))) c0) = H8 at e8 h08 hr8
    have hc00 : c0 = 0 := Nat.le_zero.mp hc0
    subst hc00
    refine .inr ⟨r, s0, U, _, c, rfl, rfl, hr8, h08, ?_⟩
    have hs : decide (c = 0) = sub L R := by
      rw [Bool.eq_iff_iff, decide_eq_true_iff, hc]
      unfold sub
      rw [List.all_eq_true]
      constructor
      · intro h x hx
        have := h x
        rw [hU] at this
        simpa [hx] using this
      · intro h j
        rw [hU]
        by_cases hj : j ∈ L
        · have := h j hj
          simp only [decide_eq_true_eq] at this
          simp [hj, this]
        · simp [hj]
    rw [hs]
    exact k _ H8 ((((((e2.trans e3).trans e4).trans e5).trans e6).trans e7).trans e8) (IsD.bl _)
theorem pure_law_ranked {vs : List V} {H : Hp} {Q : VK} {E : XK} (T : Txt K mg n) (h : sp_law_ranked P w K n vs H Q E) : t_law_ranked P w K n E0 { nx := fun _ H' => Q .non H', rt := Q } (start ["_law_m", "_law_some", "_law_table_here", "_law_road"] vs) H := by
  obtain ⟨M, s, t, Ts, L, rfl, hM, hs, ht, hL, hTs, hlen, hrows, hL3, k⟩ := h
  have h1 := evf_lc (P := P) (w := w) (K := K) (g := gName 3) (tt := tTest (tOp (rEqU P w K) (tOp (rMinus P w) (tCB (rSetC P w K) (tCons (tVar 2) tNil)) (tCB (rSetC P w K) (tCons (tVar 3) tNil))) (tCB (rSetC P w K) (tCons (tLst tNil) tNil)))) (te := tTupF (tCons (tCall (sp_law_size P w K n) [] E0 (tCons (tVar 0) (tCons (tVar 3) tNil))) (tCons (tCB (rLenA P w K) (tCons (tVar 3) tNil)) (tCons (tVar 3) tNil)))) (vs := [3])
    (σ := start ["_law_m", "_law_some", "_law_table_here", "_law_road"] [.ref M.p, s, t]) (H := H) (tl := tVar 1) dT (fun R => sub L R) (fun R => triD ((cntT M.rows R : Int), (R.length : Int), R)) Ts (ev_var (p := IsL K (Ts.map dT)) (v := s) rfl hs).sq (line1000 hlen)
    fun x hx v H' e hv => by
      have hxT := hTs x hx
      have hx4 := hxT.len hM.n4
      have g3 : EvP (tVar 3) ((wipe (start ["_law_m", "_law_some", "_law_table_here", "_law_road"] [.ref M.p, s, t]) [3]).set 3 (some v)) H' (Is (dT x)) := ev_var (v := v) rfl hv
      have gl := ev_len (P := P) (w := w) (K := K) g3.tq
      rw [List.length_map] at gl
      refine turn_of (evt_test (ev_setsub (ev_var (v := t) rfl (ht.mono (Tp.of e))) g3 hL3 (by omega))) fun _ => ev_tup (eds_cons ?_ (eds_cons gl (eds_cons g3 eds_nil))) (by simp)
      refine ev_call (ps := [IsR (.ref M.p), Is (dT x)]) (eas_cons (ev_ref rfl) (eas_cons g3 eas_nil)) fun vs H1 e1 hvs Q q => ?_
      obtain ⟨u1, u2, rfl, q1, q2⟩ := als2 hvs
      have q1 : u1 = .ref M.p := q1
      subst q1
      exact ⟨M, u2, x, rfl, hM.mr.ex (e.trans e1), q2, hxT, hrows, fun H2 e2 => q _ H2 e2 (IsD.int _)⟩
  have er : (Ts.filter fun R => sub L R).map (fun R => triD ((cntT M.rows R : Int), (R.length : Int), R)) = (((Ts.filter fun R => sub L R).map fun R => ((cntT M.rows R : Int), (R.length : Int), R))).map triD := by
    rw [List.map_map]; rfl
  rw [er] at h1
  refine s_retF (sorted_tris (h1.l (K := K))) fun a xs H' na e ha hx => k a xs H' na e ha ?_
  rw [← srt3_map] at hx
  exact hx
theorem pure_law_best {vs : List V} {H : Hp} {Q : VK} {E : XK} (T : Txt K mg n) (h : sp_law_best P w K n vs H Q E) : t_law_best P w K n E0 { nx := fun _ H' => Q .non H', rt := Q } (start ["_law_m", "_law_some", "_law_table_here"] vs) H := by
  obtain ⟨M, s, t, Ts, L, rfl, hM, hs, ht, hL, hTs, hlen, hrows, hL3, hex, k⟩ := h
  obtain ⟨x, rest, hx, hxb, hxT, hxs⟩ := rank_head (B := M.rows) hex
  have r1 : EvF (tCall (sp_law_ranked P w K n) [] E0 (tCons (tVar 0) (tCons (tVar 1) (tCons (tVar 2) tNil)))) (start ["_law_m", "_law_some", "_law_table_here"] [.ref M.p, s, t]) H ((rankL M.rows Ts L).map triD) :=
    evf_call (ps := [IsR (.ref M.p), IsL K (Ts.map dT), Is (dT L)]) (eas_cons (ev_ref rfl) (eas_cons (ev_var (v := s) rfl hs) (eas_cons (ev_var (v := t) rfl ht) eas_nil))) fun vs H1 e1 hv Q q => by
      obtain ⟨u1, u2, u3, rfl, q1, q2, q3⟩ := als3 hv
      have q1 : u1 = .ref M.p := q1
      subst q1
      exact ⟨M, u2, u3, Ts, L, rfl, hM.ex e1, q2, q3, hL, hTs, hlen, hrows, hL3, q⟩
  rw [hx] at r1
  exact s_ret (p := Is (dT (bestR M.rows Ts L))) (ev_at (i := 2) (ev_ix (i := 0) (r1.l (K := K)).sq (ev_int _) rfl) (by rw [← hxb]; rfl)) fun v H' e hv => k v H' e hv
theorem idx_rng {N : Nat} {e : Int} (h : 0 ≤ e ∧ e < (N : Int)) : (rng N).idxOf e = e.toNat := by
  have hm : e ∈ rng N := sub_mem (sub_rng (n := N) (T := [e]) ⟨List.pairwise_singleton _ _, fun x hx => by rw [List.mem_singleton] at hx; rw [hx]; exact h⟩) e (List.mem_singleton.mpr rfl)
  have h2 := idx_at hm
  generalize (rng N).idxOf e = j at h2
  unfold rng at h2
  rw [List.getElem?_map] at h2
  cases z : (List.range N)[j]? with
  | none => rw [z] at h2; cases h2
  | some y =>
    rw [z] at h2
    have hlt := (List.getElem?_eq_some_iff.mp z).1
    rw [List.length_range] at hlt
    rw [List.getElem?_range hlt] at z
    cases z
    have : ((j : Nat) : Int) = e := Option.some.inj h2
    omega
/-- for x in a list that stands -/
theorem s_forM {σ : L2.St} {H : Hp} {D : Ends} {tl : TE} {g : TG} {body : TS} {a : Addr} {xs : List V} (h : EvP tl σ H (IsR (.ref a))) (ha : H a = some (.lst xs)) (Pv : Nat → L2.St → Hp → Prop) (h0 : ∀ H', Ex H H' → Pv 0 σ H') (hst : ∀ i σ' H', Pv i σ' H' → H' a = some (.lst xs))
    (hs : ∀ i x σ' H', xs[i]? = some x → Pv i σ' H' → ∀ N : L2.St → Hp → Prop, (∀ σ3 H3, Pv (i + 1) σ3 H3 → N σ3 H3) → g x σ' H' fun σ2 H2 => body { D with nx := N, ct := N, bk := D.nx } σ2 H2)
    (hd : ∀ σ' H', Pv xs.length σ' H' → D.nx σ' H') : tFor (iAny P w K tl) g body D σ H := h H (Ex.refl _) _ fun v H2 e2 hv =>
  .inl ⟨a, hv, ⟨xs, .inl (.inl (e2 _ _ ha))⟩, for_list (K := K) (a := a) (xs := xs) Pv (h0 H2 e2) (fun i σ' H' _ p => .inl (.inl (hst i σ' H' p))) (fun i x σ' H' hi p => hs i x σ' H' hi p _ fun _ _ q => q) hd⟩
theorem fitR_rng {N : Nat} {F : List (Int × Int)} (h : ∀ e ∈ F.map (·.1), 0 ≤ e ∧ e < (N : Int)) (r : List Int × Int) : fitR (rng N) F r.1 = mat F r := by
  unfold fitR mat
  exact all_congr' fun f hf => by rw [idx_rng (h f.1 (List.mem_map.mpr ⟨f, hf, rfl⟩))]
theorem fixD_rng {N : Nat} {F : List (Int × Int)} (h : ∀ e ∈ F.map (·.1), 0 ≤ e ∧ e < (N : Int)) : (F.map fun f => fixD (((rng N).idxOf f.1 : Nat), f.2)) = F.map fixD := List.map_congr_left fun f hf => by
  have := h f.1 (List.mem_map.mpr ⟨f, hf, rfl⟩)
  rw [idx_rng this]
  have e : ((f.1.toNat : Nat) : Int) = f.1 := by omega
  rw [e]
theorem rng_len (N : Nat) : (rng N).length = N := by unfold rng; rw [List.length_map, List.length_range]
theorem addG_nn {m : List (List Int × (Int × Int))} {B : List (List Int × Int)} (h : Right m B) (k : List Int) (a : Int) : putG m k (((getG m k).getD (0, 0)).1 + 1, ((getG m k).getD (0, 0)).2 + a) = addG m k 1 a := by
  unfold addG
  rw [if_neg]
  cases e : getG m k with
  | none => decide
  | some x =>
    have := h.pos e
    show ¬ x.1 + 1 = 0
    omega
/-- sorted([(k,) + d[k] for k in d]) -/
theorem evf_entries {σ : L2.St} {H : Hp} {td td2 : TE} {i : Nat} {d : Addr} {m : List (List Int × (Int × Int))} (hd : DAt P w encT vCS H d m) (hnd : (m.map (·.1)).Nodup) (hm : m.length ≤ 5000) (hlen : ∀ e ∈ m, e.1.length ≤ 900)
    (htd : ∀ H', EvP td σ H' (IsR (.ref d))) (htd2 : ∀ v H', EvP td2 ((wipe σ [i]).set i (some v)) H' (IsR (.ref d))) (hi : ∀ v, ((wipe σ [i]).set i (some v))[i]? = some (some v)) :
    EvF (tCB (rSortU w K) (tCons (tLockE (tLc (iAny P w K td) (gName i) tYes (tOp (rPlus K) (tTupF (tCons (tVar i) tNil)) (tOp (rIxU P w K) td2 (tVar i))) [i])) tNil)) σ H ((m.map entD).mergeSort dle) := by
  obtain ⟨rows, hrow, hDD⟩ := id hd
  have h1 := evf_lcD (P := P) (w := w) (K := K) (g := gName i) (tt := tYes) (te := tOp (rPlus K) (tTupF (tCons (tVar i) tNil)) (tOp (rIxU P w K) td2 (tVar i))) (vs := [i]) (σ := σ) (td := td) (fun _ => true) entD m (fun e => encT e.1) hrow
    (Paired.mapP hDD fun a b q => ⟨q.1, q.2.1⟩) (by omega) (fun od H' lk => htd H') fun x hx v od H' lk hv => turn_of evt_yes fun _ => by
      rw [data_T] at hv
      have hrd : DRd P w encT vCS H' d m := ⟨rows, .inr ⟨od, lk.2⟩, hDD.mono mv_cs (lk.tp hrow)⟩
      have g2 : EvP (tOp (rIxU P w K) td2 (tVar i)) ((wipe σ [i]).set i (some v)) H' (Is (.tuple [.int x.2.1, .int x.2.2])) :=
        (ev_ixD mv_cs (d := d) (k := x.1) (htd2 v H') (ev_K (ev_var (hi v) hv)) hrd (getG_of_mem hnd (by rw [show (x.1, x.2) = x from rfl]; exact hx))).imp fun _ _ h => h
      exact ev_cat (ds := [dT x.1]) (es := [.int x.2.1, .int x.2.2]) (ev_tup (eds_cons (ev_var (p := Is (dT x.1)) (hi v) hv) eds_nil) (by simp)) g2 (by simp)
  rw [filter_all] at h1
  exact sorted_ents (h1.l (K := K))
theorem pure_law_sums {vs : List V} {H : Hp} {Q : VK} {E : XK} (T : Txt K mg n) (h : sp_law_sums P w K n vs H Q E) : t_law_sums P w K n E0 { nx := fun _ H' => Q .non H', rt := Q } (start ["_law_m", "_law_table_here", "_law_fixed", "_law_known", "_law_values", "_law_amount", "_law_key", "_law_count", "_law_whole", "_law_edge", "_law_value"] vs) H := by
  obtain ⟨M, t, f, L, F, rfl, hM, ht, hL, hf, hF, hF8, k⟩ := h
  have hl4 := hL.len hM.n4
  have hlenB := hM.lenB
  refine fun d hd0 => ?_
  have e1 : Ex H (upd H d (KDO P w d [])) := Ex.new hd0
  have hd1 : DAt P w encT vCS (upd H d (KDO P w d [])) d [] := dAt_new _ _ _
  show tSeq _ _ _ [some (.ref M.p), some t, some f, some (.ref d), none, none, none, none, none, none, none] _
  generalize upd H d (KDO P w d []) = H1 at e1 hd1
  have hM1 := hM.ex e1
  obtain ⟨xs, hxs, hxd⟩ := hM1.rl
  have hxl : xs.length = M.rows.length := by rw [hxd.length, List.length_map]
  have nrd : M.rA ≠ d := fun z => by
    obtain ⟨ys, h1, _⟩ := hM.rl
    rw [z, hd0] at h1
    cases h1
  refine s_seq (s_forM (a := M.rA) (xs := xs) (ev_mrows (M := M) (ev_ref rfl) hM1.ob) hxs (fun i σ' H' => ∃ x4 x5 x6 x7 x8 x9 x10 m, σ' = [some (.ref M.p), some t, some f, some (.ref d), x4, x5, x6, x7, x8, x9, x10] ∧ Fr [d] H1 H' ∧ DAt P w encT vCS H' d m ∧ Right m (bag ((M.rows.take i).filter (mat F)) L))
    (fun H' e => ⟨none, none, none, none, none, none, none, [], rfl, Fr.ex e, hd1.ex mv_cs e, Right.nil⟩) (fun i σ' H' ⟨_, _, _, _, _, _, _, _, _, fr, _⟩ => fr.1 _ _ hxs (by simpa using nrd)) (fun i x σ' H' hi ⟨x4, x5, x6, x7, x8, x9, x10, m, hσ, fr, hDm, hRm⟩ N kn => ?_) fun σ' H' ⟨x4, x5, x6, x7, x8, x9, x10, m, hσ, fr, hDm, hRm⟩ => ?_)
  · subst hσ
    obtain ⟨dd, hd1', hd2'⟩ := IsDs.get hxd hi
    rw [List.getElem?_map] at hd1'
    cases hr : M.rows[i]? with
    | none => rw [hr] at hd1'; cases hd1'
    | some row =>
      rw [hr] at hd1'
      cases hd1'
      have hrow := hM.rows row (List.mem_of_getElem? hr)
      obtain ⟨a, ws, rfl, ha, hw⟩ := isTup_get (hd2'.mono fr.2)
      obtain ⟨v1, ws, rfl, q1, hw⟩ := isDs_cons hw
      obtain ⟨v2, ws, rfl, q2, hw⟩ := isDs_cons hw
      have := isDs_nil hw
      subst this
      have q2 := isInt_get q2
      subst q2
      refine ⟨a, _, rfl, ha.sq, rfl, _, _, rfl, _, _, rfl, rfl, ?_⟩
      have hf' : IsSq K (F.map fixD) H' f := by
        obtain ⟨b, ys, rfl, hq, hy⟩ := hf
        have hq1 : SqL K H1 b ys ∨ SqT K H1 b ys := hq.imp (Evl.ex_l e1) (Evl.ex_t e1)
        have nb : ∀ (u : HO), Rd H b u → Rd H' b u := fun u hu => by
          have nbd : b ≠ d := rd_ne hu hd0
          rcases hu with h | ⟨o, h⟩
          · exact .inl (fr.1 _ _ (e1 _ _ h) (by simpa using nbd))
          · exact .inr ⟨o, fr.1 _ _ (e1 _ _ h) (by simpa using nbd)⟩
        exact ⟨b, ys, rfl, hq.imp (fun h => h.imp (nb _) id) (fun h => h.imp (nb _) id), (hy.mono (Tp.of e1)).mono fr.2⟩
      have ht' : IsD H' t (dT L) := (ht.mono (Tp.of e1)).mono fr.2
      rw [← fixD_rng hF.2] at hf'
      have qf := ev_fit (P := P) (w := w) (K := K) (tp := tVar 2) (tv := tVar 4) (σ := [some (.ref M.p), some t, some f, some (.ref d), some v1, some (.int row.2), x6, x7, x8, x9, x10]) (H := H') (k := row.1) (R := rng M.n) (F := F) (i := 9) (j := 10) (ev_var (v := f) rfl hf') (by omega) (fun x hx => by
        have := hF.2 x.1 (List.mem_map.mpr ⟨x, hx, rfl⟩)
        rw [idx_rng this, hrow.1]
        omega) (fun _ _ => rfl) (fun _ _ => rfl) (fun _ _ => rfl) fun u1 u2 H'' e'' => ev_var (v := v1) rfl (IsD.mono (Tp.of e'') q1)
      rw [fitR_rng hF.2] at qf
      have etk : ∀ b, mat F row = b → (M.rows.take (i + 1)).filter (mat F) = (M.rows.take i).filter (mat F) ++ (if b = true then [row] else []) := fun b hb => by rw [filter_take_one _ M.rows hr, hb]
      refine s_if (evt_test qf) (fun z H2 e2 => ?_) fun z H2 e2 => ?_
      · refine s_asg (p := Is (dT (prj row.1 L))) (ev_prj (by show 9 < 11; decide) (ev_var (v := t) rfl (ht'.mono (Tp.of e2))).tq (by omega) (fun u H'' e'' => ev_var (v := v1) rfl (IsD.mono (Tp.of (e2.trans e'')) q1)) (tab_idx hL hrow.1)) fun v6 H3 e3 h6 => ?_
        have hD3 := hDm.ex mv_cs (e2.trans e3)
        refine s_asgS (ev_getD mv_cs (z := (0, 0)) (p := Is (.tuple [.int 0, .int 0])) (d := d) (k := prj row.1 L) (ev_ref rfl) (ev_K (ev_var (v := v6) rfl h6)) (ev_tup (eds_cons (ev_int 0) (eds_cons (ev_int 0) eds_nil)) (by simp)) (fun _ _ h => h) hD3.rd) fun v7 H4 e4 h7 => ?_
        have hadd := addG_nn hRm (prj row.1 L) row.2
        generalize hg : (getG m (prj row.1 L)).getD (0, 0) = x at h7 hadd
        obtain ⟨c, ws, rfl, hc, hw2⟩ := isTup_get h7
        obtain ⟨y1, ws, rfl, p1, hw2⟩ := isDs_cons hw2
        obtain ⟨y2, ws, rfl, p2, hw2⟩ := isDs_cons hw2
        have := isDs_nil hw2
        subst this
        have p1 := isInt_get p1
        have p2 := isInt_get p2
        subst p1 p2
        refine ⟨c, _, rfl, hc.sq, rfl, _, _, rfl, _, _, rfl, rfl, ?_⟩
        have hD4 := hD3.ex mv_cs e4
        have hml : m.length ≤ 1000 := by
          have h1 := hRm.blen
          have h2 := List.length_filter_le (mat F) (M.rows.take i)
          rw [List.length_take] at h2
          omega
        refine s_setD mv_cs (d := d) (k := prj row.1 L) (m := m) (x := (x.1 + 1, x.2 + row.2)) (p := Is (.tuple [.int (x.1 + 1), .int (x.2 + row.2)])) (ev_tup (eds_cons (ev_add (ev_vi rfl) (ev_int 1)) (eds_cons (ev_add (ev_vi rfl) (ev_vi rfl)) eds_nil)) (by simp)) (ev_ref rfl) (ev_K (ev_var (v := v6) rfl (IsD.mono (Tp.of e4) h6))) (fun _ _ h => h) hD4 (by omega) fun H5 f5 hD5 => ?_
        rw [hadd] at hD5
        refine kn _ _ ⟨_, _, _, _, _, _, _, _, rfl, (fr.trans (Fr.ex ((e2.trans e3).trans e4))).trans f5, hD5, ?_⟩
        rw [etk true z, if_pos rfl]
        refine (hRm.come (prj row.1 L) row.2).perm ?_
        have : bag ((M.rows.take i).filter (mat F) ++ [row]) L = bag ((M.rows.take i).filter (mat F)) L ++ [(prj row.1 L, row.2)] := by
          unfold bag
          rw [List.map_append]; rfl
        rw [this]
        exact (List.perm_append_singleton _ _).symm
      · refine kn _ _ ⟨_, _, _, _, _, _, _, m, rfl, fr.trans (Fr.ex e2), hDm.ex mv_cs e2, ?_⟩
        rw [etk false z]
        simpa using hRm
  · subst hσ
    rw [hxl, List.take_length] at hRm
    have hml := hRm.blen
    have h2 := List.length_filter_le (mat F) M.rows
    refine s_retF (evf_entries (P := P) (w := w) (K := K) hDm hRm.nd (by omega) (fun e he => by rw [hRm.klen e he]; omega) (fun H' => ev_ref rfl) (fun v H' => ev_ref rfl) fun v => rfl) fun a ys H2 na e2 ha hy => ?_
    have e02 : Ex H H2 := fun b o q => e2 _ _ (fr.1 _ _ (e1 _ _ q) (by simpa using ne_of_none q hd0))
    refine k m hRm a ys H2 ?_ e02 ha hy
    cases z : H a with
    | none => rfl
    | some o =>
      have := fr.1 _ _ (e1 _ _ z) (by simpa using ne_of_none z hd0)
      rw [this] at na
      cases na
end
end KC
end

section
set_option Elab.async false
set_option linter.all false
set_option autoImplicit false
set_option maxRecDepth 100000
set_option maxHeartbeats 4000000
/-! What is alike. -/
namespace KC
open PySem L2 PySem.W
open Evl (Ex EvT)
section
variable {P : Program} {w : World} {K : PySem.W.Frag} {mg : Str → Option Value} {n : Nm}
mutual
theorem Dx.mono {H H' : Hp} (e : Ex H H') : ∀ {v : V} {d : PyData}, Dx K H v d → Dx K H' v d
  | _, _, .dat h => .dat (h.mono (Tp.of e))
  | _, _, .lst h t => .lst (Evl.ex_l e h) (Dxs.mono e t)
  | _, _, .tup h t => .tup (h.mono (Tp.of e)) (Dxs.mono e t)
theorem Dxs.mono {H H' : Hp} (e : Ex H H') : ∀ {v : List V} {d : List PyData}, Dxs K H v d → Dxs K H' v d
  | _, _, .nil => .nil
  | _, _, .cons h t => .cons (Dx.mono e h) (Dxs.mono e t)
end
theorem dxs_of {H : Hp} : ∀ {vs : List V} {ds : List PyData}, IsDs H vs ds → Dxs K H vs ds
  | _, _, .nil => .nil
  | _, _, .cons h t => .cons (.dat h) (dxs_of t)
theorem Dxs.length {H : Hp} : ∀ {vs : List V} {ds : List PyData}, Dxs K H vs ds → vs.length = ds.length
  | _, _, .nil => rfl
  | _, _, .cons _ t => by rw [List.length_cons, List.length_cons, Dxs.length t]
theorem Dxs.get' {H : Hp} : ∀ {vs : List V} {ds : List PyData} {i : Nat} {d : PyData}, Dxs K H vs ds → ds[i]? = some d → ∃ v, vs[i]? = some v ∧ Dx K H v d
  | _, _, 0, d, .cons h _, e => by
    cases e
    exact ⟨_, rfl, h⟩
  | _, _, i + 1, d, .cons _ t, e => by
    obtain ⟨v, h1, h2⟩ := Dxs.get' (i := i) t (by simpa using e)
    exact ⟨v, by simpa using h1, h2⟩
instance (K : PySem.W.Frag) (d : PyData) : Mn (IsV K d) := ⟨fun e h => Dx.mono e h⟩
def IsSx (K : PySem.W.Frag) (ds : List PyData) : PV := fun H v => ∃ a xs, v = .ref a ∧ (SqL K H a xs ∨ SqT K H a xs) ∧ Dxs K H xs ds
instance (K : PySem.W.Frag) (ds : List PyData) : Mn (IsSx K ds) := ⟨fun e ⟨a, xs, h1, h2, h3⟩ => ⟨a, xs, h1, h2.imp (Evl.ex_l e) (Evl.ex_t e), Dxs.mono e h3⟩⟩
theorem ev_ixX {a b : TE} {σ : L2.St} {H : Hp} {ds : List PyData} {i : Nat} {e : PyData} (ha : EvP a σ H (IsSx K ds)) (hb : EvP b σ H (Is (.int i))) (hi : ds[i]? = some e) : EvP (tOp (rIxU P w K) a b) σ H (IsV K e) :=
  ev_op ha hb fun x y H1 _ ⟨p, xs, ex, hq, hs⟩ hy Q k => by
    subst ex
    have ey := isInt_get hy
    subst ey
    obtain ⟨v, h1, h2⟩ := Dxs.get' hs hi
    rcases hq with hq | hq
    · exact .inl ⟨p, xs, _, v, rfl, rfl, hq, atI_nat h1, k _ _ (Ex.refl _) h2⟩
    · exact .inr (.inl (.inl ⟨p, xs, _, v, rfl, rfl, hq, atI_nat h1, k _ _ (Ex.refl _) h2⟩))
theorem ev_lenX {a : TE} {σ : L2.St} {H : Hp} {ds : List PyData} (ha : EvP a σ H (IsSx K ds)) : EvP (tCB (rLenA P w K) (tCons a tNil)) σ H (Is (.int ds.length)) := fun H1 e Q k =>
  ha H1 e _ fun x H2 e2 ⟨p, xs, ex, hq, hs⟩ => by
    subst ex
    refine .inl (.inl ⟨p, xs, rfl, hq, ?_⟩)
    rw [hs.length]
    exact k _ _ e2 (IsD.int _)
def tyN : PyData → String
  | .none => "NoneType"
  | .bool _ => "bool"
  | .int _ => "int"
  | .str _ => "str"
  | .list _ => "list"
  | .tuple _ => "tuple"
  | .dict _ => "dict"
theorem isV_ty {H : Hp} {d : PyData} {v : V} (h : IsV K d H v) : TyX K H v (.type (tyN d)) := by
  cases h with
  | dat h =>
    cases h with
    | non => exact .base .non
    | bl b => exact .base (.bl b)
    | int i => exact .base (.int i)
    | str x => exact .base (.str x)
    | tup h _ _ => exact .fTuple h
  | lst h _ =>
    rcases h with (h | ⟨o, h⟩) | ⟨o, its, k, h, hc, _⟩
    · exact .base (.lst h)
    · exact .base (.frz h)
    · exact .kList h hc
  | tup h _ =>
    obtain ⟨o, _, h⟩ := h
    exact .fTuple h
theorem isV_non {H : Hp} {d : PyData} {v : V} (h : IsV K d H v) : v = .non ↔ d = .none := by
  cases h with
  | dat h => cases h <;> simp
  | lst _ _ => simp
  | tup _ _ => simp
theorem isV_dat {H : Hp} {d : PyData} {v : V} (h : IsV K d H v) (h1 : ∀ ds, d ≠ .list ds) (h2 : ∀ ds, d ≠ .tuple ds) : IsD H v d := by
  cases h with
  | dat h => exact h
  | lst _ _ => exact absurd rfl (h1 _)
  | tup _ _ => exact absurd rfl (h2 _)
theorem ev_isi {te : TE} {σ : L2.St} {H : Hp} {d : PyData} {B : String} {b : Bool} (h : EvP te σ H (IsV K d)) (hb : kitB (tyN d) B = some b) : EvP (tCB (rIsiU K) (tCons te (tCons (tC (.ty B)) tNil))) σ H (Is (.bool b)) := fun H1 e Q k =>
  h H1 e _ fun v H2 e2 hv => .inl ⟨v, .ty B, _, _, b, rfl, .ty B, isV_ty hv, kit_ty hb, k _ H2 e2 (IsD.bl b)⟩
theorem ev_isi2 {te : TE} {σ : L2.St} {H : Hp} {d : PyData} {B C : String} (h : EvP te σ H (IsV K d)) {b c : Bool} (hb : kitB (tyN d) B = some b) (hc : kitB (tyN d) C = some c) : EvP (tCB (rIsiU K) (tCons te (tCons (tTup (tCons (tC (.ty B)) (tCons (tC (.ty C)) tNil))) tNil))) σ H (Is (.bool (b || c))) := fun H1 e Q k =>
  h H1 e _ fun v H2 e2 hv => ⟨(by show 2 ≤ sizeLine; decide), fun p hp => .inr ⟨v, p, [.ty B, .ty C], _, _, b || c, rfl, upd_same, .cons (.ty B) (.cons (.ty C) .nil), isV_ty (Mn.mn (Ex.new hp) hv), kitAny_cons (kit_ty hb) (fun hb0 => by
    subst hb0
    exact kitAny_cons (kit_ty hc) (fun h0 => by subst h0; exact kitAny_nil) (fun h0 => by subst h0; rfl)) (fun h0 => by subst h0; rfl), k _ _ (e2.trans (Ex.new hp)) (IsD.bl _)⟩⟩
theorem ev_isN {te : TE} {σ : L2.St} {H : Hp} {d : PyData} (h : EvP te σ H (IsV K d)) (hd : d ≠ .none) : EvP (tOp rIsN te (tC .non)) σ H (Is (.bool false)) := fun H1 e Q k =>
  h H1 e _ fun v H2 e2 hv => ⟨rfl, by
    have : v ≠ .non := fun z => hd ((isV_non hv).mp z)
    rw [decide_eq_false this]
    exact k _ H2 e2 (IsD.bl false)⟩
theorem ev_isN1 {te : TE} {σ : L2.St} {H : Hp} (h : EvP te σ H (IsV K .none)) : EvP (tOp rIsN te (tC .non)) σ H (Is (.bool true)) := fun H1 e Q k =>
  h H1 e _ fun v H2 e2 hv => ⟨rfl, by
    have : v = .non := (isV_non hv).mpr rfl
    rw [decide_eq_true this]
    exact k _ H2 e2 (IsD.bl true)⟩
theorem isV_sq {H : Hp} {ds : List PyData} {v : V} (h : IsV K (.tuple ds) H v ∨ IsV K (.list ds) H v) : IsSx K ds H v := by
  rcases h with h | h
  · cases h with
    | dat h =>
      obtain ⟨a, xs, rfl, h1, h2⟩ := isTup_get h
      exact ⟨a, xs, rfl, .inr h1.sq, dxs_of h2⟩
    | tup h t => exact ⟨_, _, rfl, .inr h.sq, t⟩
  · cases h with
    | dat h => cases h
    | lst h t => exact ⟨_, _, rfl, .inl h, t⟩
theorem small_at {ds : List PyData} (h : smallAll ds = true) : ∀ (i : Nat) (d : PyData), ds[i]? = some d → smallD d = true := by
  induction ds with
  | nil => intro i d h; simp at h
  | cons x ds ih =>
    rw [smallAll, Bool.and_eq_true] at h
    intro i d hd
    cases i with
    | zero => simp at hd; subst hd; exact h.1
    | succ i => exact ih h.2 i d (by simpa using hd)
theorem depth_at {ds : List PyData} : ∀ (i : Nat) (d : PyData), ds[i]? = some d → d.depth ≤ PyData.depthAll ds := by
  induction ds with
  | nil => intro i d h; simp at h
  | cons x ds ih =>
    intro i d hd
    rw [PyData.depthAll]
    cases i with
    | zero => simp at hd; subst hd; omega
    | succ i =>
      have := ih i d (by simpa using hd)
      omega
theorem kb_tuple_tuple : kitB "tuple" "tuple" = some true := by decide +kernel
theorem kb_tuple_list : kitB "tuple" "list" = some false := by decide +kernel
theorem kb_list_tuple : kitB "list" "tuple" = some false := by decide +kernel
theorem kb_list_list : kitB "list" "list" = some true := by decide +kernel
theorem kb_bool_tuple : kitB "bool" "tuple" = some false := by decide +kernel
theorem kb_bool_list : kitB "bool" "list" = some false := by decide +kernel
theorem kb_bool_bool : kitB "bool" "bool" = some true := by decide +kernel
theorem kb_str_tuple : kitB "str" "tuple" = some false := by decide +kernel
theorem kb_str_list : kitB "str" "list" = some false := by decide +kernel
theorem kb_str_bool : kitB "str" "bool" = some false := by decide +kernel
theorem kb_str_str : kitB "str" "str" = some true := by decide +kernel
theorem kb_int_tuple : kitB "int" "tuple" = some false := by decide +kernel
theorem kb_int_list : kitB "int" "list" = some false := by decide +kernel
theorem kb_int_bool : kitB "int" "bool" = some false := by decide +kernel
theorem kb_int_str : kitB "int" "str" = some false := by decide +kernel
theorem kb_int_int : kitB "int" "int" = some true := by decide +kernel
theorem kb_NoneType_tuple : kitB "NoneType" "tuple" = some false := by decide +kernel
theorem kb_NoneType_list : kitB "NoneType" "list" = some false := by decide +kernel
/-- the scalars -/
theorem eqv_str (x : Str) : PyData.eqv (.str x) (.str x) = true := by rw [PyData.eqv]; simp
theorem pure_law_alike {j : Nat} {vs : List V} {H : Hp} {Q : VK} {E : XK} (T : Txt K mg n) (h : sp_alike K (j + 1) vs H Q E) : t_law_alike P w K n j E0 { nx := fun _ H' => Q .non H', rt := Q } (start ["_law_found", "_law_due", "_law_k"] vs) H := by
  obtain ⟨f, v, d, rfl, hf, hv, hd, hs, k⟩ := h
  show tSeq _ _ _ [some f, some v, none] H
  have gv : ∀ H', Ex H H' → EvP (tVar 1) [some f, some v, none] H' (IsV K d) := fun H' e => ev_var (v := v) rfl (Mn.mn e hv)
  have gf : ∀ H', Ex H H' → EvP (tVar 0) [some f, some v, none] H' (IsV K d) := fun H' e => ev_var (v := f) rfl (Mn.mn e hf)
  have r0 := Ex.refl H
  have seqCase : ∀ (ds : List PyData) (bt : Bool), (d = .tuple ds ∨ d = .list ds) → kitB (tyN d) "tuple" = some bt → kitB (tyN d) "list" = some (!bt) → ds.length ≤ 1000 → smallAll ds = true → PyData.depthAll ds < j → ∀ H', Ex H H' → ∀ D : Ends, D.rt = Q →
      tSeq (tIfS (tOr (tTest (tOp (rNeD K) (tCB (rIsiU K) (tCons (tVar 0) (tCons (tC (.ty "tuple")) tNil))) (tCB (rIsiU K) (tCons (tVar 1) (tCons (tC (.ty "tuple")) tNil))))) (tNot (tB (tCB (rIsiU K) (tCons (tVar 0) (tCons (tTup (tCons (tC (.ty "tuple")) (tCons (tC (.ty "list")) tNil))) tNil)))))) (tRet (tC (.bl false))) tNext)
    (tSeq (tIfS (tTest (tOp (rNeD K) (tCB (rLenA P w K) (tCons (tVar 0) tNil)) (tCB (rLenA P w K) (tCons (tVar 1) tNil)))) (tRet (tC (.bl false))) tNext)
    (tRet (tOp (rEqU P w K) (tLc (iRng1 (tCons (tCB (rLenA P w K) (tCons (tVar 1) tNil)) tNil)) (gName 2) (tNot (tB (tCall (sp_alike K j) [] E0 (tCons (tOp (rIxU P w K) (tVar 0) (tVar 2)) (tCons (tOp (rIxU P w K) (tVar 1) (tVar 2)) tNil))))) (tVar 2) [2]) (tLst tNil)))) D [some f, some v, none] H' := by
    intro ds bt hdd hbt hbl hlen hsm hdep H' e D hD
    have sqv : ∀ H'', Ex H H'' → IsSx K ds H'' v := fun H'' e'' => by
      have := (inferInstance : Mn (IsV K d)).mn e'' hv
      rcases hdd with q | q <;> subst q
      · exact isV_sq (.inl this)
      · exact isV_sq (.inr this)
    have sqf : ∀ H'', Ex H H'' → IsSx K ds H'' f := fun H'' e'' => by
      have := (inferInstance : Mn (IsV K d)).mn e'' hf
      rcases hdd with q | q <;> subst q
      · exact isV_sq (.inl this)
      · exact isV_sq (.inr this)
    have q1 := evt_test (ev_ne (K := K) (ev_isi (gf H' e) hbt) (ev_isi (gv H' e) hbt) (sh_bool _) (sh_bool _))
    have e1 : (!PyData.eqv (.bool bt) (.bool bt)) = false := by rw [PyData.eqv]; cases bt <;> rfl
    rw [e1] at q1
    have q2 := evt_not (evt_b (ev_isi2 (gf H' e) hbt hbl))
    have e2 : (!(bt || !bt)) = false := by cases bt <;> rfl
    rw [e2] at q2
    refine s_ifF (evt_or q1 fun _ => q2) fun H2 e3 => ?_
    have f2 := e.trans e3
    have lf : EvP (tVar 0) [some f, some v, none] H2 (IsSx K ds) := ev_var (v := f) rfl (sqf H2 f2)
    have lv : EvP (tVar 1) [some f, some v, none] H2 (IsSx K ds) := ev_var (v := v) rfl (sqv H2 f2)
    have q3 := evt_test (ev_neI (K := K) (ev_lenX (P := P) (w := w) lf) (ev_lenX (P := P) (w := w) lv))
    rw [decide_eq_true rfl] at q3
    refine s_ifF q3 fun H3 e4 => ?_
    have f3 := f2.trans e4
    have lv3 : EvP (tVar 1) [some f, some v, none] H3 (IsSx K ds) := ev_var (v := v) rfl (sqv H3 f3)
    have h1 := evf_lcR (g := gName 2) (tt := tNot (tB (tCall (sp_alike K j) [] E0 (tCons (tOp (rIxU P w K) (tVar 0) (tVar 2)) (tCons (tOp (rIxU P w K) (tVar 1) (tVar 2)) tNil))))) (te := tVar 2) (vs := [2]) (σ := [some f, some v, none]) (H := H3) (fun _ => false) (fun i => .int (i : Nat)) ds.length (ev_lenX (P := P) (w := w) lv3) hlen
      fun x hx H4 e5 => turn_id (by show 2 < 3; decide) (.int _) (by
        have hdx : ds[x]? = some ds[x] := List.getElem?_eq_getElem hx
        have gi : EvP (tVar 2) ((wipe [some f, some v, none] [2]).set 2 (some (.int (x : Nat)))) H4 (Is (.int (x : Nat))) := ev_vi rfl
        refine evt_not (b := true) (evt_b (ev_call (ps := [IsV K ds[x], IsV K ds[x]]) (eas_cons (ev_ixX (ev_var (v := f) rfl (sqf H4 (f3.trans e5))) gi hdx) (eas_cons (ev_ixX (ev_var (v := v) rfl (sqv H4 (f3.trans e5))) gi hdx) eas_nil)) fun vs H5 e6 hvs Q' q => ?_))
        obtain ⟨u1, u2, rfl, p1, p2⟩ := als2 hvs
        exact ⟨u1, u2, ds[x], rfl, p1, p2, Nat.lt_of_le_of_lt (depth_at x _ hdx) hdep, small_at hsm x _ hdx, fun H6 e7 => q _ H6 e7 (IsD.bl true)⟩)
    have e5 : (List.range ds.length).filter (fun _ => false) = [] := List.filter_eq_nil_iff.mpr fun _ _ z => by cases z
    rw [e5] at h1
    have h2 := ev_eqNil (P := P) (w := w) (h1.l (K := K)) (by exact sh_nil)
    refine s_ret h2 fun u H4 e6 hu => ?_
    have := isBl_get hu
    subst this
    rw [hD]
    exact k H4 (f3.trans e6)
  cases d with
  | dict kvs => rw [smallD] at hs; cases hs
  | tuple ds =>
    rw [smallD, Bool.and_eq_true] at hs
    have hd' : PyData.depthAll ds < j := by rw [PyData.depth] at hd; omega
    refine s_ifs (b := true) (evt_or (b := true) (c := true) (evt_b (ev_isi (gv H r0) (by first | exact kb_tuple_tuple | exact kb_tuple_list | exact kb_list_tuple | exact kb_list_list | exact kb_bool_tuple | exact kb_bool_list | exact kb_bool_bool | exact kb_str_tuple | exact kb_str_list | exact kb_str_bool | exact kb_str_str | exact kb_int_tuple | exact kb_int_list | exact kb_int_bool | exact kb_int_str | exact kb_int_int | exact kb_NoneType_tuple | exact kb_NoneType_list))) fun z => by cases z) (fun _ H1 e1 => ?_) fun z => by cases z
    exact seqCase ds true (.inl rfl) (by first | exact kb_tuple_tuple | exact kb_tuple_list | exact kb_list_tuple | exact kb_list_list | exact kb_bool_tuple | exact kb_bool_list | exact kb_bool_bool | exact kb_str_tuple | exact kb_str_list | exact kb_str_bool | exact kb_str_str | exact kb_int_tuple | exact kb_int_list | exact kb_int_bool | exact kb_int_str | exact kb_int_int | exact kb_NoneType_tuple | exact kb_NoneType_list) (by first | exact kb_tuple_tuple | exact kb_tuple_list | exact kb_list_tuple | exact kb_list_list | exact kb_bool_tuple | exact kb_bool_list | exact kb_bool_bool | exact kb_str_tuple | exact kb_str_list | exact kb_str_bool | exact kb_str_str | exact kb_int_tuple | exact kb_int_list | exact kb_int_bool | exact kb_int_str | exact kb_int_int | exact kb_NoneType_tuple | exact kb_NoneType_list) (of_decide_eq_true hs.1) hs.2 hd' H1 e1 _ rfl
  | list ds =>
    rw [smallD, Bool.and_eq_true] at hs
    have hd' : PyData.depthAll ds < j := by rw [PyData.depth] at hd; omega
    refine s_ifs (b := true) (evt_or (b := false) (c := true) (evt_b (ev_isi (gv H r0) (by first | exact kb_tuple_tuple | exact kb_tuple_list | exact kb_list_tuple | exact kb_list_list | exact kb_bool_tuple | exact kb_bool_list | exact kb_bool_bool | exact kb_str_tuple | exact kb_str_list | exact kb_str_bool | exact kb_str_str | exact kb_int_tuple | exact kb_int_list | exact kb_int_bool | exact kb_int_str | exact kb_int_int | exact kb_NoneType_tuple | exact kb_NoneType_list))) fun _ => evt_b (ev_isi (gv H r0) (by first | exact kb_tuple_tuple | exact kb_tuple_list | exact kb_list_tuple | exact kb_list_list | exact kb_bool_tuple | exact kb_bool_list | exact kb_bool_bool | exact kb_str_tuple | exact kb_str_list | exact kb_str_bool | exact kb_str_str | exact kb_int_tuple | exact kb_int_list | exact kb_int_bool | exact kb_int_str | exact kb_int_int | exact kb_NoneType_tuple | exact kb_NoneType_list))) (fun _ H1 e1 => ?_) fun z => by cases z
    exact seqCase ds false (.inr rfl) (by first | exact kb_tuple_tuple | exact kb_tuple_list | exact kb_list_tuple | exact kb_list_list | exact kb_bool_tuple | exact kb_bool_list | exact kb_bool_bool | exact kb_str_tuple | exact kb_str_list | exact kb_str_bool | exact kb_str_str | exact kb_int_tuple | exact kb_int_list | exact kb_int_bool | exact kb_int_str | exact kb_int_int | exact kb_NoneType_tuple | exact kb_NoneType_list) (by first | exact kb_tuple_tuple | exact kb_tuple_list | exact kb_list_tuple | exact kb_list_list | exact kb_bool_tuple | exact kb_bool_list | exact kb_bool_bool | exact kb_str_tuple | exact kb_str_list | exact kb_str_bool | exact kb_str_str | exact kb_int_tuple | exact kb_int_list | exact kb_int_bool | exact kb_int_str | exact kb_int_int | exact kb_NoneType_tuple | exact kb_NoneType_list) (of_decide_eq_true hs.1) hs.2 hd' H1 e1 _ rfl
  | none =>
    refine s_ifF (evt_or (b := false) (c := false) (evt_b (ev_isi (gv H r0) (by first | exact kb_tuple_tuple | exact kb_tuple_list | exact kb_list_tuple | exact kb_list_list | exact kb_bool_tuple | exact kb_bool_list | exact kb_bool_bool | exact kb_str_tuple | exact kb_str_list | exact kb_str_bool | exact kb_str_str | exact kb_int_tuple | exact kb_int_list | exact kb_int_bool | exact kb_int_str | exact kb_int_int | exact kb_NoneType_tuple | exact kb_NoneType_list))) fun _ => evt_b (ev_isi (gv H r0) (by first | exact kb_tuple_tuple | exact kb_tuple_list | exact kb_list_tuple | exact kb_list_list | exact kb_bool_tuple | exact kb_bool_list | exact kb_bool_bool | exact kb_str_tuple | exact kb_str_list | exact kb_str_bool | exact kb_str_str | exact kb_int_tuple | exact kb_int_list | exact kb_int_bool | exact kb_int_str | exact kb_int_int | exact kb_NoneType_tuple | exact kb_NoneType_list))) fun H1 e1 => ?_
    refine s_ifs (b := true) (evt_or (b := true) (c := true) (evt_test (ev_isN1 (gv H1 e1))) fun z => by cases z) (fun _ H2 e2 => ?_) fun z => by cases z
    refine s_ret (ev_andV (b' := true) (c := true) (ev_isN1 (gv H2 (e1.trans e2))) fun _ => ev_isN1 (gf H2 (e1.trans e2))) fun u H3 e3 hu => ?_
    have := isBl_get hu
    subst this
    exact k H3 ((e1.trans e2).trans e3)
  | bool b =>
    refine s_ifF (evt_or (b := false) (c := false) (evt_b (ev_isi (gv H r0) (by first | exact kb_tuple_tuple | exact kb_tuple_list | exact kb_list_tuple | exact kb_list_list | exact kb_bool_tuple | exact kb_bool_list | exact kb_bool_bool | exact kb_str_tuple | exact kb_str_list | exact kb_str_bool | exact kb_str_str | exact kb_int_tuple | exact kb_int_list | exact kb_int_bool | exact kb_int_str | exact kb_int_int | exact kb_NoneType_tuple | exact kb_NoneType_list))) fun _ => evt_b (ev_isi (gv H r0) (by first | exact kb_tuple_tuple | exact kb_tuple_list | exact kb_list_tuple | exact kb_list_list | exact kb_bool_tuple | exact kb_bool_list | exact kb_bool_bool | exact kb_str_tuple | exact kb_str_list | exact kb_str_bool | exact kb_str_str | exact kb_int_tuple | exact kb_int_list | exact kb_int_bool | exact kb_int_str | exact kb_int_int | exact kb_NoneType_tuple | exact kb_NoneType_list))) fun H1 e1 => ?_
    refine s_ifF (evt_or (b := false) (c := false) (evt_test (ev_isN (gv H1 e1) (by intro z; cases z))) fun _ => evt_test (ev_isN (gf H1 e1) (by intro z; cases z))) fun H2 e2 => ?_
    have f2 := e1.trans e2
    refine s_ifs (b := true) (evt_or (b := true) (c := true) (evt_b (ev_isi (gv H2 f2) (by first | exact kb_tuple_tuple | exact kb_tuple_list | exact kb_list_tuple | exact kb_list_list | exact kb_bool_tuple | exact kb_bool_list | exact kb_bool_bool | exact kb_str_tuple | exact kb_str_list | exact kb_str_bool | exact kb_str_str | exact kb_int_tuple | exact kb_int_list | exact kb_int_bool | exact kb_int_str | exact kb_int_int | exact kb_NoneType_tuple | exact kb_NoneType_list))) fun z => by cases z) (fun _ H3 e3 => ?_) fun z => by cases z
    have f3 := f2.trans e3
    have dv : ∀ H' v', IsV K (.bool b) H' v' → IsD H' v' (.bool b) := fun H' v' h => isV_dat h (fun _ z => by cases z) fun _ z => by cases z
    refine s_ret (ev_andV (b' := true) (c := true) (ev_isi (gv H3 f3) (by first | exact kb_tuple_tuple | exact kb_tuple_list | exact kb_list_tuple | exact kb_list_list | exact kb_bool_tuple | exact kb_bool_list | exact kb_bool_bool | exact kb_str_tuple | exact kb_str_list | exact kb_str_bool | exact kb_str_str | exact kb_int_tuple | exact kb_int_list | exact kb_int_bool | exact kb_int_str | exact kb_int_int | exact kb_NoneType_tuple | exact kb_NoneType_list)) fun _ => ev_andV (b' := true) (c := true) (ev_isi (gf H3 f3) (by first | exact kb_tuple_tuple | exact kb_tuple_list | exact kb_list_tuple | exact kb_list_list | exact kb_bool_tuple | exact kb_bool_list | exact kb_bool_bool | exact kb_str_tuple | exact kb_str_list | exact kb_str_bool | exact kb_str_str | exact kb_int_tuple | exact kb_int_list | exact kb_int_bool | exact kb_int_str | exact kb_int_int | exact kb_NoneType_tuple | exact kb_NoneType_list)) fun _ => by
      have := ev_eq (P := P) (w := w) (K := K) ((gf H3 f3).imp (dv)) ((gv H3 f3).imp dv) (sh_bool b) (sh_bool b)
      have e5 : PyData.eqv (.bool b) (.bool b) = true := by rw [PyData.eqv]; cases b <;> rfl
      rw [e5] at this
      exact this) fun u H4 e4 hu => ?_
    have := isBl_get hu
    subst this
    exact k H4 (f3.trans e4)
  | str x =>
    refine s_ifF (evt_or (b := false) (c := false) (evt_b (ev_isi (gv H r0) (by first | exact kb_tuple_tuple | exact kb_tuple_list | exact kb_list_tuple | exact kb_list_list | exact kb_bool_tuple | exact kb_bool_list | exact kb_bool_bool | exact kb_str_tuple | exact kb_str_list | exact kb_str_bool | exact kb_str_str | exact kb_int_tuple | exact kb_int_list | exact kb_int_bool | exact kb_int_str | exact kb_int_int | exact kb_NoneType_tuple | exact kb_NoneType_list))) fun _ => evt_b (ev_isi (gv H r0) (by first | exact kb_tuple_tuple | exact kb_tuple_list | exact kb_list_tuple | exact kb_list_list | exact kb_bool_tuple | exact kb_bool_list | exact kb_bool_bool | exact kb_str_tuple | exact kb_str_list | exact kb_str_bool | exact kb_str_str | exact kb_int_tuple | exact kb_int_list | exact kb_int_bool | exact kb_int_str | exact kb_int_int | exact kb_NoneType_tuple | exact kb_NoneType_list))) fun H1 e1 => ?_
    refine s_ifF (evt_or (b := false) (c := false) (evt_test (ev_isN (gv H1 e1) (by intro z; cases z))) fun _ => evt_test (ev_isN (gf H1 e1) (by intro z; cases z))) fun H2 e2 => ?_
    have f2 := e1.trans e2
    refine s_ifF (evt_or (b := false) (c := false) (evt_b (ev_isi (gv H2 f2) kb_str_bool)) fun _ => evt_b (ev_isi (gf H2 f2) kb_str_bool)) fun H3 e3 => ?_
    have f3 := f2.trans e3
    have dv : ∀ H' v', IsV K (.str x) H' v' → IsD H' v' (.str x) := fun H' v' h => isV_dat h (fun _ z => by cases z) fun _ z => by cases z
    have shs : Sh (.str x) := by
      rw [smallD] at hs
      unfold Sh SeqAt.shaped
      rw [hs, Bool.true_and]
      exact decide_eq_true (by rw [PyData.depth]; decide)
    refine s_ifs (b := true) (evt_b (ev_isi (gv H3 f3) kb_str_str)) (fun _ H4 e4 => ?_) fun z => by cases z
    have f4 := f3.trans e4
    refine s_ret (ev_andV (b' := true) (c := true) (ev_isi (gf H4 f4) kb_str_str) fun _ => by
      have := ev_eq (P := P) (w := w) (K := K) ((gf H4 f4).imp (dv)) ((gv H4 f4).imp dv) shs shs
      rw [eqv_str] at this
      exact this) fun u H5 e5 hu => ?_
    have := isBl_get hu
    subst this
    exact k H5 (f4.trans e5)
  | int i =>
    refine s_ifF (evt_or (b := false) (c := false) (evt_b (ev_isi (gv H r0) (by first | exact kb_tuple_tuple | exact kb_tuple_list | exact kb_list_tuple | exact kb_list_list | exact kb_bool_tuple | exact kb_bool_list | exact kb_bool_bool | exact kb_str_tuple | exact kb_str_list | exact kb_str_bool | exact kb_str_str | exact kb_int_tuple | exact kb_int_list | exact kb_int_bool | exact kb_int_str | exact kb_int_int | exact kb_NoneType_tuple | exact kb_NoneType_list))) fun _ => evt_b (ev_isi (gv H r0) (by first | exact kb_tuple_tuple | exact kb_tuple_list | exact kb_list_tuple | exact kb_list_list | exact kb_bool_tuple | exact kb_bool_list | exact kb_bool_bool | exact kb_str_tuple | exact kb_str_list | exact kb_str_bool | exact kb_str_str | exact kb_int_tuple | exact kb_int_list | exact kb_int_bool | exact kb_int_str | exact kb_int_int | exact kb_NoneType_tuple | exact kb_NoneType_list))) fun H1 e1 => ?_
    refine s_ifF (evt_or (b := false) (c := false) (evt_test (ev_isN (gv H1 e1) (by intro z; cases z))) fun _ => evt_test (ev_isN (gf H1 e1) (by intro z; cases z))) fun H2 e2 => ?_
    have f2 := e1.trans e2
    refine s_ifF (evt_or (b := false) (c := false) (evt_b (ev_isi (gv H2 f2) (by first | exact kb_tuple_tuple | exact kb_tuple_list | exact kb_list_tuple | exact kb_list_list | exact kb_bool_tuple | exact kb_bool_list | exact kb_bool_bool | exact kb_str_tuple | exact kb_str_list | exact kb_str_bool | exact kb_str_str | exact kb_int_tuple | exact kb_int_list | exact kb_int_bool | exact kb_int_str | exact kb_int_int | exact kb_NoneType_tuple | exact kb_NoneType_list))) fun _ => evt_b (ev_isi (gf H2 f2) (by first | exact kb_tuple_tuple | exact kb_tuple_list | exact kb_list_tuple | exact kb_list_list | exact kb_bool_tuple | exact kb_bool_list | exact kb_bool_bool | exact kb_str_tuple | exact kb_str_list | exact kb_str_bool | exact kb_str_str | exact kb_int_tuple | exact kb_int_list | exact kb_int_bool | exact kb_int_str | exact kb_int_int | exact kb_NoneType_tuple | exact kb_NoneType_list))) fun H3 e3 => ?_
    have f3 := f2.trans e3
    refine s_ifF (evt_b (ev_isi (gv H3 f3) (by first | exact kb_tuple_tuple | exact kb_tuple_list | exact kb_list_tuple | exact kb_list_list | exact kb_bool_tuple | exact kb_bool_list | exact kb_bool_bool | exact kb_str_tuple | exact kb_str_list | exact kb_str_bool | exact kb_str_str | exact kb_int_tuple | exact kb_int_list | exact kb_int_bool | exact kb_int_str | exact kb_int_int | exact kb_NoneType_tuple | exact kb_NoneType_list))) fun H4 e4 => ?_
    have f4 := f3.trans e4
    have dv : ∀ H' v', IsV K (.int i) H' v' → IsD H' v' (.int i) := fun H' v' h => isV_dat h (fun _ z => by cases z) fun _ z => by cases z
    refine s_ret (ev_andV (b' := true) (c := true) (ev_isi (gf H4 f4) (by first | exact kb_tuple_tuple | exact kb_tuple_list | exact kb_list_tuple | exact kb_list_list | exact kb_bool_tuple | exact kb_bool_list | exact kb_bool_bool | exact kb_str_tuple | exact kb_str_list | exact kb_str_bool | exact kb_str_str | exact kb_int_tuple | exact kb_int_list | exact kb_int_bool | exact kb_int_str | exact kb_int_int | exact kb_NoneType_tuple | exact kb_NoneType_list)) fun _ => by
      have := ev_eqI (P := P) (w := w) (K := K) ((gf H4 f4).imp (dv)) ((gv H4 f4).imp dv)
      rw [decide_eq_true rfl] at this
      exact this) fun u H5 e5 hu => ?_
    have := isBl_get hu
    subst this
    exact k H5 (f4.trans e5)
end
end KC
end

section
set_option Elab.async false
set_option linter.all false
set_option autoImplicit false
set_option maxRecDepth 100000
set_option maxHeartbeats 4000000
/-! The cube stands right by what the law counts. -/
namespace KC
open PySem L2 PySem.W
open Evl (Ex EvT)
/-! ### plain -/
theorem MS.Ts_mem {M : MS} (nd : (M.kept.map (·.1)).Nodup) (T : List Int) : T ∈ M.Ts ↔ (T = rng M.n ∨ getG M.kept T = some true) := by
  unfold MS.Ts
  rw [List.mem_cons]
  refine or_congr Iff.rfl ?_
  constructor
  · intro h
    obtain ⟨e, he, rfl⟩ := List.mem_map.mp h
    obtain ⟨h1, h2⟩ := List.mem_filter.mp he
    have : getG M.kept e.1 = some e.2 := getG_of_mem nd (by rw [show (e.1, e.2) = e from rfl]; exact h1)
    rw [this]
    exact congrArg some h2
  · intro h
    exact List.mem_map.mpr ⟨(T, true), List.mem_filter.mpr ⟨getG_mem h, rfl⟩, rfl⟩
theorem MS.Ts_nd {M : MS} (nd : (M.kept.map (·.1)).Nodup) (nw : rng M.n ∉ M.kept.map (·.1)) : M.Ts.Nodup := by
  unfold MS.Ts
  rw [List.nodup_cons]
  refine ⟨fun h => nw ?_, List.Nodup.sublist (List.Sublist.map _ List.filter_sublist) nd⟩
  obtain ⟨e, he, h1⟩ := List.mem_map.mp h
  exact List.mem_map.mpr ⟨e, (List.mem_filter.mp he).1, h1⟩
def MS.Gs (M : MS) : List (List Int) := (M.kept.filter fun e => !e.2).map (·.1)
theorem MS.Gs_mem {M : MS} (nd : (M.kept.map (·.1)).Nodup) (T : List Int) : T ∈ M.Gs ↔ getG M.kept T = some false := by
  unfold MS.Gs
  constructor
  · intro h
    obtain ⟨e, he, rfl⟩ := List.mem_map.mp h
    obtain ⟨h1, h2⟩ := List.mem_filter.mp he
    have : getG M.kept e.1 = some e.2 := getG_of_mem nd (by rw [show (e.1, e.2) = e from rfl]; exact h1)
    rw [this]
    have : e.2 = false := by simpa using h2
    rw [this]
  · intro h
    exact List.mem_map.mpr ⟨(T, false), List.mem_filter.mpr ⟨getG_mem h, rfl⟩, rfl⟩
theorem MS.Gs_nd {M : MS} (nd : (M.kept.map (·.1)).Nodup) : M.Gs.Nodup := List.Nodup.sublist (List.Sublist.map _ List.filter_sublist) nd
section
variable {P : Program} {w : World} {K : PySem.W.Frag} {C : Addr} {H : Hp} {S : CS} {M : MS}
theorem Both.ts (h : Both P w C H S M) : S.Ts.Perm M.Ts := (List.perm_ext_iff_of_nodup h.c.sk.ok.ndT (MS.Ts_nd h.m.nd h.m.nw)).mpr fun T => (h.tt T).trans (MS.Ts_mem h.m.nd T).symm
theorem Both.gs (h : Both P w C H S M) : (S.gone.map (·.1)).Perm M.Gs := (List.perm_ext_iff_of_nodup h.c.sk.ok.ndG (MS.Gs_nd h.m.nd)).mpr fun T => (h.gg T).trans (MS.Gs_mem h.m.nd T).symm
theorem kept_split (M : MS) : M.kept.Perm ((M.kept.filter fun e => e.2) ++ M.kept.filter fun e => !e.2) := (List.filter_append_perm (fun e : List Int × Bool => e.2) M.kept).symm
theorem Both.len (h : Both P w C H S M) : S.tabs.length + S.gone.length = 1 + M.kept.length := by
  have h1 := h.ts.length_eq
  have h2 := h.gs.length_eq
  have h3 := (kept_split M).length_eq
  unfold CS.Ts MS.Ts at h1
  unfold MS.Gs at h2
  rw [List.length_append] at h3
  rw [List.length_map, List.length_cons, List.length_map] at h1
  rw [List.length_map, List.length_map] at h2
  omega
theorem Both.ex {H' : Hp} (e : Ex H H') (h : Both P w C H S M) : Both P w C H' S M := ⟨h.c.ex e, h.m.ex e, h.nn, h.bb, h.tt, h.gg, h.apart⟩
end
theorem sum_perm {l m : List Int} (p : l.Perm m) : l.sum = m.sum := by
  induction p with
  | nil => rfl
  | cons x _ ih => rw [List.sum_cons, List.sum_cons, ih]
  | swap x y l => rw [List.sum_cons, List.sum_cons, List.sum_cons, List.sum_cons]; omega
  | trans _ _ i j => exact i.trans j
theorem dT_inj {S T : List Int} (h : dT S = dT T) : S = T := by
  have := eqv_T S T
  rw [h, eqv_T] at this
  have h2 : decide (T = T) = true := decide_eq_true rfl
  rw [h2] at this
  exact of_decide_eq_true this.symm
theorem srt2_perm {L M : List (List Int × Option Nat)} (p : L.Perm M) (nd : (L.map (·.1)).Nodup) : srt2 L = srt2 M := by
  have tot : TotalLe fun a b : List Int × Option Nat => dle (dT a.1) (dT b.1) := ⟨fun a b c => dle_total.trans _ _ _, fun a b => dle_total.total _ _⟩
  refine sorted_unique (((List.mergeSort_perm L _).trans p).trans (List.mergeSort_perm M _).symm) (sort_pairwise tot L) (sort_pairwise tot M) fun a ha b hb h1 h2 => ?_
  have ha' := (List.mergeSort_perm L _).mem_iff.mp ha
  have hb' := (List.mergeSort_perm L _).mem_iff.mp hb
  have e := dT_inj (eq_of_le (pure_T a.1) (pure_T b.1) (alike_T _ _) h1 h2)
  have g1 := getG_of_mem nd (show (a.1, a.2) ∈ L from ha')
  have g2 := getG_of_mem nd (show (b.1, b.2) ∈ L from hb')
  rw [e, g2] at g1
  exact Prod.ext e (Option.some.inj g1).symm
/-- what the law says of a table -/
def kO (M : MS) (e : List Int × Bool) : List Int × Option Nat := (e.1, if e.2 = true then some (cntT M.rows e.1) else none)
theorem due_perm {P : Program} {w : World} {C : Addr} {H : Hp} {S : CS} {M : MS} (h : Both P w C H S M) :
    (S.tabs.map (fun e => (e.1, some (cntT S.B e.1))) ++ S.gone.map fun e => (e.1, (none : Option Nat))).Perm (M.kept.map (kO M) ++ [(rng M.n, some (cntT M.rows (rng M.n)))]) := by
  have e1 : S.tabs.map (fun e => (e.1, some (cntT S.B e.1))) = S.Ts.map fun T => (T, some (cntT M.rows T)) := by
    unfold CS.Ts
    rw [List.map_map]
    refine List.map_congr_left fun e _ => ?_
    show (e.1, some (cntT S.B e.1)) = (e.1, some (cntT M.rows e.1))
    rw [cntT_perm h.bb]
  have e2 : S.gone.map (fun e => (e.1, (none : Option Nat))) = (S.gone.map (·.1)).map fun T => (T, none) := by rw [List.map_map]; rfl
  have p1 : (S.Ts.map fun T => (T, some (cntT M.rows T))).Perm (M.Ts.map fun T => (T, some (cntT M.rows T))) := h.ts.map _
  have p2 : ((S.gone.map (·.1)).map fun T => (T, (none : Option Nat))).Perm (M.Gs.map fun T => (T, none)) := h.gs.map _
  have e3 : M.Ts.map (fun T => (T, some (cntT M.rows T))) = (rng M.n, some (cntT M.rows (rng M.n))) :: (M.kept.filter fun e => e.2).map (kO M) := by
    unfold MS.Ts
    rw [List.map_cons, List.map_map]
    congr 1
    refine List.map_congr_left fun e he => ?_
    have := (List.mem_filter.mp he).2
    show (e.1, some (cntT M.rows e.1)) = (e.1, if e.2 = true then some (cntT M.rows e.1) else none)
    rw [if_pos this]
  have e4 : M.Gs.map (fun T => (T, (none : Option Nat))) = (M.kept.filter fun e => !e.2).map (kO M) := by
    unfold MS.Gs
    rw [List.map_map]
    refine List.map_congr_left fun e he => ?_
    have := (List.mem_filter.mp he).2
    have : ¬ e.2 = true := by simpa using this
    show (e.1, none) = (e.1, if e.2 = true then some (cntT M.rows e.1) else none)
    rw [if_neg this]
  rw [e1, e2]
  refine (p1.append p2).trans ?_
  rw [e3, e4, List.cons_append, ← List.map_append]
  refine ((kept_split M).symm.map (kO M)).cons _ |>.trans ?_
  exact (List.perm_append_singleton _ _).symm
theorem small_T {L : List Int} (h : L.length ≤ 1000) : smallD (dT L) = true := by
  have : smallAll (L.map PyData.int) = true := by
    clear h
    induction L with
    | nil => rw [List.map_nil, smallAll]
    | cons x L ih => rw [List.map_cons, smallAll, smallD, ih]; rfl
  rw [smallD, this, List.length_map, decide_eq_true h]; rfl
theorem smallAll_of {ds : List PyData} (h : ∀ d ∈ ds, smallD d = true) : smallAll ds = true := by
  induction ds with
  | nil => rw [smallAll]
  | cons x ds ih => rw [smallAll, h x List.mem_cons_self, ih fun d hd => h d (List.mem_cons_of_mem _ hd)]; rfl
theorem depthAll_of {ds : List PyData} {k : Nat} (h : ∀ d ∈ ds, d.depth ≤ k) : PyData.depthAll ds ≤ k := by
  induction ds with
  | nil => rw [PyData.depthAll]; exact Nat.zero_le _
  | cons x ds ih =>
    rw [PyData.depthAll]
    have := h x List.mem_cons_self
    have := ih fun d hd => h d (List.mem_cons_of_mem _ hd)
    omega
theorem small_list {ds : List PyData} (hl : ds.length ≤ 1000) (h : ∀ d ∈ ds, smallD d = true) : smallD (.list ds) = true := by rw [smallD, decide_eq_true hl, smallAll_of h]; rfl
theorem pair_ok (e : List Int × Option Nat) (h : e.1.length ≤ 1000) : smallD (pairD e) = true ∧ (pairD e).depth ≤ 2 := by
  obtain ⟨T, o⟩ := e
  have d1 := depth_T' T
  have s1 : smallD (dT T) = true := small_T h
  cases o with
  | none =>
    refine ⟨?_, ?_⟩
    · show smallD (.tuple [dT T, .none]) = true
      rw [smallD, smallAll, smallAll, smallAll, s1, smallD]; rfl
    · show (PyData.tuple [dT T, .none]).depth ≤ 2
      rw [PyData.depth.eq_def]
      show PyData.depthAll [_, _] + 1 ≤ 2
      rw [PyData.depthAll, PyData.depthAll, PyData.depthAll, show PyData.none.depth = 0 by rw [PyData.depth]]
      omega
  | some c =>
    refine ⟨?_, ?_⟩
    · show smallD (.tuple [dT T, .int c]) = true
      rw [smallD, smallAll, smallAll, smallAll, s1, smallD]; rfl
    · show (PyData.tuple [dT T, .int c]).depth ≤ 2
      rw [PyData.depth.eq_def]
      show PyData.depthAll [_, _] + 1 ≤ 2
      rw [PyData.depthAll, PyData.depthAll, PyData.depthAll, depth_i]
      omega
section
variable {P : Program} {w : World} {K : PySem.W.Frag} {mg : Str → Option Value} {n : Nm}
theorem ev_alike {te tf : TE} {σ : L2.St} {H : Hp} {d : PyData} {p q : PV} [Mn p] [Mn q] (ha : EvP te σ H p) (hb : EvP tf σ H q) (h1 : ∀ H v, p H v → IsV K d H v) (h2 : ∀ H v, q H v → IsV K d H v) (hd : d.depth < 6) (hs : smallD d = true) :
    EvP (tCall (sp_law_alike P w K n) [] E0 (tCons te (tCons tf tNil))) σ H (Is (.bool true)) :=
  ev_call (ps := [p, q]) (eas_cons ha (eas_cons hb eas_nil)) fun vs H1 e1 hv Q k => by
    obtain ⟨u, v, rfl, q1, q2⟩ := als2 hv
    exact ⟨u, v, d, rfl, h1 _ _ q1, h2 _ _ q2, hd, hs, fun H2 e2 => k _ H2 e2 (IsD.bl true)⟩
theorem ev_size {tm tt : TE} {σ : L2.St} {H : Hp} {M : MS} {L : List Int} (hm : EvP tm σ H (IsR (.ref M.p))) (ht : EvP tt σ H (Is (dT L))) (hM : MR H M) (hL : Tab M.n L) (hr : M.rows.length < 64) : EvP (tCall (sp_law_size P w K n) [] E0 (tCons tm (tCons tt tNil))) σ H (Is (.int (cntT M.rows L : Nat))) :=
  ev_call (ps := [IsR (.ref M.p), Is (dT L)]) (eas_cons hm (eas_cons ht eas_nil)) fun vs H1 e1 hvs Q q => by
    obtain ⟨u1, u2, rfl, q1, q2⟩ := als2 hvs
    have q1 : u1 = .ref M.p := q1
    subst q1
    exact ⟨M, u2, L, rfl, hM.ex e1, q2, hL, hr, fun H2 e2 => q _ H2 e2 (IsD.int _)⟩
theorem isV_of {H : Hp} {d : PyData} {v : V} (h : IsD H v d) : IsV K d H v := .dat h
theorem isV_l {H : Hp} {ds : List PyData} {v : V} (h : IsL K ds H v) : IsV K (.list ds) H v := by
  obtain ⟨a, xs, rfl, h1, h2⟩ := h
  exact .lst h1 (dxs_of h2)
theorem pure_law_right {vs : List V} {H : Hp} {Q : VK} {E : XK} (T : Txt K mg n) (h : sp_law_right P w K n vs H Q E) : t_law_right P w K n E0 { nx := fun _ H' => Q .non H', rt := Q } (start ["_law_cube", "_law_m", "_law_due", "_law_table_here"] vs) H := by
  obtain ⟨S, M, rfl, hB, hrows, k⟩ := h
  have hM := hB.m
  obtain ⟨rows, hrow, hDD⟩ := id hM.kn
  have hlim := hM.lim
  have hn4 := hM.n4
  have nkA : M.p ≠ M.kA ∧ M.rA ≠ M.kA := by
    have := hM.foot
    simp [MS.foot] at this
    exact ⟨this.1.2, this.2⟩
  have h1 := evf_lcD (P := P) (w := w) (K := K) (g := gName 3) (tt := tYes) (te := tTupF (tCons (tVar 3) (tCons (tIf (tB (tOp (rIxU P w K) (tDGet (tVar 1) (tC (.str "kept"))) (tVar 3))) (tCall (sp_law_size P w K n) [] E0 (tCons (tVar 1) (tCons (tVar 3) tNil))) (tC .non)) tNil))) (vs := [3])
    (σ := start ["_law_cube", "_law_m", "_law_due", "_law_table_here"] [.ref S.p, .ref M.p]) (td := tDGet (tVar 1) (tC (.str "kept"))) (fun _ => true) (fun e => pairD (kO M e)) M.kept (fun e => encT e.1) hrow
    (Paired.mapP hDD fun a b q => ⟨q.1, q.2.1⟩) (by omega) (fun od H' lk => ev_mkept (M := M) (ev_ref rfl) (lk.1 _ _ nkA.1 hM.ob)) fun x hx v od H' lk hv => turn_of evt_yes fun _ => by
      rw [data_T] at hv
      have hob : H' M.p = some (.dK (mkv M)) := lk.1 _ _ nkA.1 hM.ob
      have hmr : MR H' M := ⟨hM.n1, hM.n4, hob, (let ⟨xs, p1, p2⟩ := hM.rl; ⟨xs, lk.1 _ _ nkA.2 p1, p2.mono (lk.tp hrow)⟩), hM.rows, hM.lenB⟩
      have g3 : EvP (tVar 3) ((wipe (start ["_law_cube", "_law_m", "_law_due", "_law_table_here"] [.ref S.p, .ref M.p]) [3]).set 3 (some v)) H' (Is (dT x.1)) := ev_var (v := v) rfl hv
      have gb : EvT (tB (tOp (rIxU P w K) (tDGet (tVar 1) (tC (.str "kept"))) (tVar 3))) ((wipe (start ["_law_cube", "_law_m", "_law_due", "_law_table_here"] [.ref S.p, .ref M.p]) [3]).set 3 (some v)) H' x.2 := evt_b ((ev_ixD mv_bl (d := M.kA) (k := x.1) (m := M.kept) (x := x.2) (ev_mkept (M := M) (ev_ref rfl) hob) (ev_K g3) ⟨rows, lk.rd, hDD.mono mv_bl (lk.tp hrow)⟩ (getG_of_mem hM.nd (by rw [show (x.1, x.2) = x from rfl]; exact hx))).imp fun H v h => by
        have h : v = .bl x.2 := h
        subst h
        exact IsD.bl _)
      have gi := ev_if (p := Is (o2d (kO M x).2)) gb (fun z => by
        show EvP _ _ _ (Is (o2d (if x.2 = true then some (cntT M.rows x.1) else none)))
        rw [if_pos z]
        exact ev_size (P := P) (w := w) (K := K) (n := n) (M := M) (ev_ref (i := 1) rfl) g3 hmr (hM.tab _ (List.mem_map.mpr ⟨x, hx, rfl⟩)) hrows) (fun z => by
        show EvP _ _ _ (Is (o2d (if x.2 = true then some (cntT M.rows x.1) else none)))
        rw [if_neg (by rw [z]; simp)]
        exact ev_non)
      rw [pairD_eq]
      exact ev_tup (eds_cons g3 (eds_cons gi eds_nil)) (by simp)
  rw [filter_all] at h1
  refine s_lockAsg h1 fun a xs H1 na e1 ha hx => ?_
  have hB1 := hB.ex e1
  have er1 : M.kept.map (fun e => pairD (kO M e)) = (M.kept.map (kO M)).map pairD := by rw [List.map_map]; rfl
  rw [er1] at hx
  show tSeq _ _ _ [some (.ref S.p), some (.ref M.p), some (.ref a), none] H1
  have gr : EvP (tTupRgF (tRg1 (tDGet (tVar 1) (tC (.str "edges"))))) [some (.ref S.p), some (.ref M.p), some (.ref a), none] H1 (Is (dT (rng M.n))) := ev_tupRg (ev_medges (M := M) (ev_ref rfl) hB1.m.ob) (by omega)
  have h2 := evf_lst (ds := [pairD (rng M.n, some (cntT M.rows (rng M.n)))]) (eds_cons (ev_tup (ds := [dT (rng M.n), .int (cntT M.rows (rng M.n) : Nat)]) (eds_cons gr (eds_cons (ev_size (P := P) (w := w) (K := K) (n := n) (M := M) (ev_ref (i := 1) rfl) gr hB1.m.mr (tab_rng _) hrows) eds_nil)) (by simp)) eds_nil) (by simp)
  have h3 := evf_cat (K := K) (a := tVar 2) (ev_var (p := IsM _) rfl (m_at ha hx)) h2 (by rw [List.length_map, List.length_map]; show _ + 1 ≤ 5000; omega)
  have er2 : (M.kept.map (kO M)).map pairD ++ [pairD (rng M.n, some (cntT M.rows (rng M.n)))] = (M.kept.map (kO M) ++ [(rng M.n, some (cntT M.rows (rng M.n)))]).map pairD := by rw [List.map_append]; rfl
  rw [er2] at h3
  have hp := due_perm hB
  have ndC : ((S.tabs.map (fun e => (e.1, some (cntT S.B e.1))) ++ S.gone.map fun e => (e.1, (none : Option Nat))).map (·.1)).Nodup := by
    rw [List.map_append, List.map_map, List.map_map]
    exact List.nodup_append.mpr ⟨hB.c.sk.ok.ndT, hB.c.sk.ok.ndG, fun a ha b hb z => hB.c.sk.ok.dis a ha (z ▸ hb)⟩
  have ndM : ((M.kept.map (kO M) ++ [(rng M.n, some (cntT M.rows (rng M.n)))]).map (·.1)).Nodup := (hp.map _).nodup_iff.mp ndC
  refine s_asgF (evf_sortP (w := w) (h3.l (K := K)) ndM (by rw [List.length_append, List.length_map]; show _ + 1 ≤ 1000; omega)) fun b ys H2 nb e2 hb hy => ?_
  rw [← srt2_perm hp ndC] at hy
  have hB2 := hB1.ex e2
  show tSeq _ _ _ [some (.ref S.p), some (.ref M.p), some (.ref b), none] H2
  have hlen := hB.len
  have hall : ∀ d ∈ (srt2 (S.tabs.map (fun e => (e.1, some (cntT S.B e.1))) ++ S.gone.map fun e => (e.1, (none : Option Nat)))).map pairD, smallD d = true ∧ d.depth ≤ 2 := fun d hd => by
    obtain ⟨e, he, rfl⟩ := List.mem_map.mp hd
    refine pair_ok e ?_
    have he := (List.mergeSort_perm _ _).mem_iff.mp he
    rcases List.mem_append.mp he with he | he
    · obtain ⟨x, hx, rfl⟩ := List.mem_map.mp he
      have := (hB.c.sk.ok.tab x.1 (List.mem_map.mpr ⟨x, hx, rfl⟩)).len hB.c.sk.ok.n4
      show x.1.length ≤ 1000
      omega
    · obtain ⟨x, hx, rfl⟩ := List.mem_map.mp he
      have := (hB.c.sk.ok.tabG x.1 (List.mem_map.mpr ⟨x, hx, rfl⟩)).len hB.c.sk.ok.n4
      show x.1.length ≤ 1000
      omega
  have gk := evf_meth (C := n.cube) (o := S.p) (dx := S.dx) (m := "kept") (sp := sp_c_kept P w K n) (E := E0) (te := tVar 0) (ta := tNil) (σ := [some (.ref S.p), some (.ref M.p), some (.ref b), none]) (H := H2) (fs := cfs S) (ps := []) (ds := (srt2 (S.tabs.map (fun e => (e.1, some (cntT S.B e.1))) ++ S.gone.map fun e => (e.1, (none : Option Nat)))).map pairD) (ev_ref rfl) hB2.c.sk.ob (m_kept S) eas_nil fun vs H3 e3 hv Q' q => by
    cases vs with
    | nil => exact ⟨S, rfl, hB2.c.ex e3, q⟩
    | cons _ _ => exact hv.elim
  refine s_ifF (evt_not (b := true) (evt_b (ev_alike (K := K) (d := .list ((srt2 (S.tabs.map (fun e => (e.1, some (cntT S.B e.1))) ++ S.gone.map fun e => (e.1, (none : Option Nat)))).map pairD)) (gk.l (K := K)) (ev_var (p := IsL K _) (v := .ref b) rfl (isL_at hb hy)) (fun _ _ => isV_l) (fun _ _ => isV_l) (by
    rw [PyData.depth]
    have := depthAll_of (k := 2) fun d hd => (hall d hd).2
    omega) (small_list (by
      unfold srt2
      rw [List.length_map, List.length_mergeSort, List.length_append, List.length_map, List.length_map]
      omega) fun d hd => (hall d hd).1)))) fun H3 e3 => ?_
  have hB3 := hB2.ex e3
  have gro : EvP (tMeth n.cube "room" (sp_c_room P w K n) [] E0 (tVar 0) tNil) [some (.ref S.p), some (.ref M.p), some (.ref b), none] H3 (Is (.int ((S.Ts.map fun T => (cntT S.B T : Int)).sum))) :=
    ev_meth (ps := []) (ev_ref rfl) hB3.c.sk.ob (m_room S) eas_nil fun vs H4 e4 hv Q' q => by
      cases vs with
      | nil => exact ⟨S, rfl, hB3.c.ex e4, fun H5 e5 => q _ H5 e5 (IsD.int _)⟩
      | cons _ _ => exact hv.elim
  have gst : EvF (tCall (sp_law_standing P w K n) [] E0 (tCons (tVar 1) tNil)) [some (.ref S.p), some (.ref M.p), some (.ref b), none] H3 (M.Ts.map dT) :=
    evf_call (ps := [IsR (.ref M.p)]) (eas_cons (ev_ref rfl) eas_nil) fun vs H4 e4 hv Q' q => by
      obtain ⟨u, rfl, q1⟩ := als1 hv
      have q1 : u = .ref M.p := q1
      subst q1
      exact ⟨M, rfl, hB3.m.ex e4, q⟩
  have hTl : M.Ts.length ≤ 1000 := by
    unfold MS.Ts
    rw [List.length_cons, List.length_map]
    have := List.length_filter_le (fun e : List Int × Bool => e.2) M.kept
    omega
  have hTt : ∀ T ∈ M.Ts, Tab M.n T := fun T hT => by
    unfold MS.Ts at hT
    rcases List.mem_cons.mp hT with rfl | hT
    · exact tab_rng _
    · obtain ⟨e, he, rfl⟩ := List.mem_map.mp hT
      exact hM.tab _ (List.mem_map.mpr ⟨e, (List.mem_filter.mp he).1, rfl⟩)
  have gl := evf_lc (P := P) (w := w) (K := K) (g := gName 3) (tt := tYes) (te := tCall (sp_law_size P w K n) [] E0 (tCons (tVar 1) (tCons (tVar 3) tNil))) (vs := [3]) (σ := [some (.ref S.p), some (.ref M.p), some (.ref b), none]) (H := H3) (tl := tCall (sp_law_standing P w K n) [] E0 (tCons (tVar 1) tNil)) dT (fun _ => true) (fun T => .int (cntT M.rows T : Nat)) M.Ts (gst.l (K := K)).sq (line1000 hTl)
    fun x hx v H' e hv => turn_of evt_yes fun _ => ev_size (P := P) (w := w) (K := K) (n := n) (M := M) (ev_ref (i := 1) rfl) (ev_var (v := v) rfl hv) (hB3.m.mr.ex e) (hTt x hx) hrows
  rw [filter_all] at gl
  have er3 : M.Ts.map (fun T => PyData.int (cntT M.rows T : Nat)) = dI (M.Ts.map fun T => (cntT M.rows T : Int)) := by
    show _ = (M.Ts.map fun T => (cntT M.rows T : Int)).map PyData.int
    rw [List.map_map]; rfl
  rw [er3] at gl
  have gs := ev_sum (gl.l (K := K))
  have es : (M.Ts.map fun T => (cntT M.rows T : Int)).sum = (S.Ts.map fun T => (cntT S.B T : Int)).sum := by
    have e0 : (fun T => (cntT S.B T : Int)) = fun T => (cntT M.rows T : Int) := by
      funext T
      rw [cntT_perm hB.bb]
    rw [e0]
    exact (sum_perm (hB.ts.map _)).symm
  rw [es] at gs
  refine s_ret (ev_alike (K := K) (d := .int _) gro gs (fun _ _ => isV_of) (fun _ _ => isV_of) (by rw [PyData.depth]; decide) (by rw [smallD])) fun v H4 e4 hv => ?_
  have := isBl_get hv
  subst this
  exact k H4 (((e1.trans e2).trans e3).trans e4)
end
end KC
end

section
set_option Elab.async false
set_option linter.all false
set_option autoImplicit false
set_option maxRecDepth 100000
set_option maxHeartbeats 4000000
/-! The law's deed of a table. -/
namespace KC
open PySem L2 PySem.W
open Evl (Ex EvT)
theorem tab3 {N : Nat} {L : List Int} (h : Tab N L) (hN : N ≤ 4) (hw : L ≠ rng N) : L.length ≤ 3 := by
  have nd : L.Nodup := List.Pairwise.imp (fun {a b} q z => by omega) h.1
  have hsub : ∀ x ∈ L, x ∈ rng N := sub_mem (sub_rng h)
  have hl := nd_len nd hsub
  rw [rng_len] at hl
  by_cases z : L.length = N
  · exfalso
    refine hw (asc_unique h.1 (tab_rng N).1 fun k => ⟨hsub k, fun hk => ?_⟩)
    by_cases y : k ∈ L
    · exact y
    · have := nd_len (l := k :: L) (m := rng N) (List.nodup_cons.mpr ⟨y, nd⟩) fun x hx => by
        rcases List.mem_cons.mp hx with e | hx
        · rw [e]; exact hk
        · exact hsub x hx
      rw [List.length_cons, rng_len] at this
      omega
  · omega
section
variable {P : Program} {w : World} {K : PySem.W.Frag} {mg : Str → Option Value} {n : Nm} {C : Addr} {H H' : Hp} {S : CS} {M : MS} {L : List Int}
theorem m_tracked (h : MAt P w H M) : ∀ a ∈ M.foot, H a ≠ none := by
  intro a ha z
  simp only [MS.foot, List.mem_cons, List.not_mem_nil, or_false] at ha
  rcases ha with rfl | rfl | rfl
  · rw [h.ob] at z; cases z
  · obtain ⟨xs, h1, _⟩ := h.rl
    rw [h1] at z; cases z
  · obtain ⟨rows, h1, _⟩ := h.kn
    rw [h1] at z; cases z
theorem m_apart (h : MAt P w H M) : M.p ≠ M.rA ∧ M.p ≠ M.kA ∧ M.rA ≠ M.kA := by
  have := h.foot
  simp [MS.foot] at this
  exact ⟨this.1.1, this.1.2, this.2⟩
theorem MAt.setK {k : List (List Int × Bool)} (h : MAt P w H M) (f : Fr [M.kA] H H') (hk : DAt P w encT vBl H' M.kA k) (ht : ∀ T ∈ k.map (·.1), Tab M.n T ∧ T ≠ rng M.n) (nd : (k.map (·.1)).Nodup) (hl : k.length ≤ 900) : MAt P w H' { M with kept := k } := by
  obtain ⟨a1, a2, a3⟩ := m_apart h
  refine ⟨h.n1, h.n4, h.w1, h.w2, f.1 _ _ h.ob (by simpa using a2), (let ⟨xs, p1, p2⟩ := h.rl; ⟨xs, f.1 _ _ p1 (by simpa using a3), p2.mono f.2⟩), hk, h.foot, h.rows, h.lenB, fun T hT => (ht T hT).1, nd, fun z => (ht _ z).2 rfl, hl⟩
theorem put_keys {κ α : Type} [DecidableEq κ] {m : List (κ × α)} {k j : κ} {v : α} (h : j ∈ (putG m k v).map (·.1)) : j ∈ m.map (·.1) ∨ j = k := by
  rw [keys_put] at h
  split at h
  · exact .inl h
  · rcases List.mem_append.mp h with h | h
    · exact .inl h
    · exact .inr (List.mem_singleton.mp h)
theorem MAt.putK {b : Bool} (h : MAt P w H M) (f : Fr [M.kA] H H') (hk : DAt P w encT vBl H' M.kA (putG M.kept L b)) (hL : Tab M.n L) (hw : L ≠ rng M.n) (hl : M.kept.length ≤ 400) : MAt P w H' { M with kept := putG M.kept L b } :=
  h.setK f hk (fun T hT => by
    rcases put_keys hT with h1 | rfl
    · exact ⟨h.tab T h1, fun z => h.nw (z ▸ h1)⟩
    · exact ⟨hL, hw⟩) (nd_put _ _ h.nd) (by have := length_put M.kept L b; omega)
theorem MAt.dropK (h : MAt P w H M) (f : Fr [M.kA] H H') (hk : DAt P w encT vBl H' M.kA (dropG M.kept L)) : MAt P w H' { M with kept := dropG M.kept L } :=
  h.setK f hk (fun T hT => by
    have h1 := (mem_dropG.mp hT).1
    exact ⟨h.tab T h1, fun z => h.nw (z ▸ h1)⟩) (nd_drop _ h.nd) (by have := length_drop M.kept L; have := h.lim; omega)
theorem foot_add {d : Addr} {g : List (List Int × Bool)} : ∀ a ∈ ({ S with tabs := S.tabs ++ [(L, d)], gone := g } : CS).foot, a ∈ S.foot ∨ a = d := by
  intro a ha
  have ha : a ∈ S.p :: S.iA :: S.kA :: S.gA :: (S.tabs ++ [(L, d)]).map (·.2) := ha
  rw [List.map_append] at ha
  simp only [CS.foot, List.mem_cons, List.mem_append, List.map_cons, List.map_nil, List.not_mem_nil, or_false] at ha ⊢
  rcases ha with h | h | h | h | h | h
  · exact .inl (.inl h)
  · exact .inl (.inr (.inl h))
  · exact .inl (.inr (.inr (.inl h)))
  · exact .inl (.inr (.inr (.inr (.inl h))))
  · exact .inl (.inr (.inr (.inr (.inr h))))
  · exact .inr h
theorem foot_drop {g : List (List Int × Bool)} : ∀ a ∈ ({ S with tabs := dropG S.tabs L, gone := g } : CS).foot, a ∈ S.foot := by
  intro a ha
  have ha : a ∈ S.p :: S.iA :: S.kA :: S.gA :: (dropG S.tabs L).map (·.2) := ha
  simp only [CS.foot, List.mem_cons] at ha ⊢
  rcases ha with h | h | h | h | h
  · exact .inl h
  · exact .inr (.inl h)
  · exact .inr (.inr (.inl h))
  · exact .inr (.inr (.inr (.inl h)))
  · obtain ⟨e, he, rfl⟩ := List.mem_map.mp h
    exact .inr (.inr (.inr (.inr (List.mem_map.mpr ⟨e, (List.mem_filter.mp he).1, rfl⟩))))
theorem x_alike1 {te : TE} {σ : L2.St} {sp : Sp} {E : XK} {Q : VK} {i : Nat} (h : te σ H fun x H1 => ∃ y, σ[i]? = some (some y) ∧ sp [x, y] H1 Q E) : tCall sp [] E (tCons te (tCons (tVar i) tNil)) σ H Q := h
theorem s_rawRet {te : TE} {σ : L2.St} {D : Ends} (h : te σ H D.rt) : tRet te D σ H := h
theorem s_retIsN {te : TE} {σ : L2.St} {D : Ends} (h : te σ H fun x H1 => rIsN x .non H1 D.rt) : tRet (tOp rIsN te (tC .non)) D σ H := h
theorem isN_yes {Q : VK} (h : Q (.bl true) H) : rIsN .non .non H Q := ⟨rfl, by rw [decide_eq_true rfl]; exact h⟩
theorem Ts_tab (h : MAt P w H M) : ∀ T ∈ M.Ts, Tab M.n T := fun T hT => by
  unfold MS.Ts at hT
  rcases List.mem_cons.mp hT with rfl | hT
  · exact tab_rng _
  · obtain ⟨e, he, rfl⟩ := List.mem_map.mp hT
    exact h.tab _ (List.mem_map.mpr ⟨e, (List.mem_filter.mp he).1, rfl⟩)
theorem Ts_len (h : MAt P w H M) : M.Ts.length ≤ 1000 := by
  unfold MS.Ts
  rw [List.length_cons, List.length_map]
  have := List.length_filter_le (fun e : List Int × Bool => e.2) M.kept
  have := h.lim
  omega
theorem evf_standing {σ : L2.St} {te : TE} (hp : EvP te σ H (IsR (.ref M.p))) (hM : MAt P w H M) : EvF (tCall (sp_law_standing P w K n) [] E0 (tCons te tNil)) σ H (M.Ts.map dT) :=
  evf_call (ps := [IsR (.ref M.p)]) (eas_cons hp eas_nil) fun vs H4 e4 hv Q' q => by
    obtain ⟨u, rfl, q1⟩ := als1 hv
    have q1 : u = .ref M.p := q1
    subst q1
    exact ⟨M, rfl, hM.ex e4, q⟩
theorem best_small {B : List (List Int × Int)} {Ts : List (List Int)} {T : List Int} (h : (bestR B Ts T).length ≤ 1000) : (dT (bestR B Ts T)).depth < 6 ∧ smallD (dT (bestR B Ts T)) = true := ⟨by have := depth_T' (bestR B Ts T); omega, small_T h⟩
theorem pure_law_deed_of_table {vs : List V} {H : Hp} {Q : VK} {E : XK} (T : Txt K mg n) (h : sp_law_deed_of_table P w K n vs H Q E) : t_law_deed_of_table P w K n E0 { nx := fun _ H' => Q .non H', rt := Q } (start ["_law_cube", "_law_m", "_law_table_here", "_law_way", "_law_road"] vs) H := by
  obtain ⟨S, M, t, L, way, rfl, hB, ht, hL, hw, hrows, hkl, done⟩ := h
  have hM := hB.m
  have hC := hB.c
  have hn4 := hM.n4
  have hL3 := tab3 hL hn4 hw
  have hLS : Tab S.n L := by rw [hB.nn]; exact hL
  have hwS : L ≠ rng S.n := by rw [hB.nn]; exact hw
  have hexM : ∃ R ∈ M.Ts, sub L R = true := ⟨rng M.n, by unfold MS.Ts; exact List.mem_cons_self, sub_rng hL⟩
  obtain ⟨b0, rest, _, hb2, hb3, hb4⟩ := rank_head (B := M.rows) hexM
  have hbT := Ts_tab hM _ hb3
  have hbl : (bestR M.rows M.Ts L).length ≤ 1000 := by
    have := hbT.len hn4
    rw [← hb2]
    omega
  have hbs := best_small hbl
  have hbe : bestR S.B S.Ts L = bestR M.rows M.Ts L := bestR_perm hB.bb hB.ts L
  refine s_asg (p := Is (dT (bestR M.rows M.Ts L))) (ev_call (ps := [IsR (.ref M.p), IsL K (M.Ts.map dT), Is (dT L)]) (eas_cons (ev_ref rfl) (eas_cons ((evf_standing (ev_ref rfl) hM).l (K := K)) (eas_cons (ev_var (v := t) rfl ht) eas_nil))) fun vs H1 e1 hv Q' q => by
    obtain ⟨u1, u2, u3, rfl, q1, q2, q3⟩ := als3 hv
    have q1 : u1 = .ref M.p := q1
    subst q1
    exact ⟨M, u2, u3, M.Ts, L, rfl, hM.ex e1, q2, q3, hL, Ts_tab hM, Ts_len hM, hrows, hL3, hexM, fun v H2 e2 hv2 => q v H2 e2 hv2⟩) fun v4 H1 e1 h4 => ?_
  have hB1 := hB.ex e1
  have ht1 := ht.mono (Tp.of e1)
  show tSeq _ _ _ [some (.ref S.p), some (.ref M.p), some t, some (.int way), some v4] H1
  obtain ⟨a1, a2, a3⟩ := m_apart hM
  have hMkS : M.kA ∉ S.foot := fun z => hB.apart _ z (by simp [MS.foot])
  have hSk : ∀ a ∈ S.foot, a ∉ [M.kA] := fun a ha => by
    simp only [List.mem_singleton]
    exact fun z => hMkS (z ▸ ha)
  have hMS : ∀ a ∈ M.foot, a ∉ S.foot := fun a ha z => hB.apart a z ha
  have gk : ∀ H2, Ex H1 H2 → EvP (tDGet (tVar 1) (tC (.str "kept"))) [some (.ref S.p), some (.ref M.p), some t, some (.int way), some v4] H2 (IsR (.ref M.kA)) := fun H2 e => ev_mkept (M := M) (ev_ref rfl) (e _ _ hB1.m.ob)
  have gt : ∀ H2, Ex H1 H2 → EvP (tVar 2) [some (.ref S.p), some (.ref M.p), some t, some (.int way), some v4] H2 (IsK encT L) := fun H2 e => ev_K (ev_var (v := t) rfl (ht1.mono (Tp.of e)))
  have q1 := evt_test (ev_ninD (P := P) (w := w) (K := K) mv_bl (gt H1 (Ex.refl _)) (gk H1 (Ex.refl _)) hB1.m.kn.rd)
  have hfrM : ∀ {H2 : Hp}, Fr [M.kA] H1 H2 → Fr (S.foot ++ M.foot ++ []) H H2 := fun f => (Fr.ex e1).trans (f.mono fun a ha => by
    have : a = M.kA := by simpa using ha
    subst this
    simp [MS.foot])
  have hfrS : ∀ {H2 H3 : Hp}, Fr S.foot H2 H3 → Fr (S.foot ++ M.foot ++ []) H2 H3 := fun f => f.mono fun a ha => by simp [ha]
  have nnone : ∀ {H2 : Hp} {d : Addr}, Fr [M.kA] H1 H2 → H2 d = none → DAt P w encT vBl H2 M.kA (M.kept) ∨ True → (d ≠ M.kA) → H d = none := fun {H2 d} f hd _ hne => by
    cases z : H d with
    | none => rfl
    | some o =>
      have := f.1 _ _ (e1 _ _ z) (by simpa using hne)
      rw [this] at hd
      cases hd
  have kne : ∀ {H2 : Hp} {d : Addr} {k : List (List Int × Bool)}, DAt P w encT vBl H2 M.kA k → H2 d = none → d ≠ M.kA := fun {H2 d k} h hd z => by
    subst z
    obtain ⟨rows, h1, _⟩ := h
    rw [h1] at hd
    cases hd
  have hlen := hB.len
  cases hg : getG M.kept L with
  | none =>
    rw [hg] at q1
    have hnT : L ∉ S.Ts := fun z => by
      rcases (hB.tt L).mp z with h | h
      · exact hw h
      · rw [hg] at h; cases h
    have hnG : L ∉ S.gone.map (·.1) := fun z => by
      have := (hB.gg L).mp z
      rw [hg] at this; cases this
    refine s_ifs q1 (fun _ H2 e2 => ?_) fun z => by cases z
    have hB2 := hB1.ex e2
    refine s_seq (s_setD mv_bl (d := M.kA) (k := L) (m := M.kept) (x := true) (p := IsR (.bl true)) (ev_c _) (gk H2 e2) (gt H2 e2) (fun _ _ h => h) hB2.m.kn (by omega) fun H3 f3 hk3 => ?_)
    have f13 : Fr [M.kA] H1 H3 := (Fr.ex e2).trans f3
    have hM3 := hB1.m.putK f13 hk3 hL hw hkl
    have hC3 := hB1.c.fr f13 hSk
    refine s_rawRet (x_alike1 (x_meth (ps := [Is (dT L)]) (ev_ref rfl) hC3.sk.ob (m_keep S) (eas_cons (ev_var (v := t) rfl (ht1.mono f13.2)) eas_nil) fun vs H4 e4 hvs => ?_))
    obtain ⟨u, rfl, p1⟩ := als1 hvs
    refine ⟨S, u, L, rfl, hC3.ex e4, p1, hLS, hnT, hnG, by omega, fun v d H5 nd f5 hv5 hC5 => ?_⟩
    have nd3 : H3 d = none := Evl.fresh_back e4 nd
    have nd0 : H d = none := nnone f13 nd3 (.inr trivial) (kne hk3 nd3)
    rw [hbe] at hv5
    refine ⟨v4, rfl, v, v4, _, rfl, .dat hv5, .dat (((IsD.mono f13.2 h4).mono (Tp.of e4)).mono f5.2), hbs.1, hbs.2, fun H6 e6 => ?_⟩
    have hM5 : MAt P w H5 { M with kept := putG M.kept L true } := (hM3.ex e4).fr f5 hMS
    refine done { S with tabs := S.tabs ++ [(L, d)] } { M with kept := putG M.kept L true } H6 rfl rfl rfl rfl (Nat.le_succ _) (length_put _ _ _) (fun a ha => (foot_add a ha).imp id fun z => by rw [z]; exact nd0) (((hfrM f13).trans (Fr.ex e4)).trans ((hfrS f5).trans (Fr.ex e6))) (Both.ex e6 ⟨hC5, hM5, hB.nn, hB.bb, fun U => ?_, fun U => ?_, fun a ha => ?_⟩)
    · show U ∈ (S.tabs ++ [(L, d)]).map (·.1) ↔ (U = rng M.n ∨ getG (putG M.kept L true) U = some true)
      rw [List.map_append, List.mem_append, get_put]
      have := hB.tt U
      by_cases z : U = L
      · subst z; simp
      · rw [if_neg z, ← this]
        simp [z, CS.Ts]
    · show U ∈ S.gone.map (·.1) ↔ getG (putG M.kept L true) U = some false
      rw [get_put]
      by_cases z : U = L
      · subst z; simp [hnG]
      · rw [if_neg z]; exact hB.gg U
    · rcases foot_add a ha with h | h
      · exact hB.apart a h
      · subst h
        exact fun z => m_tracked hM _ z nd0
  | some b =>
    rw [hg] at q1
    have hb1 : ∀ H2, Ex H1 H2 → EvT (tB (tOp (rIxU P w K) (tDGet (tVar 1) (tC (.str "kept"))) (tVar 2))) [some (.ref S.p), some (.ref M.p), some t, some (.int way), some v4] H2 b := fun H2 e => evt_b ((ev_ixD mv_bl (d := M.kA) (k := L) (m := M.kept) (x := b) (gk H2 e) (gt H2 e) (hB1.m.kn.ex mv_bl e).rd hg).imp fun H v h => by
      have h : v = .bl b := h
      subst h
      exact IsD.bl _)
    have hputl : (putG M.kept L true).length ≤ M.kept.length + 1 := length_put _ _ _
    refine s_ifF q1 fun H2 e2 => ?_
    have hB2 := hB1.ex e2
    refine s_ifs (evt_and (evt_not (hb1 H2 e2)) fun _ => evt_test (ev_lt (ev_vi (i := 3) (z := way) rfl) (ev_int 9))) (fun zb H3 e3 => ?_) fun zb H3 e3 => ?_
    · -- rebuild
      have hbf : b = false := by cases b with
        | false => rfl
        | true => cases zb
      subst hbf
      have e13 := e2.trans e3
      have hnT : L ∉ S.Ts := fun z => by
        rcases (hB.tt L).mp z with h | h
        · exact hw h
        · rw [hg] at h; cases h
      have hG : L ∈ S.gone.map (·.1) := (hB.gg L).mpr hg
      refine s_seq (s_setD mv_bl (d := M.kA) (k := L) (m := M.kept) (x := true) (p := IsR (.bl true)) (ev_c _) (gk H3 e13) (gt H3 e13) (fun _ _ h => h) (hB1.m.kn.ex mv_bl e13) (by omega) fun H4 f4 hk4 => ?_)
      have f14 : Fr [M.kA] H1 H4 := (Fr.ex e13).trans f4
      have hM4 := hB1.m.putK f14 hk4 hL hw hkl
      have hC4 := hB1.c.fr f14 hSk
      refine s_rawRet (x_alike1 (x_meth (ps := [Is (dT L)]) (ev_ref rfl) hC4.sk.ob (m_rebuild S) (eas_cons (ev_var (v := t) rfl (ht1.mono f14.2)) eas_nil) fun vs H5 e5 hvs => ?_))
      obtain ⟨u, rfl, p1⟩ := als1 hvs
      refine ⟨S, u, L, rfl, hC4.ex e5, p1, hG, fun v d H6 nd f6 hv6 hC6 => ?_⟩
      have nd4 : H4 d = none := Evl.fresh_back e5 nd
      have nd0 : H d = none := nnone f14 nd4 (.inr trivial) (kne hk4 nd4)
      rw [hbe] at hv6
      refine ⟨v4, rfl, v, v4, _, rfl, .dat hv6, .dat (((IsD.mono f14.2 h4).mono (Tp.of e5)).mono f6.2), hbs.1, hbs.2, fun H7 e7 => ?_⟩
      have hM6 : MAt P w H6 { M with kept := putG M.kept L true } := (hM4.ex e5).fr f6 hMS
      refine done { S with tabs := S.tabs ++ [(L, d)], gone := dropG S.gone L } { M with kept := putG M.kept L true } H7 rfl rfl rfl rfl (Nat.le_succ _) (length_put _ _ _) (fun a ha => (foot_add a ha).imp id fun z => by rw [z]; exact nd0) (((hfrM f14).trans (Fr.ex e5)).trans ((hfrS f6).trans (Fr.ex e7))) (Both.ex e7 ⟨hC6, hM6, hB.nn, hB.bb, fun U => ?_, fun U => ?_, fun a ha => ?_⟩)
      · show U ∈ (S.tabs ++ [(L, d)]).map (·.1) ↔ (U = rng M.n ∨ getG (putG M.kept L true) U = some true)
        rw [List.map_append, List.mem_append, get_put]
        have := hB.tt U
        by_cases z : U = L
        · subst z; simp
        · rw [if_neg z, ← this]
          simp [z, CS.Ts]
      · show U ∈ (dropG S.gone L).map (·.1) ↔ getG (putG M.kept L true) U = some false
        rw [get_put, mem_dropG]
        by_cases z : U = L
        · subst z; simp
        · rw [if_neg z, hB.gg U]; simp [z]
      · rcases foot_add a ha with h | h
        · exact hB.apart a h
        · subst h
          exact fun z => m_tracked hM _ z nd0
    · have e13 := e2.trans e3
      refine s_ifs (evt_and (hb1 H3 e13) fun _ => evt_test (ev_eqI (P := P) (w := w) (K := K) (ev_vi (i := 3) (z := way) rfl) (ev_int 7))) (fun zc H4 e4 => ?_) fun zc H4 e4 => ?_
      · -- lose
        have hbt : b = true := by cases b with
          | true => rfl
          | false => cases zc
        subst hbt
        have e14 := e13.trans e4
        have hTs : L ∈ S.Ts := (hB.tt L).mpr (.inr hg)
        have hnG : L ∉ S.gone.map (·.1) := fun z => by
          have := (hB.gg L).mp z
          rw [hg] at this; cases this
        refine s_seq (s_setD mv_bl (d := M.kA) (k := L) (m := M.kept) (x := false) (p := IsR (.bl false)) (ev_c _) (gk H4 e14) (gt H4 e14) (fun _ _ h => h) (hB1.m.kn.ex mv_bl e14) (by omega) fun H5 f5 hk5 => ?_)
        have f15 : Fr [M.kA] H1 H5 := (Fr.ex e14).trans f5
        have hM5 := hB1.m.putK f15 hk5 hL hw hkl
        have hC5 := hB1.c.fr f15 hSk
        refine s_retIsN (x_meth (ps := [Is (dT L)]) (ev_ref rfl) hC5.sk.ob (m_lose S) (eas_cons (ev_var (v := t) rfl (ht1.mono f15.2)) eas_nil) fun vs H6 e6 hvs => ?_)
        obtain ⟨u, rfl, p1⟩ := als1 hvs
        refine ⟨S, u, L, rfl, hC5.ex e6, p1, hTs, hwS, fun H7 f7 hC7 => isN_yes ?_⟩
        have hM7 : MAt P w H7 { M with kept := putG M.kept L false } := (hM5.ex e6).fr f7 hMS
        refine done { S with tabs := dropG S.tabs L, gone := S.gone ++ [(L, true)] } { M with kept := putG M.kept L false } H7 rfl rfl rfl rfl (Nat.le_succ _) (length_put _ _ _) (fun a ha => .inl (foot_drop a ha)) (((hfrM f15).trans (Fr.ex e6)).trans (hfrS f7)) ⟨hC7, hM7, hB.nn, hB.bb, fun U => ?_, fun U => ?_, fun a ha => hB.apart a (foot_drop a ha)⟩
        · show U ∈ (dropG S.tabs L).map (·.1) ↔ (U = rng M.n ∨ getG (putG M.kept L false) U = some true)
          rw [get_put, mem_dropG]
          have := hB.tt U
          by_cases z : U = L
          · subst z; simp [hw]
          · rw [if_neg z, ← this]; simp [z, CS.Ts]
        · show U ∈ (S.gone ++ [(L, true)]).map (·.1) ↔ getG (putG M.kept L false) U = some false
          rw [get_put, List.map_append, List.mem_append]
          by_cases z : U = L
          · subst z; simp
          · rw [if_neg z, ← hB.gg U]; simp [z]
      · -- drop
        have e14 := e13.trans e4
        have hin : L ∈ S.Ts ∨ L ∈ S.gone.map (·.1) := by
          cases b with
          | true => exact .inl ((hB.tt L).mpr (.inr hg))
          | false => exact .inr ((hB.gg L).mpr hg)
        refine s_seq (s_popD mv_bl (d := M.kA) (k := L) (gk H4 e14) (gt H4 e14) (hB1.m.kn.ex mv_bl e14) hg fun H5 f5 hk5 => ?_)
        have f15 : Fr [M.kA] H1 H5 := (Fr.ex e14).trans f5
        have hM5 := hB1.m.dropK f15 hk5
        have hC5 := hB1.c.fr f15 hSk
        refine s_retIsN (x_meth (ps := [Is (dT L)]) (ev_ref rfl) hC5.sk.ob (m_drop S) (eas_cons (ev_var (v := t) rfl (ht1.mono f15.2)) eas_nil) fun vs H6 e6 hvs => ?_)
        obtain ⟨u, rfl, p1⟩ := als1 hvs
        refine ⟨S, u, L, rfl, hC5.ex e6, p1, hLS, hwS, hin, fun H7 f7 hC7 => isN_yes ?_⟩
        have hM7 : MAt P w H7 { M with kept := dropG M.kept L } := (hM5.ex e6).fr f7 hMS
        refine done { S with tabs := dropG S.tabs L, gone := dropG S.gone L } { M with kept := dropG M.kept L } H7 rfl rfl rfl rfl (Nat.le_succ _) (Nat.le_trans (length_drop _ _) (Nat.le_succ _)) (fun a ha => .inl (foot_drop a ha)) (((hfrM f15).trans (Fr.ex e6)).trans (hfrS f7)) ⟨hC7, hM7, hB.nn, hB.bb, fun U => ?_, fun U => ?_, fun a ha => hB.apart a (foot_drop a ha)⟩
        · show U ∈ (dropG S.tabs L).map (·.1) ↔ (U = rng M.n ∨ getG (dropG M.kept L) U = some true)
          rw [get_drop, mem_dropG]
          have := hB.tt U
          by_cases z : U = L
          · subst z; simp [hw]
          · rw [if_neg z, ← this]; simp [z, CS.Ts]
        · show U ∈ (dropG S.gone L).map (·.1) ↔ getG (dropG M.kept L) U = some false
          rw [get_drop, mem_dropG]
          by_cases z : U = L
          · subst z; simp
          · rw [if_neg z, ← hB.gg U]; simp [z]
end
end KC
end

section
set_option Elab.async false
set_option linter.all false
set_option autoImplicit false
set_option maxRecDepth 100000
set_option maxHeartbeats 4000000
/-! The law's deed. -/
namespace KC
open PySem L2 PySem.W
open Evl (Ex EvT)
section
variable {P : Program} {w : World} {K : PySem.W.Frag} {mg : Str → Option Value} {n : Nm}
theorem s_rawAsg {te : TE} {σ : L2.St} {H : Hp} {D : Ends} {u : TS} {i : Nat} (h : te σ H fun v H' => u D (σ.set i (some v)) H') : tSeq (tAsg te (gName i)) u D σ H := h
theorem s_rawAsgG {te : TE} {σ : L2.St} {H : Hp} {D : Ends} {u : TS} {g : TG} (h : te σ H fun v H' => g v σ H' (u D)) : tSeq (tAsg te g) u D σ H := h
theorem s_rawDrop {te : TE} {σ : L2.St} {H : Hp} {D : Ends} {u : TS} (h : te σ H fun _ H' => u D σ H') : tSeq (tDrop te) u D σ H := h
theorem RowAt.fr {H H' : Hp} {r s : Addr} {L : List Addr} (f : Fr L H H') (hr : r ∉ L) (hs : KS K s ∨ s ∉ L) (h : RowAt K H r s) : RowAt K H' r s := by
  obtain ⟨p, z, h1, h2, h3, h4, h5⟩ := h
  refine ⟨p, z, f.1 _ _ h1 hr, h2, h3, h4, ?_⟩
  rcases hs with hs | hs
  · exact .inl hs
  · refine h5.imp id fun ⟨ns, a, b⟩ => ⟨ns, a, ?_⟩
    rcases b with b | ⟨o, b⟩
    · exact .inl (f.1 _ _ b hs)
    · exact .inr ⟨o, f.1 _ _ b hs⟩
theorem isDs_erase {H : Hp} : ∀ {xs : List V} {ds : List PyData} (i : Nat), IsDs H xs ds → IsDs H (xs.eraseIdx i) (ds.eraseIdx i)
  | _, _, _, .nil => by simpa using .nil
  | _, _, 0, .cons h t => t
  | _, _, i + 1, .cons h t => .cons h (isDs_erase i t)
theorem erase_map {α β : Type} (f : α → β) : ∀ (l : List α) (i : Nat), (l.map f).eraseIdx i = (l.eraseIdx i).map f
  | [], _ => by simp
  | x :: l, 0 => by simp
  | x :: l, i + 1 => by
    have := erase_map f l i
    simpa using this
theorem erase_perm {α : Type} : ∀ {l : List α} {i : Nat} {x : α}, l[i]? = some x → l.Perm (x :: l.eraseIdx i)
  | [], _, _, h => by simp at h
  | y :: l, 0, x, h => by
    simp at h
    subst h
    exact List.Perm.refl _
  | y :: l, i + 1, x, h => by
    have ih := erase_perm (l := l) (i := i) (x := x) (by simpa using h)
    exact (ih.cons y).trans (List.Perm.swap _ _ _)
theorem rows_sh {M : MS} {H : Hp} (h : MAt P w H M) : Sh (.list (M.rows.map rowD)) := sh_any fun d hd => by
  obtain ⟨r, hr, rfl⟩ := List.mem_map.mp hd
  have hd1 := depth_T' r.1
  have h1 : PyData.canLayAll0 (r.1.map PyData.int) = true := by
    have := SeqAt.canLay_of_shaped (show SeqAt.shaped (.list (r.1.map PyData.int)) = true from sh_ints)
    rw [PyData.canLay0] at this
    exact this
  have h2 : (rowD r).depth ≤ 2 := by
    unfold rowD
    rw [PyData.depth.eq_def]
    show PyData.depthAll [_, _] + 1 ≤ 2
    rw [PyData.depthAll, PyData.depthAll, PyData.depthAll, depth_i]
    omega
  refine ⟨?_, by omega⟩
  unfold Sh SeqAt.shaped
  have h3 : PyData.canLay0 (rowD r) = true := by
    unfold rowD
    rw [PyData.canLay0, PyData.canLayAll0, PyData.canLayAll0, PyData.canLayAll0, PyData.canLay0, PyData.canLay0, h1]
    rfl
  rw [h3, Bool.true_and]
  exact decide_eq_true (by omega)
theorem MAt.setR {H H' : Hp} {M : MS} {rs : List (List Int × Int)} {xs : List V} (h : MAt P w H M) (f : Fr [M.rA] H H') (hx : H' M.rA = some (.lst xs)) (hd : IsDs H' xs (rs.map rowD)) (ho : ∀ r ∈ rs, RowOk M.n r) (hl : rs.length ≤ 1000) : MAt P w H' { M with rows := rs } := by
  obtain ⟨a1, a2, a3⟩ := m_apart h
  exact ⟨h.n1, h.n4, h.w1, h.w2, f.1 _ _ h.ob (by simpa using a1), ⟨xs, hx, hd⟩, h.kn.fr mv_bl f (by simpa using a3.symm), h.foot, ho, hl, h.tab, h.nd, h.nw, h.lim⟩
theorem pure_law_deed {vs : List V} {H : Hp} {Q : VK} {E : XK} (T : Txt K mg n) (h : sp_law_deed P w K n vs H Q E) : t_law_deed P w K n E0 { nx := fun _ H' => Q .non H', rt := Q } (start ["_law_row", "_law_cube", "_law_m", "_law_way", "_law_table_here", "_law_values", "_law_amount"] vs) H := by
  obtain ⟨r, s, S, M, rfl, hR, hB, hrS, hrM, hsS, hrows, hkl, done⟩ := h
  have hS1 : KS K s ∨ s ∉ S.foot := hsS.imp id fun h => h.1
  have hS2 : KS K s ∨ s ∉ M.foot := hsS.imp id fun h => h.2
  have hSr : ∀ a ∈ S.foot, a ∉ [r] := fun a ha => by
    simp only [List.mem_singleton]
    exact fun z => hrS (z ▸ ha)
  have hMr : ∀ a ∈ M.foot, a ∉ [r] := fun a ha => by
    simp only [List.mem_singleton]
    exact fun z => hrM (z ▸ ha)
  have bfr : ∀ {H1 H2 : Hp}, Fr [r] H1 H2 → Both P w n.cube H1 S M → Both P w n.cube H2 S M := fun f b => ⟨b.c.fr f hSr, b.m.fr f hMr, b.nn, b.bb, b.tt, b.gg, b.apart⟩
  have hMS : ∀ a ∈ M.foot, a ∉ S.foot := fun a ha z => hB.apart a z ha
  obtain ⟨a1, a2, a3⟩ := m_apart hB.m
  have hrA : M.rA ∈ M.foot := by simp [MS.foot]
  have hSrA : ∀ a ∈ S.foot, a ∉ [M.rA] := fun a ha => by
    simp only [List.mem_singleton]
    exact fun z => hMS _ hrA (z ▸ ha)
  have frR : ∀ {H1 H2 : Hp}, Fr [r] H1 H2 → Fr (S.foot ++ M.foot ++ [r]) H1 H2 := fun f => f.mono fun a ha => by simp at ha; simp [ha]
  have frA : ∀ {H1 H2 : Hp}, Fr [M.rA] H1 H2 → Fr (S.foot ++ M.foot ++ [r]) H1 H2 := fun f => f.mono fun a ha => by simp at ha; simp [ha, MS.foot]
  have frS : ∀ {H1 H2 : Hp}, Fr S.foot H1 H2 → Fr (S.foot ++ M.foot ++ [r]) H1 H2 := fun f => f.mono fun a ha => by simp [ha]
  refine s_rawAsg (x_taken hR (ev_ref rfl) (ev_int 10) (by decide) fun way H1 f1 hR1 _ _ => ?_)
  have hB1 := bfr f1 hB
  show tSeq _ _ _ [some (.ref r), some (.ref S.p), some (.ref M.p), some (.int way), none, none, none] H1
  refine s_rawAsg (x_call (ps := [IsR (.ref r), IsR (.ref M.p)]) (eas_cons (ev_ref rfl) (eas_cons (ev_ref rfl) eas_nil)) fun vs H2 e2 hv => ?_)
  obtain ⟨u1, u2, rfl, p1, p2⟩ := als2 hv
  have p1 : u1 = .ref r := p1
  have p2 : u2 = .ref M.p := p2
  subst p1 p2
  refine ⟨r, s, M, rfl, hR1.ex e2, hB1.m.ex e2, hrM, fun t L H3 f3 hR3 ht hL => ?_⟩
  have hB3 := bfr f3 (hB1.ex e2)
  have f03 : Fr [r] H H3 := (f1.trans (Fr.ex e2)).trans f3
  show tSeq _ _ _ [some (.ref r), some (.ref S.p), some (.ref M.p), some (.int way), some t, none, none] H3
  have hn4 := hB.m.n4
  have q1 : EvT (tAnd (tTest (tOp rGtI (tVar 3) (tC (.int 6)))) (tTest (tOp (rNeD K) (tVar 4) (tTupRgF (tRg1 (tDGet (tVar 2) (tC (.str "edges")))))))) [some (.ref r), some (.ref S.p), some (.ref M.p), some (.int way), some t, none, none] H3 (decide (6 < way) && !decide (L = rng M.n)) :=
    evt_and (evt_test (ev_gt (ev_vi (i := 3) (z := way) rfl) (ev_int 6))) fun _ => evt_test (by
      rw [← eqv_T]
      exact ev_ne (ev_var (v := t) rfl ht) (ev_tupRg (ev_medges (M := M) (ev_ref rfl) hB3.m.ob) (by omega)) sh_T sh_T)
  refine s_ifs q1 (fun z H4 e4 => ?_) fun _ H4 e4 => ?_
  · -- a deed of a table
    have hw : L ≠ rng M.n := fun y => by
      rw [decide_eq_true y] at z
      simp at z
    refine s_rawRet (x_call (ps := [IsR (.ref S.p), IsR (.ref M.p), Is (dT L), IsR (.int way)]) (eas_cons (ev_ref rfl) (eas_cons (ev_ref rfl) (eas_cons (ev_var (v := t) rfl (ht.mono (Tp.of e4))) (eas_cons (ev_ref rfl) eas_nil)))) fun vs H5 e5 hv => ?_)
    obtain ⟨u1, u2, u3, u4, rfl, p1, p2, p3, p4⟩ := als4 hv
    have p1 : u1 = .ref S.p := p1
    have p2 : u2 = .ref M.p := p2
    have p4 : u4 = .int way := p4
    subst p1 p2 p4
    refine ⟨S, M, u3, L, way, rfl, (hB3.ex e4).ex e5, p3, hL, hw, by omega, hkl, fun S' M' H' h1 h2 h3 h4 h5 h6 h7 hf hB' => ?_⟩
    have f35 : Fr [r] H H5 := (f03.trans (Fr.ex e4)).trans (Fr.ex e5)
    refine done S' M' H' h1 h2 h3 h4 h5 h6 (fun a ha => (h7 a ha).imp id fun z => ?_) ((frR f35).trans (hf.mono fun a ha => by
      simp at ha
      rcases ha with h | h <;> simp [h])) hB' (((hR3.ex e4).ex e5).fr hf ?_ ?_)
    · cases y : H a with
      | none => rfl
      | some o =>
        by_cases c : a ∈ [r]
        · have : a = r := by simpa using c
          subst this
          have := ((hR3.ex e4).ex e5)
          obtain ⟨p, zz, hh, _⟩ := this
          rw [hh] at z; cases z
        · have := f35.1 _ _ y c
          rw [this] at z; cases z
    · simp [hrS, hrM]
    · rcases hsS with h | h
      · exact .inl h
      · exact .inr (by simp [h.1, h.2])
  · have hR4 := hR3.ex e4
    have hB4 := hB3.ex e4
    have ht4 := ht.mono (Tp.of e4)
    have f04 : Fr [r] H H4 := f03.trans (Fr.ex e4)
    have qr : ∀ H5, Ex H4 H5 → EvT (tTest (tOp (rNeD K) (tDGet (tVar 2) (tC (.str "rows"))) (tLst tNil))) [some (.ref r), some (.ref S.p), some (.ref M.p), some (.int way), some t, none, none] H5 (!(M.rows.map rowD).isEmpty) := fun H5 e => evt_test (ev_neNil ((ev_mrowsL (M := M) (ev_ref (i := 2) rfl) (hB4.m.ex e).mr).ml) (rows_sh hB.m))
    show tSeq _ _ _ [some (.ref r), some (.ref S.p), some (.ref M.p), some (.int way), some t, none, none] H4
    refine s_ifs (evt_and (qr H4 (Ex.refl _)) fun _ => evt_test (ev_gt (ev_vi (i := 3) (z := way) rfl) (ev_int 4))) (fun z H5 e5 => ?_) fun _ H5 e5 => ?_
    · -- take
      have hne : M.rows ≠ [] := fun y => by rw [y] at z; simp at z
      have hpos : 0 < M.rows.length := List.length_pos_iff.mpr hne
      have hB5 := hB4.ex e5
      refine s_rawAsgG ((ev_mrows (M := M) (σ := [some (.ref r), some (.ref S.p), some (.ref M.p), some (.int way), some t, none, none]) (ev_ref (i := 2) rfl) hB5.m.ob) H5 (Ex.refl _) _ fun x H6 e6 hx => ?_)
      have hx : x = .ref M.rA := hx
      subst hx
      have hB6 := hB5.ex e6
      obtain ⟨xs6, hxs6, _⟩ := hB6.m.rl
      refine ⟨.inl (.inl ⟨rfl, xs6, .inl (.inl hxs6)⟩), ?_⟩
      have gl := ev_len (P := P) (w := w) (K := K) ((ev_mrowsL (M := M) (σ := [some (.ref r), some (.ref S.p), some (.ref M.p), some (.int way), some t, none, none]) (ev_ref (i := 2) rfl) hB6.m.mr).msq)
      rw [List.length_map] at gl
      refine x_taken ((hR4.ex e5).ex e6) (ev_ref rfl) gl (by omega) fun j H7 f7 hR7 hj0 hj1 => ?_
      have hB7 := bfr f7 hB6
      obtain ⟨xs, hxs, hxd⟩ := hB7.m.rl
      have hxl : xs.length = M.rows.length := by rw [hxd.length, List.length_map]
      have ej : j = ((j.toNat : Nat) : Int) := by omega
      have hjl : j.toNat < M.rows.length := by omega
      have hrow : M.rows[j.toNat]? = some M.rows[j.toNat] := List.getElem?_eq_getElem hjl
      obtain ⟨y, hy1, hy2⟩ := IsDs.get' (i := j.toNat) (d := rowD M.rows[j.toNat]) hxd (by rw [List.getElem?_map, hrow]; rfl)
      have hseq : seqIndex? j xs.length = some j.toNat := by
        rw [ej]
        exact (ixN_seq (ixN_nat (by omega))).1
      generalize hrw : M.rows[j.toNat] = row at hrow hy2
      refine ⟨M.rA, xs, j, j.toNat, y, rfl, rfl, hxs, by omega, by omega, hseq, hy1, ?_⟩
      have t8 : Tp H7 (upd H7 M.rA (.lst (xs.eraseIdx j.toNat))) := tp_lst hxs
      have f8 : Fr [M.rA] H7 (upd H7 M.rA (.lst (xs.eraseIdx j.toNat))) := Fr.set (by simp) t8
      have hx8 : (upd H7 M.rA (.lst (xs.eraseIdx j.toNat))) M.rA = some (.lst (xs.eraseIdx j.toNat)) := upd_same
      have hxd8 := (isDs_erase j.toNat hxd).mono t8
      have hy8 := hy2.mono t8
      generalize upd H7 M.rA (.lst (xs.eraseIdx j.toNat)) = H8 at f8 hx8 hxd8 hy8
      have er : (M.rows.map rowD).eraseIdx j.toNat = (M.rows.eraseIdx j.toNat).map rowD := erase_map rowD _ _
      rw [er] at hxd8
      have hM8 := hB7.m.setR f8 hx8 hxd8 (fun q hq => hB.m.rows q (List.mem_of_mem_eraseIdx hq)) (Nat.le_trans (List.length_eraseIdx_le _ _) hB.m.lenB)
      have hC8 := hB7.c.fr f8 hSrA
      have hrnA : r ∉ [M.rA] := by
        simp only [List.mem_singleton]
        exact fun z => hrM (z ▸ hrA)
      have hR8 := hR7.fr f8 hrnA (hS2.imp id fun h => by
        simp only [List.mem_singleton]
        exact fun z => h (z ▸ hrA))
      obtain ⟨a, ws, rfl, ha, hw⟩ := isTup_get hy8
      obtain ⟨v1, ws, rfl, p1, hw⟩ := isDs_cons hw
      obtain ⟨v2, ws, rfl, p2, hw⟩ := isDs_cons hw
      have := isDs_nil hw
      subst this
      have p2 := isInt_get p2
      subst p2
      refine ⟨a, _, rfl, ha.sq, rfl, _, _, rfl, _, _, rfl, rfl, ?_⟩
      refine s_retIsN (x_meth (ps := [Is (dT row.1), IsR (.int row.2)]) (ev_ref rfl) hC8.sk.ob (m_take S) (eas_cons (ev_var (v := v1) rfl p1) (eas_cons (ev_ref rfl) eas_nil)) fun vs H9 e9 hvs => ?_)
      obtain ⟨w1, w2, rfl, o1, o2⟩ := als2 hvs
      have o2 : w2 = .int row.2 := o2
      subst o2
      have hrowm : row ∈ M.rows := List.mem_of_getElem? hrow
      have hrB : row ∈ S.B := hB.bb.mem_iff.mpr hrowm
      refine ⟨S, w1, row, rfl, hC8.ex e9, o1, hrB, fun H10 f10 hC10 => isN_yes ?_⟩
      have fr0 : Fr (S.foot ++ M.foot ++ [r]) H H10 := (((((frR f04).trans (Fr.ex (e5.trans e6))).trans (frR f7)).trans (frA f8)).trans (Fr.ex e9)).trans (frS f10)
      have hpm : M.rows.Perm (row :: M.rows.eraseIdx j.toNat) := erase_perm hrow
      refine done { S with B := S.B.erase row } { M with rows := M.rows.eraseIdx j.toNat } H10 rfl rfl rfl rfl (Nat.le_trans (List.length_eraseIdx_le _ _) (Nat.le_succ _)) (Nat.le_succ _) (fun a ha => .inl ha) fr0 ⟨hC10, (hM8.ex e9).fr f10 hMS, hB.nn, ?_, hB.tt, hB.gg, hB.apart⟩ ((hR8.ex e9).fr f10 hrS hS1)
      exact List.Perm.cons_inv (((List.perm_cons_erase hrB).symm.trans hB.bb).trans hpm)
    · -- put
      have hR5 := hR4.ex e5
      have hB5 := hB4.ex e5
      have f05 : Fr [r] H H5 := f04.trans (Fr.ex e5)
      have ht5 := ht4.mono (Tp.of e5)
      have fin : ∀ (H6 : Hp) (v1 : V) (e : List Int × Int), Fr [r] H H6 → RowAt K H6 r s → IsD H6 v1 (dT e.1) → RowOk M.n e →
          tSeq (tDrop (tBG P w K "list" rAppend (tDGet (tVar 2) (tC (.str "rows"))) (tCons (tTupF (tCons (tVar 5) (tCons (tVar 6) tNil))) tNil))) (tRet (tOp rIsN (tMeth n.cube "put" (sp_c_put P w K n) [] E0 (tVar 1) (tCons (tVar 5) (tCons (tVar 6) tNil))) (tC .non))) { nx := fun _ H' => Q .non H', rt := Q } [some (.ref r), some (.ref S.p), some (.ref M.p), some (.int way), some t, some v1, some (.int e.2)] H6 := by
        intro H6 v1 e f06 hR6 hv1 hok
        have hB6 := bfr f06 hB
        refine s_rawDrop ((ev_mrows (M := M) (σ := [some (.ref r), some (.ref S.p), some (.ref M.p), some (.int way), some t, some v1, some (.int e.2)]) (ev_ref (i := 2) rfl) hB6.m.ob) H6 (Ex.refl _) _ fun x H7 e7 hx => ?_)
        have hx : x = .ref M.rA := hx
        subst hx
        have hB7 := hB6.ex e7
        obtain ⟨xs7, hxs7, _⟩ := hB7.m.rl
        refine ⟨.inl (.inl ⟨rfl, xs7, .inl (.inl hxs7)⟩), ?_⟩
        refine (eas_cons (p := Is (rowD e)) (ev_tup (ds := [dT e.1, .int e.2]) (eds_cons (ev_var (v := v1) (i := 5) (σ := [some (.ref r), some (.ref S.p), some (.ref M.p), some (.int way), some t, some v1, some (.int e.2)]) rfl (hv1.mono (Tp.of e7))) (eds_cons (ev_vi (i := 6) rfl) eds_nil)) (by simp)) eas_nil) H7 (Ex.refl _) _ fun vs H8 e8 hvs => ?_
        obtain ⟨y, rfl, hy⟩ := als1 hvs
        have hB8 := hB7.ex e8
        obtain ⟨xs, hxs, hxd⟩ := hB8.m.rl
        have hxl : xs.length = M.rows.length := by rw [hxd.length, List.length_map]
        have hlB := hB.m.lenB
        have h0 := line0
        refine ⟨M.rA, xs, y, rfl, rfl, hxs, by omega, ?_⟩
        have t9 : Tp H8 (upd H8 M.rA (.lst (xs ++ [y]))) := tp_lst hxs
        have f9 : Fr [M.rA] H8 (upd H8 M.rA (.lst (xs ++ [y]))) := Fr.set (by simp) t9
        have hx9 : (upd H8 M.rA (.lst (xs ++ [y]))) M.rA = some (.lst (xs ++ [y])) := upd_same
        have hxd9 := IsDs.mono t9 (hxd.snoc hy)
        have hv9 := (hv1.mono (Tp.of (e7.trans e8))).mono t9
        generalize upd H8 M.rA (.lst (xs ++ [y])) = H9 at f9 hx9 hxd9 hv9
        have er : M.rows.map rowD ++ [rowD e] = (M.rows ++ [e]).map rowD := by rw [List.map_append]; rfl
        rw [er] at hxd9
        have hM9 := hB8.m.setR f9 hx9 hxd9 (fun q hq => by
          rcases List.mem_append.mp hq with hq | hq
          · exact hB.m.rows q hq
          · rw [List.mem_singleton.mp hq]; exact hok) (by rw [List.length_append, List.length_singleton]; omega)
        have hC9 := hB8.c.fr f9 hSrA
        have hrnA : r ∉ [M.rA] := by
          simp only [List.mem_singleton]
          exact fun z => hrM (z ▸ hrA)
        have hR9 := ((hR6.ex e7).ex e8).fr f9 hrnA (hS2.imp id fun h => by
          simp only [List.mem_singleton]
          exact fun z => h (z ▸ hrA))
        refine s_retIsN (x_meth (ps := [Is (dT e.1), IsR (.int e.2)]) (ev_ref rfl) hC9.sk.ob (m_put S) (eas_cons (ev_var (v := v1) rfl hv9) (eas_cons (ev_ref rfl) eas_nil)) fun vs H10 e10 hvs => ?_)
        obtain ⟨w1, w2, rfl, o1, o2⟩ := als2 hvs
        have o2 : w2 = .int e.2 := o2
        subst o2
        have hbl := hB.bb.length_eq
        refine ⟨S, w1, e, rfl, hC9.ex e10, o1, by rw [hB.nn]; exact hok, by omega, fun H11 f11 hC11 => isN_yes ?_⟩
        have fr0 : Fr (S.foot ++ M.foot ++ [r]) H H11 := ((((frR f06).trans (Fr.ex (e7.trans e8))).trans (frA f9)).trans (Fr.ex e10)).trans (frS f11)
        refine done { S with B := e :: S.B } { M with rows := M.rows ++ [e] } H11 rfl rfl rfl rfl (by show (M.rows ++ [e]).length ≤ _; rw [List.length_append, List.length_singleton]; exact Nat.le_refl _) (Nat.le_succ _) (fun a ha => .inl ha) fr0 ⟨hC11, (hM9.ex e10).fr f11 hMS, hB.nn, ?_, hB.tt, hB.gg, hB.apart⟩ ((hR9.ex e10).fr f11 hrS hS1)
        exact (hB.bb.cons e).trans (List.perm_append_singleton _ _).symm
      show tSeq _ _ _ [some (.ref r), some (.ref S.p), some (.ref M.p), some (.int way), some t, none, none] H5
      refine s_rawAsgG (x_call (ps := [IsR (.ref r), IsR (.ref M.p)]) (eas_cons (ev_ref rfl) (eas_cons (ev_ref rfl) eas_nil)) fun vs H6 e6 hv => ?_)
      obtain ⟨u1, u2, rfl, p1, p2⟩ := als2 hv
      have p1 : u1 = .ref r := p1
      have p2 : u2 = .ref M.p := p2
      subst p1 p2
      refine ⟨r, s, M, rfl, hR5.ex e6, hB5.m.ex e6, hrM, fun v e H7 f7 hR7 hv7 hok => ?_⟩
      obtain ⟨a, ws, rfl, ha, hw⟩ := isTup_get hv7
      obtain ⟨v1, ws, rfl, p1, hw⟩ := isDs_cons hw
      obtain ⟨v2, ws, rfl, p2, hw⟩ := isDs_cons hw
      have := isDs_nil hw
      subst this
      have p2 := isInt_get p2
      subst p2
      refine ⟨a, _, rfl, ha.sq, rfl, _, _, rfl, _, _, rfl, rfl, ?_⟩
      have f07 : Fr [r] H H7 := (f05.trans (Fr.ex e6)).trans f7
      have hB7 := bfr f07 hB
      show tSeq _ _ _ [some (.ref r), some (.ref S.p), some (.ref M.p), some (.int way), some t, some v1, some (.int e.2)] H7
      refine s_ifs (evt_and (evt_test (ev_neNil ((ev_mrowsL (M := M) (ev_ref (i := 2) rfl) hB7.m.mr).ml) (rows_sh hB.m))) fun _ => evt_test (ev_eqI (P := P) (w := w) (K := K) (ev_vi (i := 3) (z := way) rfl) (ev_int 4))) (fun z H8 e8 => ?_) fun _ H8 e8 => ?_
      · have hne : M.rows ≠ [] := fun y => by rw [y] at z; simp at z
        have hpos : 0 < M.rows.length := List.length_pos_iff.mpr hne
        have hB8 := hB7.ex e8
        refine (ev_mrows (M := M) (σ := [some (.ref r), some (.ref S.p), some (.ref M.p), some (.int way), some t, some v1, some (.int e.2)]) (ev_ref (i := 2) rfl) hB8.m.ob) H8 (Ex.refl _) _ fun x H9 e9 hx => ?_
        have hx : x = .ref M.rA := hx
        subst hx
        have hB9 := hB8.ex e9
        have gl := ev_len (P := P) (w := w) (K := K) ((ev_mrowsL (M := M) (σ := [some (.ref r), some (.ref S.p), some (.ref M.p), some (.int way), some t, some v1, some (.int e.2)]) (ev_ref (i := 2) rfl) hB9.m.mr).msq)
        rw [List.length_map] at gl
        refine x_taken ((hR7.ex e8).ex e9) (ev_ref rfl) gl (by omega) fun j H10 f10 hR10 hj0 hj1 => ?_
        have hB10 := bfr f10 hB9
        obtain ⟨xs, hxs, hxd⟩ := hB10.m.rl
        have hxl : xs.length = M.rows.length := by rw [hxd.length, List.length_map]
        have ej : j = ((j.toNat : Nat) : Int) := by omega
        have hjl : j.toNat < M.rows.length := by omega
        have hrow : M.rows[j.toNat]? = some M.rows[j.toNat] := List.getElem?_eq_getElem hjl
        obtain ⟨y, hy1, hy2⟩ := IsDs.get' (i := j.toNat) (d := rowD M.rows[j.toNat]) hxd (by rw [List.getElem?_map, hrow]; rfl)
        generalize M.rows[j.toNat] = row at hrow hy2
        refine .inl ⟨M.rA, xs, j, y, rfl, rfl, .inl (.inl hxs), by rw [ej]; exact atI_nat hy1, ?_⟩
        obtain ⟨a', ws, rfl, ha', hw⟩ := isTup_get hy2
        obtain ⟨y1, ws, rfl, p1', hw⟩ := isDs_cons hw
        obtain ⟨y2, ws, rfl, p2', hw⟩ := isDs_cons hw
        have := isDs_nil hw
        subst this
        have p2' := isInt_get p2'
        subst p2'
        refine ⟨a', _, rfl, ha'.sq, rfl, _, _, rfl, _, _, rfl, rfl, ?_⟩
        exact fin H10 y1 row ((f07.trans (Fr.ex (e8.trans e9))).trans f10) hR10 p1' (hB.m.rows row (List.mem_of_getElem? hrow))
      · exact fin H8 v1 e (f07.trans (Fr.ex e8)) (hR7.ex e8) (IsD.mono (Tp.of e8) p1) hok
end
end KC
end

section
set_option Elab.async false
set_option linter.all false
set_option autoImplicit false
set_option maxRecDepth 100000
set_option maxHeartbeats 4000000
/-! The law k01. -/
namespace KC
open PySem L2 PySem.W
open Evl (Ex EvT)
section
variable {P : Program} {w : World} {K : PySem.W.Frag} {mg : Str → Option Value} {n : Nm}
/-- for x in a new list -/
theorem s_forF {σ : L2.St} {H : Hp} {D : Ends} {tl : TE} {g : TG} {body : TS} {ds : List PyData} (h : EvF tl σ H ds)
    (k : ∀ a xs H2, H a = none → Ex H H2 → H2 a = some (.lst xs) → IsDs H2 xs ds → ∃ Pv : Nat → L2.St → Hp → Prop, Pv 0 σ H2 ∧ (∀ i σ' H', Pv i σ' H' → H' a = some (.lst xs)) ∧
      (∀ i x σ' H', xs[i]? = some x → Pv i σ' H' → ∀ N : L2.St → Hp → Prop, (∀ σ3 H3, Pv (i + 1) σ3 H3 → N σ3 H3) → g x σ' H' fun σ2 H2 => body { D with nx := N, ct := N, bk := D.nx } σ2 H2) ∧
      ∀ σ' H', Pv xs.length σ' H' → D.nx σ' H') : tFor (iAny P w K tl) g body D σ H := h H (Ex.refl _) _ fun a xs H2 na e2 ha hs => by
  obtain ⟨Pv, h0, hst, hstep, hd⟩ := k a xs H2 na e2 ha hs
  exact .inl ⟨a, rfl, ⟨xs, .inl (.inl ha)⟩, for_list (K := K) (a := a) (xs := xs) Pv h0 (fun i σ' H' _ p => .inl (.inl (hst i σ' H' p))) (fun i x σ' H' hi p => hstep i x σ' H' hi p _ fun _ _ q => q) hd⟩
theorem s_ifX {c : TT} {t u : TS} {σ : L2.St} {H : Hp} {D : Ends} (h : c σ H fun b H1 => if b = true then t { D with nx := u D } σ H1 else u D σ H1) : tSeq (tIfS c t tNext) u D σ H := h
/-- for i in range(t), t drawn -/
theorem s_forRx {te : TE} {σ : L2.St} {H : Hp} {D : Ends} {g : TG} {body : TS} (h : te σ H fun x H1 => tFor (iRng1 fun _ H' Q => Q [x] H') g body D σ H1) : tFor (iRng1 (tCons te tNil)) g body D σ H := h
theorem s_forRc {σ : L2.St} {H : Hp} {D : Ends} {g : TG} {body : TS} (m : Nat) (hm : m ≤ 1000) (Pv : Nat → L2.St → Hp → Prop) (h0 : Pv 0 σ H)
    (hs : ∀ i σ' H', i < m → Pv i σ' H' → ∀ N : L2.St → Hp → Prop, (∀ σ3 H3, Pv (i + 1) σ3 H3 → N σ3 H3) → g (.int (i : Nat)) σ' H' fun σ2 H2 => body { D with nx := N, ct := N, bk := D.nx } σ2 H2)
    (hd : ∀ σ' H', Pv m σ' H' → D.nx σ' H') : tFor (iRng1 fun _ H' Q => Q [.int (m : Nat)] H') g body D σ H := by
  have em : (m : Int).toNat = m := by omega
  refine ⟨m, rfl, by omega, by omega, for_range (lo := 0) (n := (m : Int).toNat) Pv h0 (fun i σ' H' hi p => ?_) fun σ' H' p => hd σ' H' (by rw [em] at p; exact p)⟩
  have ez : (0 : Int) + (i : Nat) = (i : Nat) := Int.zero_add _
  rw [ez]
  exact hs i σ' H' (by omega) p _ fun _ _ q => q
theorem ents_uniq {m m' : List (List Int × (Int × Int))} {B B' : List (List Int × Int)} (h : Right m B) (h' : Right m' B') (p : B.Perm B') : (m.map entD).mergeSort dle = (m'.map entD).mergeSort dle :=
  sort_perm ((h.uniq h' p).map _) (fun d hd => by
    obtain ⟨e, _, rfl⟩ := List.mem_map.mp hd
    exact pure_ent e) (AllAlike.of alike_ent)
theorem mat_nil (B : List (List Int × Int)) : B.filter (mat []) = B := List.filter_eq_self.mpr fun _ _ => rfl
theorem ent_ok (e : List Int × (Int × Int)) (h : e.1.length ≤ 1000) : smallD (entD e) = true ∧ (entD e).depth ≤ 2 := by
  have d1 := depth_T' e.1
  have s1 : smallD (dT e.1) = true := small_T h
  refine ⟨?_, ?_⟩
  · show smallD (.tuple [dT e.1, .int e.2.1, .int e.2.2]) = true
    rw [smallD, smallAll, smallAll, smallAll, smallAll, s1, smallD, smallD]; rfl
  · show (PyData.tuple [dT e.1, .int e.2.1, .int e.2.2]).depth ≤ 2
    rw [PyData.depth.eq_def]
    show PyData.depthAll [_, _, _] + 1 ≤ 2
    rw [PyData.depthAll, PyData.depthAll, PyData.depthAll, PyData.depthAll, depth_i, depth_i]
    omega
theorem ents_ok {m : List (List Int × (Int × Int))} (h : ∀ e ∈ m, e.1.length ≤ 1000) (hl : m.length ≤ 1000) : (PyData.list ((m.map entD).mergeSort dle)).depth < 6 ∧ smallD (.list ((m.map entD).mergeSort dle)) = true := by
  have hall : ∀ d ∈ (m.map entD).mergeSort dle, smallD d = true ∧ d.depth ≤ 2 := fun d hd => by
    have := (List.mergeSort_perm _ _).mem_iff.mp hd
    obtain ⟨e, he, rfl⟩ := List.mem_map.mp this
    exact ent_ok e (h e he)
  refine ⟨?_, small_list (by rw [List.length_mergeSort, List.length_map]; exact hl) fun d hd => (hall d hd).1⟩
  rw [PyData.depth]
  have := depthAll_of (k := 2) fun d hd => (hall d hd).2
  omega
theorem sub_self (T : List Int) : sub T T = true := sub_of fun _ h => h
theorem row_start {H : Hp} {a r : Addr} {ns : List Int} (hs : SqL K H a (ns.map V.int)) (hl : ns.length ≤ 63) (hr : H r = none) : RowAt K (upd H r (.lst [.ref a, .int 0, .int 0])) r a := by
  refine ⟨0, 0, upd_same, by omega, by omega, by omega, ?_⟩
  rcases hs with h | h
  · exact .inr ⟨ns, hl, rd_upd h (rd_ne h hr)⟩
  · exact .inl ⟨ns, hl, fun _ => .inr h⟩
/-- a row's asking of one table -/
theorem evf_asked1 {σ : L2.St} {H : Hp} {tc tt tf tr : TE} {S : CS} {L : List Int} {m0 : List (List Int × (Int × Int))} (hc : EvP tc σ H (IsR (.ref S.p))) (ht : EvP tt σ H (Is (dT L))) (hf : EvP tf σ H (IsSq K [])) (hr : EvP tr σ H (Is (dT L))) (hC : CubeAt P w n.cube H S) (hL : L ∈ S.Ts) (hm : Right m0 (bag S.B L)) :
    EvF (tCall (sp_asked P w K n) [] E0 (tCons tc (tCons tt (tCons tf (tCons tr tNil))))) σ H ((m0.map entD).mergeSort dle) :=
  evf_call (ps := [IsR (.ref S.p), Is (dT L), IsSq K [], Is (dT L)]) (eas_cons hc (eas_cons ht (eas_cons hf (eas_cons hr eas_nil)))) fun vs H1 e1 hv Q q => by
    obtain ⟨u1, u2, u3, u4, rfl, p1, p2, p3, p4⟩ := als4 hv
    have p1 : u1 = .ref S.p := p1
    subst p1
    have hT := hC.sk.tab_of hL
    have h4 := hT.len hC.sk.ok.n4
    refine ⟨S, u2, u3, u4, L, L, [], rfl, hC.ex e1, p2, p3, p4, hT, ⟨List.Pairwise.nil, fun x hx => by cases hx⟩, Nat.zero_le _, by omega, hL, sub_self L, rfl, fun m hm' => ?_⟩
    rw [mat_nil] at hm'
    rw [ents_uniq hm' hm (List.Perm.refl _)]
    exact q
theorem evf_sums1 {σ : L2.St} {H : Hp} {tm tt tf : TE} {M : MS} {L : List Int} {B : List (List Int × Int)} {m0 : List (List Int × (Int × Int))} (hp : EvP tm σ H (IsR (.ref M.p))) (ht : EvP tt σ H (Is (dT L))) (hf : EvP tf σ H (IsSq K [])) (hM : MAt P w H M) (hL : Tab M.n L) (hm : Right m0 (bag B L)) (hb : B.Perm M.rows) :
    EvF (tCall (sp_law_sums P w K n) [] E0 (tCons tm (tCons tt (tCons tf tNil)))) σ H ((m0.map entD).mergeSort dle) :=
  evf_call (ps := [IsR (.ref M.p), Is (dT L), IsSq K []]) (eas_cons hp (eas_cons ht (eas_cons hf eas_nil))) fun vs H1 e1 hv Q q => by
    obtain ⟨u1, u2, u3, rfl, p1, p2, p3⟩ := als3 hv
    have p1 : u1 = .ref M.p := p1
    subst p1
    refine ⟨M, u2, u3, L, [], rfl, hM.ex e1, p2, hL, p3, ⟨List.Pairwise.nil, fun x hx => by cases hx⟩, Nat.zero_le _, fun m hm' => ?_⟩
    rw [mat_nil] at hm'
    rw [ents_uniq hm' hm (bag_perm hb.symm L)]
    exact q
theorem ev_nilsq {σ : L2.St} {H : Hp} : EvP (tLst tNil) σ H (IsSq K []) := ((evf_lst eds_nil (by decide)).l (K := K)).sq
/-- what stands between two turns -/
structure Turn0 (P : Program) (w : World) (K : PySem.W.Frag) (C : Addr) (r s p q : Addr) (i : Nat) (H : Hp) (S : CS) (M : MS) : Prop where
  row : RowAt K H r s
  both : Both P w C H S M
  rS : r ∉ S.foot
  rM : r ∉ M.foot
  ss : KS K s ∨ (s ∉ S.foot ∧ s ∉ M.foot)
  hp : S.p = p
  hq : M.p = q
  rows : M.rows.length ≤ i
  kept : M.kept.length ≤ i
theorem Turn0.ex {C r s p q : Addr} {i : Nat} {H H' : Hp} {S : CS} {M : MS} (e : Ex H H') (h : Turn0 P w K C r s p q i H S M) : Turn0 P w K C r s p q i H' S M := ⟨h.row.ex e, h.both.ex e, h.rS, h.rM, h.ss, h.hp, h.hq, h.rows, h.kept⟩
theorem row_tracked {H : Hp} {r s : Addr} (h : RowAt K H r s) : KS K s ∨ H s ≠ none := by
  obtain ⟨p, z, _, _, _, _, h5⟩ := h
  rcases h5 with h5 | ⟨ns, _, h5⟩
  · exact .inl h5
  · refine .inr fun z => ?_
    rcases h5 with h | ⟨o, h⟩ <;> rw [h] at z <;> cases z
theorem pure_law_k01 {vs : List V} {H : Hp} {Q : VK} {E : XK} (T : Txt K mg n) (h : sp_law P w K n vs H Q E) : t_law_k01 P w K n E0 { nx := fun _ H' => Q .non H', rt := Q } (start ["_law_script", "_law_row", "_law_m", "_law_cube", "_law_k", "_law_table_here", "_law_found"] vs) H := by
  obtain ⟨a, ns, rfl, hS, hl, k⟩ := h
  -- the reader
  refine s_rawAsg ⟨.ref a, rfl, (by show 3 ≤ sizeLine; decide), fun r nr => ?_⟩
  have hR1 := row_start (r := r) hS hl nr
  show tSeq _ _ _ [some (.ref a), some (.ref r), none, none, none, none, none] (upd H r (.lst [.ref a, .int 0, .int 0]))
  generalize upd H r (.lst [.ref a, .int 0, .int 0]) = H1 at hR1
  -- the law's dict
  refine s_rawAsg (x_call (ps := [IsR (.ref r), Is (.int 4)]) (eas_cons (ev_ref rfl) (eas_cons (ev_int 4) eas_nil)) fun vs H2 e2 hv => ?_)
  obtain ⟨u1, u2, rfl, p1, p2⟩ := als2 hv
  have p1 : u1 = .ref r := p1
  have p2 := isInt_get p2
  subst p1 p2
  have hR2 := hR1.ex e2
  refine ⟨r, a, 4, rfl, hR2, by decide, by decide, fun M H3 hMf hMr hMk hMn f3 hR3 hM3 => ?_⟩
  have hrM : r ∉ M.foot := fun z => by
    have := hMf r z
    obtain ⟨p, zz, hh, _⟩ := hR2
    rw [hh] at this; cases this
  have hsM : KS K a ∨ a ∉ M.foot := (row_tracked hR2).imp id fun h z => h (hMf a z)
  show tSeq _ _ _ [some (.ref a), some (.ref r), some (.ref M.p), none, none, none, none] H3
  -- the cube
  refine s_rawAsg ((eas_cons (p := Is (.int M.n)) (ev_medges (M := M) (σ := [some (.ref a), some (.ref r), some (.ref M.p), none, none, none, none]) (ev_ref (i := 2) rfl) hM3.ob) eas_nil) H3 (Ex.refl _) _ fun vs H4 e4 hvs => ?_)
  obtain ⟨u, rfl, p1⟩ := als1 hvs
  have p1 := isInt_get p1
  subst p1
  intro x dx nx ndx nex
  have e5 : Ex H4 (upd (upd H4 dx (.own x)) x (.ins n.cube dx [])) := fun b o q => by
    rw [upd_ne (ne_of_none q nx), upd_ne (ne_of_none q ndx)]
    exact q
  refine ⟨x, dx, M.n, rfl, hM3.n1, hM3.n4, upd_same, fun S H5 hSp hSn hSB hSg hSt hSf f5 hC5 => ⟨rfl, ?_⟩⟩
  have e45 : Ex H4 H5 := fun b o q => f5.1 b o (e5 b o q) (by simpa using ne_of_none q nx)
  have hM5 := (hM3.ex e4).ex e45
  have hR5 := (hR3.ex e4).ex e45
  have hM4 := hM3.ex e4
  have hR4 := hR3.ex e4
  have hSnone : ∀ b ∈ S.foot, H4 b = none := fun b hb => by
    by_cases z : b = x
    · subst z; exact nx
    · have := hSf b hb z
      rw [upd_ne z] at this
      by_cases y : b = dx
      · subst y; exact ndx
      · rw [upd_ne y] at this; exact this
  subst hSp
  have T5 : Turn0 P w K n.cube r a S.p M.p 0 H5 S M := by
    refine ⟨hR5, ⟨hC5, hM5, hSn, by rw [hSB, hMr], fun U => ?_, fun U => ?_, fun b hb z => ?_⟩, fun z => ?_, hrM, ?_, rfl, rfl, by rw [hMr]; exact Nat.le_refl _, by rw [hMk]; exact Nat.le_refl _⟩
    · rw [hSt, hMk]
      simp [getG]
    · rw [hSg, hMk]
      simp [getG]
    · exact m_tracked hM4 b z (hSnone b hb)
    · have := hSnone r z
      obtain ⟨p, zz, hh, _⟩ := hR4
      rw [hh] at this; cases this
    · rcases row_tracked hR4 with h | h
      · exact .inl h
      · rcases hsM with h' | h'
        · exact .inl h'
        · exact .inr ⟨fun z => h (hSnone a z), h'⟩
  clear hSnone hSf f5 e45 hM5 hR5 hC5 e5
  show tSeq _ _ _ [some (.ref a), some (.ref r), some (.ref M.p), some (.ref S.p), none, none, none] H5
  have hpS : ∃ p, S.p = p := ⟨_, rfl⟩
  have hqM : ∃ q, M.p = q := ⟨_, rfl⟩
  obtain ⟨p, hp⟩ := hpS
  obtain ⟨q, hq⟩ := hqM
  rw [hp, hq] at T5 ⊢
  refine s_seq (s_forRx ?_)
  refine (ev_int (σ := [some (.ref a), some (.ref r), some (.ref q), some (.ref p), none, none, none]) 1) H5 (Ex.refl _) _ fun v H6 e6 hv => ?_
  have := isInt_get hv
  subst this
  have T6 := T5.ex e6
  refine x_taken T6.row (ev_ref rfl) (ev_int 50) (by decide) fun i0 H7 f7 hR7 hi0 hi1 => ?_
  refine .inl ⟨1, i0, rfl, rfl, ?_⟩
  have ei : (1 + i0) = ((i0.toNat + 1 : Nat) : Int) := by omega
  show tFor (iRng1 fun _ H' Q => Q [.int (1 + i0)] H') _ _ _ _ H7
  rw [ei]
  have T7 : Turn0 P w K n.cube r a p q 0 H7 S M := by
    have hSr : ∀ b ∈ S.foot, b ∉ [r] := fun b hb => by
      simp only [List.mem_singleton]
      exact fun z => T6.rS (z ▸ hb)
    have hMr' : ∀ b ∈ M.foot, b ∉ [r] := fun b hb => by
      simp only [List.mem_singleton]
      exact fun z => T6.rM (z ▸ hb)
    exact ⟨hR7, ⟨T6.both.c.fr f7 hSr, T6.both.m.fr f7 hMr', T6.both.nn, T6.both.bb, T6.both.tt, T6.both.gg, T6.both.apart⟩, T6.rS, T6.rM, T6.ss, T6.hp, T6.hq, T6.rows, T6.kept⟩
  refine s_forRc (i0.toNat + 1) (by omega) (fun i σ' H' => ∃ S M x4 x5 x6, σ' = [some (.ref a), some (.ref r), some (.ref q), some (.ref p), x4, x5, x6] ∧ Turn0 P w K n.cube r a p q i H' S M) ⟨S, M, none, none, none, rfl, T7⟩ ?_ ?_
  · rintro i σ' H8 hi ⟨S, M, x4, x5, x6, rfl, T8⟩ N kn
    show tSeq _ _ _ [some (.ref a), some (.ref r), some (.ref q), some (.ref p), some (.int (i : Nat)), x5, x6] H8
    have hSp := T8.hp
    have hMp := T8.hq
    have hrw := T8.rows
    have hkp := T8.kept
    -- the deed
    refine s_ifX ?_
    refine (x_call (E := E0) (sp := sp_law_deed P w K n) (ta := tCons (tVar 1) (tCons (tVar 3) (tCons (tVar 2) tNil))) (σ := [some (.ref a), some (.ref r), some (.ref q), some (.ref p), some (.int (i : Nat)), x5, x6]) (ps := [IsR (.ref r), IsR (.ref p), IsR (.ref q)]) (eas_cons (ev_ref rfl) (eas_cons (ev_ref rfl) (eas_cons (ev_ref rfl) eas_nil))) fun vs H9 e9 hv => ?_)
    obtain ⟨u1, u2, u3, rfl, p1, p2, p3⟩ := als3 hv
    have p1 : u1 = .ref r := p1
    have p2 : u2 = .ref p := p2
    have p3 : u3 = .ref q := p3
    subst p1 p2 p3
    have T9 := T8.ex e9
    refine ⟨r, a, S, M, by rw [hSp, hMp], T9.row, T9.both, T9.rS, T9.rM, T9.ss, by omega, by omega, fun S' M' H10 h1 h2 h3 h4 h5 h6 h7 hf hB' hR' => ?_⟩
    have T10 : Turn0 P w K n.cube r a p q (i + 1) H10 S' M' := by
      refine ⟨hR', hB', fun z => ?_, by rw [h3]; exact T9.rM, ?_, h1.trans hSp, h2.trans hMp, by omega, by omega⟩
      · rcases h7 r z with h | h
        · exact T9.rS h
        · obtain ⟨pp, zz, hh, _⟩ := T9.row
          rw [hh] at h; cases h
      · rcases T9.ss with h | ⟨h, h'⟩
        · exact .inl h
        · rcases row_tracked T9.row with y | y
          · exact .inl y
          · refine .inr ⟨fun z => ?_, by rw [h3]; exact h'⟩
            rcases h7 a z with c | c
            · exact h c
            · exact y c
    refine ⟨true, rfl, ?_⟩
    show (if (!true) = true then _ else _)
    rw [if_neg (by decide)]
    -- it stands right
    have qR : EvP (tCall (sp_law_right P w K n) [] E0 (tCons (tVar 3) (tCons (tVar 2) tNil))) [some (.ref a), some (.ref r), some (.ref q), some (.ref p), some (.int (i : Nat)), x5, x6] H10 (Is (.bool true)) :=
      ev_call (ps := [IsR (.ref p), IsR (.ref q)]) (eas_cons (ev_ref rfl) (eas_cons (ev_ref rfl) eas_nil)) fun vs H11 e11 hv Q' k' => by
        obtain ⟨u1, u2, rfl, p1, p2⟩ := als2 hv
        have p1 : u1 = .ref p := p1
        have p2 : u2 = .ref q := p2
        subst p1 p2
        exact ⟨S', M', by rw [T10.hp, T10.hq], T10.both.ex e11, by have := T10.rows; omega, fun H12 e12 => k' _ H12 e12 (IsD.bl true)⟩
    refine (evt_not (b := true) (evt_b qR)) H10 (Ex.refl _) _ fun H11 e11 => ?_
    show (if (!true) = true then _ else _)
    rw [if_neg (by decide)]
    have T11 := T10.ex e11
    clear hf h7 hR' hB'
    show tSeq _ _ _ [some (.ref a), some (.ref r), some (.ref q), some (.ref p), some (.int (i : Nat)), x5, x6] H11
    -- the tables
    refine s_seq (s_forF (evf_standing (M := M') (by rw [← T11.hq]; exact ev_ref rfl) T11.both.m) fun b xs H12 nb e12 hb hxs => ?_)
    have T12 := T11.ex e12
    refine ⟨fun _ σ' H' => Ex H12 H' ∧ ∃ x5 x6, σ' = [some (.ref a), some (.ref r), some (.ref q), some (.ref p), some (.int (i : Nat)), x5, x6], ⟨Ex.refl _, _, _, rfl⟩, fun _ _ H' ⟨e, _⟩ => e _ _ hb, ?_, ?_⟩
    · rintro j x σ' H13 hj ⟨e13, y5, y6, rfl⟩ N' kn'
      have T13 := T12.ex e13
      obtain ⟨d, hd1, hd2⟩ := IsDs.get hxs hj
      rw [List.getElem?_map] at hd1
      cases hL : M'.Ts[j]? with
      | none => rw [hL] at hd1; cases hd1
      | some L =>
        rw [hL] at hd1
        cases hd1
        have hLm : L ∈ M'.Ts := List.mem_of_getElem? hL
        have hLS : L ∈ S'.Ts := T13.both.ts.mem_iff.mpr hLm
        have hLt := Ts_tab T13.both.m L hLm
        have hx13 := hd2.mono (Tp.of e13)
        obtain ⟨dd, _, hdm⟩ := T13.both.c.sk.gets hLS
        obtain ⟨m0, _, hm0⟩ := T13.both.c.con _ hdm
        have hmB := hm0.blen
        have hBl := T13.both.c.sk.ok.lenB
        have hL4 := hLt.len T13.both.m.n4
        have hok := ents_ok (m := m0) (fun e he => by rw [hm0.klen e he]; show L.length ≤ 1000; omega) (by omega)
        show tSeq _ _ _ [some (.ref a), some (.ref r), some (.ref q), some (.ref p), some (.int (i : Nat)), some x, y6] H13
        refine s_asgF (evf_asked1 (S := S') (L := L) (m0 := m0) (by rw [T13.hp]; exact ev_ref rfl) (ev_var (v := x) rfl hx13) ev_nilsq (ev_var (v := x) rfl hx13) T13.both.c hLS hm0) fun c ys H14 nc e14 hc hys => ?_
        have T14 := T13.ex e14
        show tSeq _ _ _ [some (.ref a), some (.ref r), some (.ref q), some (.ref p), some (.int (i : Nat)), some x, some (.ref c)] H14
        have qs := evf_sums1 (P := P) (w := w) (K := K) (n := n) (σ := [some (.ref a), some (.ref r), some (.ref q), some (.ref p), some (.int (i : Nat)), some x, some (.ref c)]) (tm := tVar 2) (tt := tVar 5) (tf := tLst tNil) (M := M') (L := L) (m0 := m0) (B := S'.B) (by rw [T14.hq]; exact ev_ref rfl) (ev_var (v := x) rfl (hx13.mono (Tp.of e14))) ev_nilsq T14.both.m hLt hm0 T14.both.bb
        refine s_ifF (evt_not (b := true) (evt_b (ev_alike (K := K) (d := .list ((m0.map entD).mergeSort dle)) (ev_var (p := IsL K _) (v := .ref c) rfl (isL_at hc hys)) (qs.l (K := K)) (fun _ _ => isV_l) (fun _ _ => isV_l) hok.1 hok.2))) fun H15 e15 => ?_
        have hc15 := e15 _ _ hc
        have hyl : ys.length ≤ 1000 := by
          rw [hys.length, List.length_mergeSort, List.length_map]
          omega
        have h0 := line0
        refine ⟨.ref c, rfl, .inl (.inl ⟨rfl, ys, .inl (.inl hc15)⟩), c, ys, .int 7, rfl, rfl, hc15, by omega, ?_⟩
        refine kn' _ _ ⟨(((e13.trans e14).trans e15).mut (Evl.fresh_back e13 nc)), _, _, rfl⟩
    · rintro σ' H13 ⟨e13, y5, y6, rfl⟩
      have T13 := T12.ex e13
      have gk := evf_meth (C := n.cube) (o := p) (dx := S'.dx) (m := "kept") (sp := sp_c_kept P w K n) (E := E0) (te := tVar 3) (ta := tNil) (σ := [some (.ref a), some (.ref r), some (.ref q), some (.ref p), some (.int (i : Nat)), y5, y6]) (H := H13) (fs := cfs S') (ps := []) (ds := (srt2 (S'.tabs.map (fun e => (e.1, some (cntT S'.B e.1))) ++ S'.gone.map fun e => (e.1, (none : Option Nat)))).map pairD) (ev_ref rfl) (by rw [← T13.hp]; exact T13.both.c.sk.ob) (m_kept S') eas_nil fun vs H14 e14 hv Q' k' => by
        cases vs with
        | nil => exact ⟨S', by rw [T13.hp], T13.both.c.ex e14, k'⟩
        | cons _ _ => exact hv.elim
      refine gk H13 (Ex.refl _) _ fun c ys H14 nc e14 hc hys => ?_
      refine ⟨.inl ⟨rfl, ys, .inl (.inl hc)⟩, c, ys, rfl, rfl, hc, ?_⟩
      exact kn _ _ ⟨S', M', _, _, _, rfl, T13.ex (e14.mut nc)⟩
  · rintro σ' H8 ⟨S, M, x4, x5, x6, rfl, T8⟩
    have g1 : EvP (tMeth n.cube "edges" (sp_c_edges P w K n) [] E0 (tVar 3) tNil) [some (.ref a), some (.ref r), some (.ref q), some (.ref p), x4, x5, x6] H8 (Is (.int S.n)) :=
      ev_meth (ps := []) (ev_ref rfl) (by rw [← T8.hp]; exact T8.both.c.sk.ob) (m_edges S) eas_nil fun vs H9 e9 hv Q' k' => by
        cases vs with
        | nil => exact ⟨S, by rw [T8.hp], T8.both.c.ex e9, fun H10 e10 => k' _ H10 e10 (IsD.int _)⟩
        | cons _ _ => exact hv.elim
    have g2 : EvP (tDGet (tVar 2) (tC (.str "edges"))) [some (.ref a), some (.ref r), some (.ref q), some (.ref p), x4, x5, x6] H8 (Is (.int M.n)) := ev_medges (M := M) (by rw [T8.hq]; exact ev_ref rfl) T8.both.m.ob
    rw [T8.both.nn] at g1
    refine s_ret (ev_alike (K := K) (d := .int M.n) g1 g2 (fun _ _ => isV_of) (fun _ _ => isV_of) (by rw [PyData.depth]; decide) (by rw [smallD])) fun v H9 e9 hv => ?_
    have := isBl_get hv
    subst this
    exact k H9
end
end KC
end

section
set_option Elab.async false
set_option linter.all false
set_option autoImplicit false
set_option maxRecDepth 100000
set_option maxHeartbeats 4000000
/-! Promises of the further defs. -/
namespace KC
open PySem L2 PySem.W
open Evl (Ex EvT)
/-! ### a bag, reckoned -/
def mkR : List (List Int × Int) → List (List Int × (Int × Int))
  | [] => []
  | r :: B => addG (mkR B) r.1 1 r.2
theorem right_mk : ∀ B : List (List Int × Int), Right (mkR B) B
  | [] => Right.nil
  | r :: B => (right_mk B).come r.1 r.2
def entsR (m : List (List Int × (Int × Int))) : List (List Int × (Int × Int)) := m.mergeSort fun a b => dle (entD a) (entD b)
/-- what is told of a table -/
def tellR (B : List (List Int × Int)) : List PyData := ((mkR B).map entD).mergeSort dle
def ansD (B : List (List Int × Int)) (T : List Int) (F : List (Int × Int)) : List PyData := tellR (bag (B.filter (mat F)) T)
theorem tell_of {m : List (List Int × (Int × Int))} {B B' : List (List Int × Int)} (h : Right m B) (p : B.Perm B') : (m.map entD).mergeSort dle = tellR B' := ents_uniq h (right_mk B') p
theorem tell_perm {B B' : List (List Int × Int)} (p : B.Perm B') : tellR B = tellR B' := ents_uniq (right_mk B) (right_mk B') p
/-! ### rank -/
theorem rank_congr (B : List (List Int × Int)) (Ts : List (List Int)) {W W' : List Int} (h : ∀ e, e ∈ W ↔ e ∈ W') : rankL B Ts W = rankL B Ts W' := by
  unfold rankL
  have : (fun R => sub W R) = fun R => sub W' R := funext fun R => by
    rw [Bool.eq_iff_iff]
    exact ⟨fun q => sub_of fun e he => sub_mem q e ((h e).mpr he), fun q => sub_of fun e he => sub_mem q e ((h e).mp he)⟩
  rw [this]
theorem best_congr (B : List (List Int × Int)) (Ts : List (List Int)) {W W' : List Int} (h : ∀ e, e ∈ W ↔ e ∈ W') : bestR B Ts W = bestR B Ts W' := by
  unfold bestR
  rw [rank_congr B Ts h]
def roadD (e : Int × Int × List Int) : PyData := .tuple [dT e.2.2, .int e.1]
def wantT (T : List Int) (F : List (Int × Int)) : List Int := T ++ F.map (·.1)
/-- all tables of so many edges, in the order in which they are found -/
def grow : Nat → List (List Int)
  | 0 => [[]]
  | n + 1 => grow n ++ (grow n).map (· ++ [(n : Int)])
def srtT (L : List (List Int)) : List (List Int) := L.mergeSort fun a b => dle (dT a) (dT b)
def allT (n : Nat) : List (List Int) := srtT (grow n)
section
def sp_roads (P : Program) (w : World) (K : PySem.W.Frag) (n : Nm) : Sp := fun vs H Q _ => ∃ (S : CS) (t f : V) (T : List Int) (F : List (Int × Int)), vs = [.ref S.p, t, f] ∧ CubeAt P w n.cube H S ∧ IsD H t (dT T) ∧ IsSq K (F.map fixD) H f ∧ Tab S.n T ∧ Tab S.n (F.map (·.1)) ∧ F.length ≤ 8 ∧ T.length ≤ 8 ∧
  Fresh H Q ((rankL S.B S.Ts (wantT T F)).map roadD)
def sp_answered (P : Program) (w : World) (K : PySem.W.Frag) (n : Nm) : Sp := fun vs H Q _ => ∃ (S : CS) (t f : V) (T : List Int) (F : List (Int × Int)), vs = [.ref S.p, t, f] ∧ CubeAt P w n.cube H S ∧ IsD H t (dT T) ∧ IsSq K (F.map fixD) H f ∧ Tab S.n T ∧ Tab S.n (F.map (·.1)) ∧ F.length ≤ 8 ∧ T.length ≤ 8 ∧
  ∀ (a : Addr) (xs : List V) (r : V) (p : Addr) (H' : Hp), H a = none → H p = none → Ex H H' → H' a = some (.lst xs) → IsDs H' xs (ansD S.B T F) → IsD H' r (dT (bestR S.B S.Ts (wantT T F))) → TupAt H' p [.ref a, r] → Q (.ref p) H'
def sp_law_all (P : Program) (w : World) (K : PySem.W.Frag) (n : Nm) : Sp := fun vs H Q _ => ∃ N : Nat, vs = [.int N] ∧ N ≤ 4 ∧ Fresh H Q ((allT N).map dT)
/-- pairs that may be asked -/
def sp_law_fixed (P : Program) (w : World) (K : PySem.W.Frag) (n : Nm) : Sp := fun vs H Q _ => ∃ (r s : Addr) (M : MS), vs = [.ref r, .ref M.p] ∧ RowAt K H r s ∧ MAt P w H M ∧ r ∉ M.foot ∧
  ∀ (a : Addr) (xs : List V) (F : List (Int × Int)) (H' : Hp), H a = none → Fr [r] H H' → RowAt K H' r s → H' a = some (.lst xs) → IsDs H' xs (F.map fixD) → Tab M.n (F.map (·.1)) → Q (.ref a) H'
def sp_law_grown (P : Program) (w : World) (K : PySem.W.Frag) (n : Nm) : Sp := fun vs H Q _ => ∃ (r s : Addr) (N D : Nat), vs = [.ref r, .int N, .int D] ∧ RowAt K H r s ∧ 1 ≤ N ∧ N ≤ 4 ∧ D ≤ 62 ∧
  ∀ (S : CS) (M : MS) (p : Addr) H', Fr [r] H H' → (∀ a ∈ S.foot, H a = none) → (∀ a ∈ M.foot, H a = none) → M.n ≤ N → Turn0 P w K n.cube r s S.p M.p D H' S M → TupAt H' p [.ref S.p, .ref M.p] → Q (.ref p) H'
end
end KC
end

section
set_option Elab.async false
set_option linter.all false
set_option autoImplicit false
set_option maxRecDepth 100000
set_option maxHeartbeats 4000000
/-! More readings, printed by gen.py. -/
namespace KC
open PySem L2 PySem.Spec PyProof.Rows
def t_law_grown (P : Program) (w : World) (K : PySem.W.Frag) (n : Nm) (E : XK) : TS :=
  (tSeq (tAsg (tCall (sp_law_fresh P w K n) [] E (tCons (tVar 0) (tCons (tVar 1) tNil))) (gName 3))
    (tSeq (tAsg (tMake n.cube (sp_c_init P w K n) [] E (tCons (tDGet (tVar 3) (tC (.str "edges"))) tNil)) (gName 4))
    (tSeq (tFor (iRng1 (tCons (tCall (sp_law_taken P w K n) [] E (tCons (tVar 0) (tCons (tOp (rPlus K) (tVar 2) (tC (.int 1))) tNil))) tNil)) (gName 5) (tIfS (tNot (tB (tCall (sp_law_deed P w K n) [] E (tCons (tVar 0) (tCons (tVar 4) (tCons (tVar 3) tNil)))))) (tRet (tC .non)) tNext))
    (tRet (tTupF (tCons (tVar 4) (tCons (tVar 3) tNil)))))))

def t_law_all (P : Program) (w : World) (K : PySem.W.Frag) (n : Nm) (E : XK) : TS :=
  (tSeq (tAsg (tLst (tCons (tTupF tNil) tNil)) (gName 1))
    (tSeq (tFor (iRng1 (tCons (tVar 0) tNil)) (gName 2) (tAsg (tOp (rPlus K) (tVar 1) (tLc (iAny P w K (tVar 1)) (gName 3) tYes (tOp (rPlus K) (tVar 3) (tTupF (tCons (tVar 2) tNil))) [3])) (gName 1)))
    (tRet (tCB (rSortU w K) (tCons (tVar 1) tNil)))))

def t_roads (P : Program) (w : World) (K : PySem.W.Frag) (n : Nm) (E : XK) : TS :=
  (tSeq (tDrop (tCall (sp_need_table P w K n) [] E (tCons (tFld K (tVar 0) "many") (tCons (tVar 1) tNil))))
    (tSeq (tDrop (tCall (sp_need_fixed P w K n) [] E (tCons (tVar 0) (tCons (tVar 2) tNil))))
    (tRet (tLc (iAny P w K (tMeth n.cube "roads" (sp_c_roads P w K n) [] E (tVar 0) (tCons (tCall (sp_wanted P w K n) [] E (tCons (tVar 1) (tCons (tVar 2) tNil))) tNil))) (gTup K 2 (gCons (gName 3) (gCons (gName 4) gNil))) tYes (tTupF (tCons (tVar 4) (tCons (tVar 3) tNil))) [3, 4]))))

def t_answered (P : Program) (w : World) (K : PySem.W.Frag) (n : Nm) (E : XK) : TS :=
  (tSeq (tAsg (tOp (rIxU P w K) (tOp (rIxU P w K) (tCall (sp_roads P w K n) [] E (tCons (tVar 0) (tCons (tVar 1) (tCons (tVar 2) tNil)))) (tC (.int 0))) (tC (.int 0))) (gName 3))
    (tRet (tTupF (tCons (tCall (sp_asked P w K n) [] E (tCons (tVar 0) (tCons (tVar 1) (tCons (tVar 2) (tCons (tVar 3) tNil))))) (tCons (tVar 3) tNil)))))

def t_law_fixed (P : Program) (w : World) (K : PySem.W.Frag) (n : Nm) (E : XK) : TS :=
  (tSeq (tAsg (tLst tNil) (gName 2))
    (tSeq (tFor (iRng1 (tCons (tDGet (tVar 1) (tC (.str "edges"))) tNil)) (gName 3) (tIfS (tTest (tOp (rEqU P w K) (tCall (sp_law_taken P w K n) [] E (tCons (tVar 0) (tCons (tC (.int 3)) tNil))) (tC (.int 2)))) (tSeq (tAsg (tOp (rIxU P w K) (tLst (tCons (tCall (sp_law_taken P w K n) [] E (tCons (tVar 0) (tCons (tC (.int 100)) tNil))) (tCons (tOp (rPlus K) (tC (.int 100)) (tCall (sp_law_taken P w K n) [] E (tCons (tVar 0) (tCons (tC (.int 1000)) tNil)))) (tCons (tOp (rMinus P w) (tC (.int 0)) (tC (.int 1))) tNil)))) (tCall (sp_law_taken P w K n) [] E (tCons (tVar 0) (tCons (tC (.int 3)) tNil)))) (gName 4))
    (tSeq (tIfS (tAnd (tTest (tOp (rNeD K) (tDGet (tVar 1) (tC (.str "rows"))) (tLst tNil))) (tTest (tOp rGtI (tCall (sp_law_taken P w K n) [] E (tCons (tVar 0) (tCons (tC (.int 4)) tNil))) (tC (.int 0))))) (tAsg (tOp (rIxU P w K) (tOp (rIxU P w K) (tOp (rIxU P w K) (tDGet (tVar 1) (tC (.str "rows"))) (tCall (sp_law_taken P w K n) [] E (tCons (tVar 0) (tCons (tCB (rLenA P w K) (tCons (tDGet (tVar 1) (tC (.str "rows"))) tNil)) tNil)))) (tC (.int 0))) (tVar 3)) (gName 4)) tNext)
    (tDrop (tBG P w K "list" rAppend (tVar 2) (tCons (tTupF (tCons (tVar 3) (tCons (tVar 4) tNil))) tNil))))) tNext))
    (tRet (tVar 2))))

end KC
end

section
set_option Elab.async false
set_option linter.all false
set_option autoImplicit false
set_option maxRecDepth 100000
set_option maxHeartbeats 4000000
/-! Roads to a question, and its answer. -/
namespace KC
open PySem L2 PySem.W
open Evl (Ex EvT)
section
variable {P : Program} {w : World} {K : PySem.W.Frag} {mg : Str → Option Value} {n : Nm}
theorem len_roads {vs : List V} {H : Hp} {Q : VK} {E : XK} (h : sp_roads P w K n vs H Q E) : vs.length = 3 := by
  obtain ⟨_, _, _, _, _, rfl, _⟩ := h
  rfl
theorem len_answered {vs : List V} {H : Hp} {Q : VK} {E : XK} (h : sp_answered P w K n vs H Q E) : vs.length = 3 := by
  obtain ⟨_, _, _, _, _, rfl, _⟩ := h
  rfl
theorem len_law_all {vs : List V} {H : Hp} {Q : VK} {E : XK} (h : sp_law_all P w K n vs H Q E) : vs.length = 1 := by
  obtain ⟨_, rfl, _⟩ := h
  rfl
theorem len_law_fixed {vs : List V} {H : Hp} {Q : VK} {E : XK} (h : sp_law_fixed P w K n vs H Q E) : vs.length = 2 := by
  obtain ⟨_, _, _, rfl, _⟩ := h
  rfl
theorem len_law_grown {vs : List V} {H : Hp} {Q : VK} {E : XK} (h : sp_law_grown P w K n vs H Q E) : vs.length = 3 := by
  obtain ⟨_, _, _, _, rfl, _⟩ := h
  rfl
theorem rank_len {B : List (List Int × Int)} {Ts : List (List Int)} {T : List Int} : (rankL B Ts T).length ≤ Ts.length := by
  unfold rankL srt3
  rw [List.length_mergeSort, List.length_map]
  exact List.length_filter_le _ _
/-- the call need_fixed(cube, fixed) -/
theorem s_needF {σ : L2.St} {H : Hp} {D : Ends} {u : TS} {S : CS} {f : V} {F : List (Int × Int)} {tc tf : TE} (hp : EvP tc σ H (IsR (.ref S.p))) (hf : EvP tf σ H (IsSq K (F.map fixD))) (hc : CubeAt P w n.cube H S) (hF : Tab S.n (F.map (·.1))) (hl : F.length ≤ 8) (k : ∀ H', Ex H H' → u D σ H') :
    tSeq (tDrop (tCall (sp_need_fixed P w K n) [] E0 (tCons tc (tCons tf tNil)))) u D σ H :=
  s_drops (p := IsR .non) (ev_call (ps := [IsR (.ref S.p), IsSq K (F.map fixD)]) (eas_cons hp (eas_cons hf eas_nil)) fun vs H2 e2 hv Q q => by
    obtain ⟨v, u, rfl, q1, q2⟩ := als2 hv
    have q1 : v = .ref S.p := q1
    subst q1
    exact ⟨S, u, F, rfl, hc.ex e2, q2, hF, by omega, fun H3 e3 => q _ H3 e3 rfl⟩) fun _ H2 e2 _ => k H2 e2
def IsW (T : List Int) (F : List (Int × Int)) : PV := fun H v => ∃ W, IsD H v (dT W) ∧ wantL T F W ∧ W.length ≤ 1000
instance (T : List Int) (F : List (Int × Int)) : Mn (IsW T F) := ⟨fun e ⟨W, h1, h2⟩ => ⟨W, h1.mono (Tp.of e), h2⟩⟩
theorem ev_wanted {σ : L2.St} {H : Hp} {tt tf : TE} {T : List Int} {F : List (Int × Int)} (ht : EvP tt σ H (Is (dT T))) (hf : EvP tf σ H (IsSq K (F.map fixD))) (h1 : T.length ≤ 8) (h2 : F.length ≤ 8) : EvP (tCall (sp_wanted P w K n) [] E0 (tCons tt (tCons tf tNil))) σ H (IsW T F) :=
  ev_call (ps := [Is (dT T), IsSq K (F.map fixD)]) (eas_cons ht (eas_cons hf eas_nil)) fun vs H4 e4 hv Q q => by
    obtain ⟨v, u, rfl, q1, q2⟩ := als2 hv
    exact ⟨v, u, T, F, rfl, q1, q2, h1, h2, fun v W H5 e5 h5 hW hWl => q v H5 e5 ⟨W, h5, hW, hWl⟩⟩
theorem want_iff {T W : List Int} {F : List (Int × Int)} (h : wantL T F W) : ∀ e, e ∈ W ↔ e ∈ wantT T F := fun e => (h e).trans (by unfold wantT; rw [List.mem_append])
theorem pure_roads {vs : List V} {H : Hp} {Q : VK} {E : XK} (T : Txt K mg n) (h : sp_roads P w K n vs H Q E) : t_roads P w K n E0 { nx := fun _ H' => Q .non H', rt := Q } (start ["cube", "table", "fixed", "rows", "road"] vs) H := by
  obtain ⟨S, t, f, L, F, rfl, hc, ht, hf, hL, hFT, hF8, hL8, k⟩ := h
  have hlim := hc.sk.ok.lim
  refine s_need T (S := S) (L := L) (ev_ref rfl) (ev_var (v := t) rfl ht) hc.sk hL fun H1 e1 => ?_
  refine s_needF (K := K) (S := S) (F := F) (f := f) (ev_ref rfl) (ev_var (v := f) rfl (Mn.mn e1 hf)) (hc.ex e1) hFT hF8 fun H2 e2 => ?_
  have e12 := e1.trans e2
  have c2 := hc.ex e12
  have r1 : EvF (tMeth n.cube "roads" (sp_c_roads P w K n) [] E0 (tVar 0) (tCons (tCall (sp_wanted P w K n) [] E0 (tCons (tVar 1) (tCons (tVar 2) tNil))) tNil)) (start ["cube", "table", "fixed", "rows", "road"] [.ref S.p, t, f]) H2 ((rankL S.B S.Ts (wantT L F)).map fun e => .tuple [.int e.1, dT e.2.2]) :=
    evf_meth (ps := [IsW L F]) (ev_ref rfl) c2.sk.ob (m_roads S) (eas_cons (ev_wanted (ev_var (v := t) rfl (ht.mono (Tp.of e12))) (ev_var (v := f) rfl (Mn.mn e12 hf)) hL8 hF8) eas_nil) fun vs H3 e3 hv Q q => by
      obtain ⟨u, rfl, W, q1, q2, q3⟩ := als1 hv
      refine ⟨S, u, W, rfl, c2.ex e3, q1, q3, ?_⟩
      rw [rank_congr S.B S.Ts (want_iff q2)]
      exact q
  have h3 := evf_lc (P := P) (w := w) (K := K) (g := gTup K 2 (gCons (gName 3) (gCons (gName 4) gNil))) (tt := tYes) (te := tTupF (tCons (tVar 4) (tCons (tVar 3) tNil))) (vs := [3, 4])
    (σ := start ["cube", "table", "fixed", "rows", "road"] [.ref S.p, t, f]) (H := H2) (fun e : Int × Int × List Int => .tuple [.int e.1, dT e.2.2]) (fun _ => true) roadD (rankL S.B S.Ts (wantT L F)) (r1.l (K := K)).sq
    (line1000 (Nat.le_trans rank_len (by
      unfold CS.Ts
      rw [List.length_map]
      omega))) fun x hx v H3 e3 hv => turn_tup2 hv (fun _ _ => rfl) fun v1 v2 q1 q2 => ⟨evt_yes, fun _ => ev_tup (eds_cons (ev_var (v := v2) rfl q2) (eds_cons (ev_var (v := v1) rfl q1) eds_nil)) (by simp)⟩
  rw [filter_all] at h3
  exact s_retF h3 fun c zs H3 nc e3 hcc hz => k c zs H3 (Evl.fresh_back e12 nc) (e12.trans e3) hcc hz
/-- a call of roads -/
theorem evf_roads {σ : L2.St} {H : Hp} {tc tt tf : TE} {S : CS} {T : List Int} {F : List (Int × Int)} (hp : EvP tc σ H (IsR (.ref S.p))) (ht : EvP tt σ H (Is (dT T))) (hf : EvP tf σ H (IsSq K (F.map fixD))) (hc : CubeAt P w n.cube H S) (hT : Tab S.n T) (hF : Tab S.n (F.map (·.1))) (h1 : F.length ≤ 8) (h2 : T.length ≤ 8) :
    EvF (tCall (sp_roads P w K n) [] E0 (tCons tc (tCons tt (tCons tf tNil)))) σ H ((rankL S.B S.Ts (wantT T F)).map roadD) :=
  evf_call (ps := [IsR (.ref S.p), Is (dT T), IsSq K (F.map fixD)]) (eas_cons hp (eas_cons ht (eas_cons hf eas_nil))) fun vs H3 e3 hv Q q => by
    obtain ⟨u1, u2, u3, rfl, q1, q2, q3⟩ := als3 hv
    have q1 : u1 = .ref S.p := q1
    subst q1
    exact ⟨S, u2, u3, T, F, rfl, hc.ex e3, q2, q3, hT, hF, h1, h2, q⟩
/-- a call of asked -/
theorem evf_asked {σ : L2.St} {H : Hp} {tc tt tf tr : TE} {S : CS} {T R : List Int} {F : List (Int × Int)} (hp : EvP tc σ H (IsR (.ref S.p))) (ht : EvP tt σ H (Is (dT T))) (hf : EvP tf σ H (IsSq K (F.map fixD))) (hr : EvP tr σ H (Is (dT R))) (hc : CubeAt P w n.cube H S) (hT : Tab S.n T) (hF : Tab S.n (F.map (·.1))) (h1 : F.length ≤ 8) (h2 : T.length ≤ 8)
    (hR : R ∈ S.Ts) (hs : sub (wantT T F) R = true) : EvF (tCall (sp_asked P w K n) [] E0 (tCons tc (tCons tt (tCons tf (tCons tr tNil))))) σ H (ansD S.B T F) :=
  evf_call (ps := [IsR (.ref S.p), Is (dT T), IsSq K (F.map fixD), Is (dT R)]) (eas_cons hp (eas_cons ht (eas_cons hf (eas_cons hr eas_nil)))) fun vs H3 e3 hv Q q => by
    obtain ⟨u1, u2, u3, u4, rfl, q1, q2, q3, q4⟩ := als4 hv
    have q1 : u1 = .ref S.p := q1
    subst q1
    refine ⟨S, u2, u3, u4, T, R, F, rfl, hc.ex e3, q2, q3, q4, hT, hF, h1, h2, hR, sub_of fun e he => sub_mem hs e ?_, sub_of fun e he => sub_mem hs e ?_, fun m hm => ?_⟩
    · exact List.mem_append_left _ he
    · exact List.mem_append_right _ he
    · rw [tell_of hm (List.Perm.refl _)]
      exact q
theorem wantT_tab {S : CS} {T : List Int} {F : List (Int × Int)} (hT : Tab S.n T) (hF : Tab S.n (F.map (·.1))) (h : CubeOk S) : ∃ R ∈ S.Ts, sub (wantT T F) R = true := ⟨_, h.whole, sub_of fun e he => by
  rcases List.mem_append.mp he with q | q
  · exact sub_mem (sub_rng hT) e q
  · exact sub_mem (sub_rng hF) e q⟩
theorem pure_answered {vs : List V} {H : Hp} {Q : VK} {E : XK} (T : Txt K mg n) (h : sp_answered P w K n vs H Q E) : t_answered P w K n E0 { nx := fun _ H' => Q .non H', rt := Q } (start ["cube", "table", "fixed", "road"] vs) H := by
  obtain ⟨S, t, f, L, F, rfl, hc, ht, hf, hL, hFT, hF8, hL8, k⟩ := h
  obtain ⟨x, rest, hx, hxb, hxT, hxs⟩ := rank_head (B := S.B) (wantT_tab hL hFT hc.sk.ok)
  have r1 := evf_roads (P := P) (w := w) (K := K) (n := n) (σ := start ["cube", "table", "fixed", "road"] [.ref S.p, t, f]) (tc := tVar 0) (tt := tVar 1) (tf := tVar 2) (ev_ref rfl) (ev_var (v := t) rfl ht) (ev_var (v := f) rfl hf) hc hL hFT hF8 hL8
  rw [hx] at r1
  refine s_asg (p := Is (dT (bestR S.B S.Ts (wantT L F)))) (ev_at (i := 0) (ev_ix (i := 0) (r1.l (K := K)).sq (ev_int _) rfl) (by rw [← hxb]; rfl)) fun v2 H1 e1 hv2 => ?_
  rw [hxb] at hxs hxT
  have c1 := hc.ex e1
  show tRet _ _ [some (.ref S.p), some t, some f, some v2] H1
  refine (evf_asked (P := P) (w := w) (K := K) (n := n) (σ := [some (.ref S.p), some t, some f, some v2]) (H := H1) (tc := tVar 0) (tt := tVar 1) (tf := tVar 2) (tr := tVar 3) (ev_ref rfl) (ev_var (v := t) rfl (ht.mono (Tp.of e1))) (ev_var (v := f) rfl (Mn.mn e1 hf)) (ev_var (v := v2) rfl hv2) c1 hL hFT hF8 hL8 hxT hxs) H1 (Ex.refl _) _ fun a xs H2 na e2 ha hxs2 => ?_
  refine ⟨v2, rfl, by show 2 ≤ sizeLine; decide, fun p o np hd => ?_⟩
  have e3 : Ex H2 (upd H2 p (.frz o (.tup [.ref a, v2]))) := Ex.new np
  exact k a xs v2 p _ (Evl.fresh_back e1 na) (Evl.fresh_back (e1.trans e2) np) ((e1.trans e2).trans e3) (e3 _ _ ha) (hxs2.mono (Tp.of e3)) (hv2.mono (Tp.of ((e2).trans e3))) (tupAt_new hd)
/-! ### what is answered, as a value -/
def AnsP (B : List (List Int × Int)) (Ts : List (List Int)) (T : List Int) (F : List (Int × Int)) : PV := fun H v => ∃ p a xs r, v = .ref p ∧ TupAt H p [.ref a, r] ∧ H a = some (.lst xs) ∧ IsDs H xs (ansD B T F) ∧ IsD H r (dT (bestR B Ts (wantT T F)))
instance (B : List (List Int × Int)) (Ts : List (List Int)) (T : List Int) (F : List (Int × Int)) : Mn (AnsP B Ts T F) := ⟨fun e ⟨p, a, xs, r, h1, h2, h3, h4, h5⟩ => ⟨p, a, xs, r, h1, h2.mono (Tp.of e), e _ _ h3, h4.mono (Tp.of e), h5.mono (Tp.of e)⟩⟩
theorem ev_answered {σ : L2.St} {H : Hp} {tc tt tf : TE} {S : CS} {T : List Int} {F : List (Int × Int)} (hp : EvP tc σ H (IsR (.ref S.p))) (ht : EvP tt σ H (Is (dT T))) (hf : EvP tf σ H (IsSq K (F.map fixD))) (hc : CubeAt P w n.cube H S) (hT : Tab S.n T) (hF : Tab S.n (F.map (·.1))) (h1 : F.length ≤ 8) (h2 : T.length ≤ 8) :
    EvP (tCall (sp_answered P w K n) [] E0 (tCons tc (tCons tt (tCons tf tNil)))) σ H (AnsP S.B S.Ts T F) :=
  ev_call (ps := [IsR (.ref S.p), Is (dT T), IsSq K (F.map fixD)]) (eas_cons hp (eas_cons ht (eas_cons hf eas_nil))) fun vs H3 e3 hv Q q => by
    obtain ⟨u1, u2, u3, rfl, q1, q2, q3⟩ := als3 hv
    have q1 : u1 = .ref S.p := q1
    subst q1
    exact ⟨S, u2, u3, T, F, rfl, hc.ex e3, q2, q3, hT, hF, h1, h2, fun a xs r p H' na np e ha hx hr hp => q _ H' e ⟨p, a, xs, r, rfl, hp, ha, hx, hr⟩⟩
/-- a list of its own -/
def IsO (ds : List PyData) : PV := fun H v => ∃ a xs, v = .ref a ∧ H a = some (.lst xs) ∧ IsDs H xs ds
instance (ds : List PyData) : Mn (IsO ds) := ⟨fun e ⟨a, xs, h1, h2, h3⟩ => ⟨a, xs, h1, e _ _ h2, h3.mono (Tp.of e)⟩⟩
theorem EvP.ol {σ : L2.St} {H : Hp} {te : TE} {ds : List PyData} (h : EvP te σ H (IsO ds)) : EvP te σ H (IsL K ds) := h.imp fun _ _ ⟨a, xs, h1, h2, h3⟩ => ⟨a, xs, h1, .inl (.inl h2), h3⟩
theorem EvF.o {σ : L2.St} {H : Hp} {te : TE} {ds : List PyData} (h : EvF te σ H ds) : EvP te σ H (IsO ds) := fun H1 e Q k => h H1 e Q fun a xs H2 _ e2 ha hx => k _ _ e2 ⟨a, xs, rfl, ha, hx⟩
theorem ev_ans0 {σ : L2.St} {H : Hp} {te : TE} {B : List (List Int × Int)} {Ts : List (List Int)} {T : List Int} {F : List (Int × Int)} (h : EvP te σ H (AnsP B Ts T F)) : EvP (tOp (rIxU P w K) te (tC (.int 0))) σ H (IsO (ansD B T F)) :=
  ev_op h (ev_int 0) fun x y H1 _ ⟨p, a, xs, r, ex, hp, ha, hx, hr⟩ hy Q k => by
    subst ex
    have ey := isInt_get hy
    subst ey
    exact .inr (.inl (.inl ⟨p, _, _, .ref a, rfl, rfl, hp.sq, rfl, k _ _ (Ex.refl _) ⟨a, xs, rfl, ha, hx⟩⟩))
end
end KC
end

section
set_option Elab.async false
set_option linter.all false
set_option autoImplicit false
set_option maxRecDepth 100000
set_option maxHeartbeats 4000000
/-! A cube behind some deeds; all tables; what may be asked. -/
namespace KC
open PySem L2 PySem.W
open Evl (Ex EvT)
section
variable {P : Program} {w : World} {K : PySem.W.Frag} {mg : Str → Option Value} {n : Nm}
theorem Fr.drop {L L' : List Addr} {H H1 H2 : Hp} (f : Fr L H H1) (g : Fr L' H1 H2) (h : ∀ a ∈ L', a ∈ L ∨ H a = none) : Fr L H H2 := ⟨fun a o e m => g.1 a o (f.1 a o e m) fun z => (h a z).elim m (fun q => by rw [q] at e; cases e), f.2.trans g.2⟩
theorem Fr.back {L : List Addr} {H H1 : Hp} (f : Fr L H H1) {a : Addr} (h : H1 a = none) (n : a ∉ L) : H a = none := by
  cases z : H a with
  | none => rfl
  | some o => rw [f.1 a o z n] at h; cases h
theorem row_some {H : Hp} {r s : Addr} (h : RowAt K H r s) : H r ≠ none := by
  obtain ⟨p, zz, hh, _⟩ := h
  rw [hh]
  exact fun z => by cases z
theorem Turn0.next {C r s p q : Addr} {i : Nat} {H H' : Hp} {S S' : CS} {M M' : MS} (T : Turn0 P w K C r s p q i H S M) (h1 : S'.p = S.p) (h2 : M'.p = M.p) (h3 : M'.foot = M.foot) (h5 : M'.rows.length ≤ M.rows.length + 1) (h6 : M'.kept.length ≤ M.kept.length + 1)
    (h7 : ∀ a ∈ S'.foot, a ∈ S.foot ∨ H a = none) (hB : Both P w C H' S' M') (hR : RowAt K H' r s) : Turn0 P w K C r s p q (i + 1) H' S' M' := by
  have hr := T.rows
  have hk := T.kept
  refine ⟨hR, hB, fun z => ?_, by rw [h3]; exact T.rM, ?_, h1.trans T.hp, h2.trans T.hq, by omega, by omega⟩
  · rcases h7 r z with h | h
    · exact T.rS h
    · exact row_some T.row h
  · rcases T.ss with h | ⟨h, h'⟩
    · exact .inl h
    · rcases row_tracked T.row with y | y
      · exact .inl y
      · refine .inr ⟨fun z => ?_, by rw [h3]; exact h'⟩
        rcases h7 s z with c | c
        · exact h c
        · exact y c
theorem Turn0.fr {C r s p q : Addr} {i : Nat} {H H' : Hp} {S : CS} {M : MS} (T : Turn0 P w K C r s p q i H S M) (f : Fr [r] H H') (hR : RowAt K H' r s) : Turn0 P w K C r s p q i H' S M := by
  have hS : ∀ b ∈ S.foot, b ∉ [r] := fun b hb => by
    simp only [List.mem_singleton]
    exact fun z => T.rS (z ▸ hb)
  have hM : ∀ b ∈ M.foot, b ∉ [r] := fun b hb => by
    simp only [List.mem_singleton]
    exact fun z => T.rM (z ▸ hb)
  exact ⟨hR, ⟨T.both.c.fr f hS, T.both.m.fr f hM, T.both.nn, T.both.bb, T.both.tt, T.both.gg, T.both.apart⟩, T.rS, T.rM, T.ss, T.hp, T.hq, T.rows, T.kept⟩
theorem pure_law_grown {vs : List V} {H : Hp} {Q : VK} {E : XK} (T : Txt K mg n) (h : sp_law_grown P w K n vs H Q E) : t_law_grown P w K n E0 { nx := fun _ H' => Q .non H', rt := Q } (start ["_law_row", "_law_most", "_law_many", "_law_m", "_law_cube", "_law_k"] vs) H := by
  obtain ⟨r, s, N, Dn, rfl, hR0, hN1, hN4, hD, k⟩ := h
  refine s_rawAsg (x_call (ps := [IsR (.ref r), Is (.int N)]) (eas_cons (ev_ref rfl) (eas_cons (ev_vi rfl) eas_nil)) fun vs H2 e2 hv => ?_)
  obtain ⟨u1, u2, rfl, p1, p2⟩ := als2 hv
  have p1 : u1 = .ref r := p1
  have p2 := isInt_get p2
  subst p1 p2
  have hR2 := hR0.ex e2
  refine ⟨r, s, N, rfl, hR2, hN1, hN4, fun M H3 hMf hMr hMk hMn f3 hR3 hM3 => ?_⟩
  have hrM : r ∉ M.foot := fun z => row_some hR2 (hMf r z)
  have hsM : KS K s ∨ s ∉ M.foot := (row_tracked hR2).imp id fun h z => h (hMf s z)
  show tSeq _ _ _ [some (.ref r), some (.int N), some (.int Dn), some (.ref M.p), none, none] H3
  refine s_rawAsg ((eas_cons (p := Is (.int M.n)) (ev_medges (M := M) (σ := [some (.ref r), some (.int N), some (.int Dn), some (.ref M.p), none, none]) (ev_ref (i := 3) rfl) hM3.ob) eas_nil) H3 (Ex.refl _) _ fun vs H4 e4 hvs => ?_)
  obtain ⟨u, rfl, p1⟩ := als1 hvs
  have p1 := isInt_get p1
  subst p1
  intro x dx nx ndx nex
  have e5 : Ex H4 (upd (upd H4 dx (.own x)) x (.ins n.cube dx [])) := fun b o q => by
    rw [upd_ne (ne_of_none q nx), upd_ne (ne_of_none q ndx)]
    exact q
  refine ⟨x, dx, M.n, rfl, hM3.n1, hM3.n4, upd_same, fun S H5 hSp hSn hSB hSg hSt hSf f5 hC5 => ⟨rfl, ?_⟩⟩
  have e45 : Ex H4 H5 := fun b o q => f5.1 b o (e5 b o q) (by simpa using ne_of_none q nx)
  have hM5 := (hM3.ex e4).ex e45
  have hR5 := (hR3.ex e4).ex e45
  have hM4 := hM3.ex e4
  have hR4 := hR3.ex e4
  have hSnone : ∀ b ∈ S.foot, H4 b = none := fun b hb => by
    by_cases z : b = x
    · subst z; exact nx
    · have := hSf b hb z
      rw [upd_ne z] at this
      by_cases y : b = dx
      · subst y; exact ndx
      · rw [upd_ne y] at this; exact this
  subst hSp
  have f04 : Fr [r] H H4 := ((Fr.ex e2).trans f3).trans (Fr.ex e4)
  have T5 : Turn0 P w K n.cube r s S.p M.p 0 H5 S M := by
    refine ⟨hR5, ⟨hC5, hM5, hSn, by rw [hSB, hMr], fun U => ?_, fun U => ?_, fun b hb z => ?_⟩, fun z => ?_, hrM, ?_, rfl, rfl, by rw [hMr]; exact Nat.le_refl _, by rw [hMk]; exact Nat.le_refl _⟩
    · rw [hSt, hMk]
      simp [getG]
    · rw [hSg, hMk]
      simp [getG]
    · exact m_tracked hM4 b z (hSnone b hb)
    · exact row_some hR4 (hSnone r z)
    · rcases row_tracked hR4 with h | h
      · exact .inl h
      · rcases hsM with h' | h'
        · exact .inl h'
        · exact .inr ⟨fun z => h (hSnone s z), h'⟩
  have hS0 : ∀ b ∈ S.foot, H b = none := fun b hb => f04.back (hSnone b hb) (by
    simp only [List.mem_singleton]
    exact fun z => row_some hR4 (hSnone r (z ▸ hb)))
  have hM0 : ∀ b ∈ M.foot, H b = none := fun b hb => Evl.fresh_back e2 (hMf b hb)
  have f5' : Fr [r] H H5 := f04.trans (Fr.ex e45)
  clear hSnone hSf f5 e45 hM5 hR5 hC5 e5 hR4 hM4
  show tSeq _ _ _ [some (.ref r), some (.int N), some (.int Dn), some (.ref M.p), some (.ref S.p), none] H5
  have hpS : ∃ p, S.p = p := ⟨_, rfl⟩
  have hqM : ∃ q, M.p = q := ⟨_, rfl⟩
  obtain ⟨p, hp⟩ := hpS
  obtain ⟨q, hq⟩ := hqM
  rw [hp, hq] at T5 ⊢
  refine s_seq (s_forRx ?_)
  refine x_taken (m := (Dn : Int) + 1) T5.row (ev_ref rfl) (ev_add (ev_vi (i := 2) rfl) (ev_int 1)) (by omega) fun i0 H7 f7 hR7 hi0 hi1 => ?_
  have ei : i0 = ((i0.toNat : Nat) : Int) := by omega
  rw [ei]
  have T7 := T5.fr f7 hR7
  refine s_forRc i0.toNat (by omega) (fun i σ' H' => ∃ S' M' x5, σ' = [some (.ref r), some (.int N), some (.int Dn), some (.ref q), some (.ref p), x5] ∧ Turn0 P w K n.cube r s p q i H' S' M' ∧ (∀ b ∈ S'.foot, H b = none) ∧ M'.foot = M.foot ∧ M'.n = M.n ∧ Fr [r] H H') ⟨S, M, none, rfl, T7, hS0, rfl, rfl, f5'.trans f7⟩ ?_ ?_
  · rintro i σ' H8 hi ⟨S1, M1, x5, rfl, T8, hS8, hMf8, hMn8, f8⟩ Nx kn
    show tIfS _ _ _ _ [some (.ref r), some (.int N), some (.int Dn), some (.ref q), some (.ref p), some (.int (i : Nat))] H8
    have hSp := T8.hp
    have hMp := T8.hq
    have hrw := T8.rows
    have hkp := T8.kept
    refine (x_call (E := E0) (sp := sp_law_deed P w K n) (ta := tCons (tVar 0) (tCons (tVar 4) (tCons (tVar 3) tNil))) (σ := [some (.ref r), some (.int N), some (.int Dn), some (.ref q), some (.ref p), some (.int (i : Nat))]) (ps := [IsR (.ref r), IsR (.ref p), IsR (.ref q)]) (eas_cons (ev_ref rfl) (eas_cons (ev_ref rfl) (eas_cons (ev_ref rfl) eas_nil))) fun vs H9 e9 hv => ?_)
    obtain ⟨u1, u2, u3, rfl, p1, p2, p3⟩ := als3 hv
    have p1 : u1 = .ref r := p1
    have p2 : u2 = .ref p := p2
    have p3 : u3 = .ref q := p3
    subst p1 p2 p3
    have T9 := T8.ex e9
    have f9 := f8.trans (Fr.ex e9)
    refine ⟨r, s, S1, M1, by rw [hSp, hMp], T9.row, T9.both, T9.rS, T9.rM, T9.ss, by omega, by omega, fun S' M' H10 h1 h2 h3 h4 h5 h6 h7 hf hB' hR' => ?_⟩
    refine ⟨true, rfl, ?_⟩
    show (if (!true) = true then _ else _)
    rw [if_neg (by decide)]
    refine kn _ _ ⟨S', M', _, rfl, T9.next h1 h2 h3 h5 h6 h7 hB' hR', fun b hb => ?_, h3.trans hMf8, h4.trans hMn8, f9.drop hf fun b hb => ?_⟩
    · rcases h7 b hb with c | c
      · exact hS8 b c
      · refine f9.back c ?_
        simp only [List.mem_singleton]
        exact fun z => row_some T9.row (z ▸ c)
    · rcases List.mem_append.mp hb with c | c
      · rcases List.mem_append.mp c with c | c
        · exact .inr (hS8 b c)
        · rw [hMf8] at c
          exact .inr (hM0 b c)
      · exact .inl c
  · rintro σ' H8 ⟨S1, M1, x5, rfl, T8, hS8, hMf8, hMn8, f8⟩
    refine ⟨.ref p, rfl, .ref q, rfl, by show 2 ≤ sizeLine; decide, fun t o nt hd => ?_⟩
    have et : Ex H8 (upd H8 t (.frz o (.tup [.ref p, .ref q]))) := Ex.new nt
    have T9 := T8.ex et
    have hSp := T8.hp
    have hMp := T8.hq
    have hrw := T8.rows
    have hkp := T8.kept
    refine k S1 M1 t _ (f8.trans (Fr.ex et)) hS8 (by rw [hMf8]; exact hM0) (by omega) ⟨T9.row, T9.both, T9.rS, T9.rM, T9.ss, rfl, rfl, by omega, by omega⟩ ?_
    rw [hSp, hMp]
    exact tupAt_new hd
/-! ### all tables -/
theorem allT_map (N : Nat) : (allT N).map dT = ((grow N).map dT).mergeSort dle := sort_maps dT fun a _ b _ => rfl
theorem grow_small (i : Nat) (h : i ≤ 4) : (grow i).length ≤ 16 ∧ ∀ T ∈ grow i, T.length ≤ 4 := by
  have : i = 0 ∨ i = 1 ∨ i = 2 ∨ i = 3 ∨ i = 4 := by omega
  rcases this with e | e | e | e | e <;> subst e <;> decide
theorem pure_law_all {vs : List V} {H : Hp} {Q : VK} {E : XK} (T : Txt K mg n) (h : sp_law_all P w K n vs H Q E) : t_law_all P w K n E0 { nx := fun _ H' => Q .non H', rt := Q } (start ["_law_many", "_law_found", "_law_edge", "_law_table_here"] vs) H := by
  obtain ⟨N, rfl, hN, k⟩ := h
  refine s_asgF (evf_lst (ds := [dT []]) (eds_cons (ev_tup (ds := []) eds_nil (by simp)) eds_nil) (by simp)) fun a xs H1 na e1 ha hx => ?_
  show tSeq _ _ _ [some (.int N), some (.ref a), none, none] H1
  refine s_seq (s_forR (n := N) (ev_vi rfl) (by omega) (fun i σ' H' => ∃ a xs x2, σ' = [some (.int N), some (.ref a), x2, none] ∧ Ex H H' ∧ H a = none ∧ H' a = some (.lst xs) ∧ IsDs H' xs ((grow i).map dT)) (fun H' e => ⟨a, xs, none, rfl, e1.trans e, na, e _ _ ha, hx.mono (Tp.of e)⟩) ?_ ?_)
  · rintro i σ' H' hi ⟨a, xs, x2, rfl, e, na, ha, hx⟩ Nx kn
    show tAsg _ _ _ [some (.int N), some (.ref a), some (.int (i : Nat)), none] H'
    have hg := grow_small i (by omega)
    have h2 := evf_lc (P := P) (w := w) (K := K) (g := gName 3) (tt := tYes) (te := tOp (rPlus K) (tVar 3) (tTupF (tCons (tVar 2) tNil))) (vs := [3]) (σ := [some (.int N), some (.ref a), some (.int (i : Nat)), none]) (H := H') (tl := tVar 1) dT (fun _ => true) (fun T => dT (T ++ [(i : Int)])) (grow i) ((ev_var (p := IsL K _) rfl (isL_at ha hx)).sq) (line1000 (by omega)) fun T hT v H2 e2 hv => turn_of evt_yes fun _ => by
      have hl := hg.2 T hT
      have := ev_cat (K := K) (ds := T.map PyData.int) (es := [.int (i : Nat)]) (a := tVar 3) (b := tTupF (tCons (tVar 2) tNil)) (σ := ((wipe [some (.int N), some (.ref a), some (.int (i : Nat)), none] [3]).set 3 (some v))) (H := H2) (ev_var (v := v) rfl hv) (ev_tup (eds_cons (ev_vi (i := 2) rfl) eds_nil) (by simp)) (by rw [List.length_map, List.length_singleton]; omega)
      have e : PyData.tuple (T.map PyData.int ++ [PyData.int (i : Nat)]) = dT (T ++ [(i : Int)]) := by
        show _ = PyData.tuple ((T ++ [(i : Int)]).map PyData.int)
        rw [List.map_append]; rfl
      rw [e] at this
      exact this
    rw [filter_all] at h2
    have h3 := evf_cat (K := K) (a := tVar 1) (ev_var (p := IsM _) rfl (m_at ha hx)) h2 (by rw [List.length_map, List.length_map]; omega)
    refine h3 H' (Ex.refl _) _ fun b ys H2 nb e2 hb hy => kn _ _ ⟨b, ys, _, rfl, e.trans e2, Evl.fresh_back e nb, hb, ?_⟩
    have eg : (grow (i + 1)).map dT = (grow i).map dT ++ (grow i).map fun T => dT (T ++ [(i : Int)]) := by
      show (grow i ++ (grow i).map (· ++ [(i : Int)])).map dT = _
      rw [List.map_append, List.map_map]; rfl
    rw [eg]
    exact hy
  · rintro σ' H' ⟨a, xs, x2, rfl, e, na, ha, hx⟩
    refine (sorted_tabs (K := K) (w := w) (te := tVar 1) (σ := [some (.int N), some (.ref a), x2, none]) (H := H') (Ts := grow N) (ev_var (p := IsL K _) rfl (isL_at ha hx))) H' (Ex.refl _) _ fun b ys H2 nb e2 hb hy => k b ys H2 (Evl.fresh_back e nb) (e.trans e2) hb ?_
    rw [allT_map]
    exact hy
/-! ### what may be asked -/
theorem pure_law_fixed {vs : List V} {H : Hp} {Q : VK} {E : XK} (T : Txt K mg n) (h : sp_law_fixed P w K n vs H Q E) : t_law_fixed P w K n E0 { nx := fun _ H' => Q .non H', rt := Q } (start ["_law_row", "_law_m", "_law_found", "_law_edge", "_law_value"] vs) H := by
  obtain ⟨r, s, M, rfl, hR, hM, hrM, k⟩ := h
  have hn4 := hM.n4
  have hMr : ∀ b ∈ M.foot, b ∉ [r] := fun b hb => by
    simp only [List.mem_singleton]
    exact fun z => hrM (z ▸ hb)
  refine s_asgF (evf_lst (ds := []) eds_nil (by simp)) fun a xs H1 na e1 ha hx => ?_
  have nar : a ≠ r := fun z => row_some hR (z ▸ na)
  show tSeq _ _ _ [some (.ref r), some (.ref M.p), some (.ref a), none, none] H1
  refine s_seq (s_forR (n := M.n) (ev_medges (M := M) (ev_ref rfl) (e1 _ _ hM.ob)) (by omega) (fun i σ' H' => ∃ x3 x4 F xs, σ' = [some (.ref r), some (.ref M.p), some (.ref a), x3, x4] ∧ Fr [r] H H' ∧ RowAt K H' r s ∧ H' a = some (.lst xs) ∧ IsDs H' xs (F.map fixD) ∧ Tab i (F.map (·.1)) ∧ F.length ≤ i)
    (fun H' e => ⟨none, none, [], xs, rfl, Fr.ex (e1.trans e), hR.ex (e1.trans e), e _ _ ha, hx.mono (Tp.of e), ⟨List.Pairwise.nil, fun x hx => by cases hx⟩, Nat.le_refl _⟩) ?_ ?_)
  · rintro i σ' H2 hi ⟨x3, x4, F, xs, rfl, f2, hR2, ha2, hx2, hF, hFl⟩ Nx kn
    have hM2 := hM.fr f2 hMr
    have h0 := line0
    have fin : ∀ (H6 : Hp) (z : Int) (D : Ends), D.nx = Nx → Fr [r] H2 H6 → RowAt K H6 r s → tDrop (tBG P w K "list" rAppend (tVar 2) (tCons (tTupF (tCons (tVar 3) (tCons (tVar 4) tNil))) tNil)) D [some (.ref r), some (.ref M.p), some (.ref a), some (.int (i : Nat)), some (.int z)] H6 := by
      intro H6 z D hD f6 hR6
      have ha6 : H6 a = some (.lst xs) := f6.1 _ _ ha2 (by simpa using nar)
      refine ⟨.ref a, rfl, .inl (.inl ⟨rfl, xs, .inl (.inl ha6)⟩), ?_⟩
      refine (eas_cons (p := Is (fixD ((i : Int), z))) (ev_tup (ds := [.int (i : Nat), .int z]) (eds_cons (ev_vi (i := 3) (σ := [some (.ref r), some (.ref M.p), some (.ref a), some (.int (i : Nat)), some (.int z)]) rfl) (eds_cons (ev_vi (i := 4) rfl) eds_nil)) (by simp)) eas_nil) H6 (Ex.refl _) _ fun vs H8 e8 hvs => ?_
      obtain ⟨y, rfl, hy⟩ := als1 hvs
      have ha8 := e8 _ _ ha6
      have hx8 := (hx2.mono f6.2).mono (Tp.of e8)
      have hxl : xs.length = F.length := by rw [hx2.length, List.length_map]
      refine ⟨a, xs, y, rfl, rfl, ha8, by omega, ?_⟩
      have t9 : Tp H8 (upd H8 a (.lst (xs ++ [y]))) := tp_lst ha8
      rw [hD]
      refine kn _ _ ⟨_, _, F ++ [((i : Int), z)], _, rfl, ((f2.trans f6).trans (Fr.ex e8)).drop (Fr.set (L := [a]) (by simp) t9) (fun b hb => by rw [List.mem_singleton] at hb; exact .inr (hb ▸ na)), ?_, upd_same, ?_, ?_, ?_⟩
      · exact (hR6.ex e8).fr (Fr.set (L := [a]) (by simp) t9) (by simpa using nar.symm) ((row_tracked hR).imp id fun h => by
          simp only [List.mem_singleton]
          exact fun z => h (z ▸ na))
      · rw [List.map_append]
        exact IsDs.mono t9 (hx8.snoc hy)
      · rw [List.map_append]
        refine ⟨List.pairwise_append.mpr ⟨hF.1, List.pairwise_singleton _ _, fun u hu v hv => ?_⟩, fun u hu => ?_⟩
        · rw [List.map_cons, List.map_nil, List.mem_singleton] at hv
          subst hv
          exact (hF.2 u hu).2
        · rcases List.mem_append.mp hu with hu | hu
          · have := hF.2 u hu; omega
          · rw [List.map_cons, List.map_nil, List.mem_singleton] at hu
            subst hu
            show 0 ≤ (i : Int) ∧ (i : Int) < ((i + 1 : Nat) : Int)
            omega
      · rw [List.length_append, List.length_singleton]; omega
    show tIfS _ _ _ _ [some (.ref r), some (.ref M.p), some (.ref a), some (.int (i : Nat)), x4] H2
    refine x_taken hR2 (ev_ref rfl) (ev_int 3) (by decide) fun j H3 f3 hR3 _ _ => ?_
    refine .inl ⟨.int j, .int 2, .int _, .int _, sh_int _, sh_int _, _, rfl, ?_⟩
    rw [eqv_int]
    show (if decide (j = 2) = true then _ else _)
    by_cases z : j = 2
    · rw [if_pos (decide_eq_true z)]
      -- the value
      show tSeq _ _ _ [some (.ref r), some (.ref M.p), some (.ref a), some (.int (i : Nat)), x4] H3
      refine s_rawAsg ?_
      refine x_taken hR3 (ev_ref rfl) (ev_int 100) (by decide) fun a1 H4 f4 hR4 _ _ => ?_
      refine x_taken hR4 (ev_ref rfl) (ev_int 1000) (by decide) fun a2 H5 f5 hR5 _ _ => ?_
      refine .inl ⟨100, a2, rfl, rfl, ?_⟩
      refine .inl ⟨0, 1, rfl, rfl, ?_⟩
      refine ⟨(by show 3 ≤ sizeLine; decide), fun A hA => ?_⟩
      have e6 : Ex H5 (upd H5 A (.lst [.int a1, .int (100 + a2), .int (0 - 1)])) := Ex.new hA
      have hA6 : (upd H5 A (.lst [.int a1, .int (100 + a2), .int (0 - 1)])) A = some (.lst [.int a1, .int (100 + a2), .int (0 - 1)]) := upd_same
      have hR6 := hR5.ex e6
      have nAr := (row_ne hR5 hA).symm
      generalize upd H5 A (.lst [.int a1, .int (100 + a2), .int (0 - 1)]) = H6 at e6 hA6 hR6
      refine x_taken hR6 (ev_ref rfl) (ev_int 3) (by decide) fun b1 H7 f7 hR7 q1 q2 => ?_
      have hA7 : H7 A = _ := f7.1 _ _ hA6 (by simpa using nAr)
      obtain ⟨y, hy⟩ : ∃ y : Int, ([.int a1, .int (100 + a2), .int (0 - 1)] : List V)[b1.toNat]? = some (.int y) := by
        have : b1.toNat = 0 ∨ b1.toNat = 1 ∨ b1.toNat = 2 := by omega
        rcases this with e | e | e <;> rw [e] <;> exact ⟨_, rfl⟩
      have eb1 : b1 = ((b1.toNat : Nat) : Int) := by omega
      refine .inl ⟨A, _, b1, .int y, rfl, rfl, .inl (.inl hA7), by rw [eb1]; exact atI_nat hy, ?_⟩
      have f27 : Fr [r] H2 H7 := ((((f3.trans f4).trans f5).trans (Fr.ex e6)).trans f7)
      have hM7 := hM2.fr f27 hMr
      show tSeq _ _ _ [some (.ref r), some (.ref M.p), some (.ref a), some (.int (i : Nat)), some (.int y)] H7
      refine s_ifX ?_
      refine (evt_test (ev_neNil ((ev_mrowsL (M := M) (ev_ref (i := 1) rfl) hM7.mr).ml) (rows_sh hM))) H7 (Ex.refl _) _ fun H8 e8 => ?_
      have hR8 := hR7.ex e8
      have f28 := f27.trans (Fr.ex e8)
      cases hrows : (!(M.rows.map rowD).isEmpty) with
      | false =>
        rw [if_neg (by simp)]
        show (if false = true then _ else _)
        rw [if_neg (by simp)]
        exact fin H8 y _ rfl f28 hR8
      | true =>
        rw [if_pos rfl]
        have hne : M.rows ≠ [] := fun y => by rw [y] at hrows; simp at hrows
        have hpos : 0 < M.rows.length := List.length_pos_iff.mpr hne
        refine x_taken hR8 (ev_ref rfl) (ev_int 4) (by decide) fun c1 H9 f9 hR9 _ _ => ?_
        refine ⟨c1, 0, rfl, rfl, _, rfl, ?_⟩
        have f29 := f28.trans f9
        show (if decide (0 < c1) = true then _ else _)
        by_cases zc : 0 < c1
        · rw [if_pos (decide_eq_true zc)]
          have hM9 := hM2.fr f29 hMr
          refine (ev_mrows (M := M) (σ := [some (.ref r), some (.ref M.p), some (.ref a), some (.int (i : Nat)), some (.int y)]) (ev_ref (i := 1) rfl) hM9.ob) H9 (Ex.refl _) _ fun x H10 e10 hx => ?_
          have hx : x = .ref M.rA := hx
          subst hx
          have hM10 := hM9.ex e10
          have gl := ev_len (P := P) (w := w) (K := K) ((ev_mrowsL (M := M) (σ := [some (.ref r), some (.ref M.p), some (.ref a), some (.int (i : Nat)), some (.int y)]) (ev_ref (i := 1) rfl) hM10.mr).msq)
          rw [List.length_map] at gl
          refine x_taken (hR9.ex e10) (ev_ref rfl) gl (by omega) fun j2 H11 f11 hR11 hj0 hj1 => ?_
          have hM11 := hM10.fr f11 hMr
          obtain ⟨ys, hys, hyd⟩ := hM11.rl
          have ej : j2 = ((j2.toNat : Nat) : Int) := by omega
          have hjl : j2.toNat < M.rows.length := by omega
          have hrow : M.rows[j2.toNat]? = some M.rows[j2.toNat] := List.getElem?_eq_getElem hjl
          obtain ⟨u, hu1, hu2⟩ := IsDs.get' (i := j2.toNat) (d := rowD M.rows[j2.toNat]) hyd (by rw [List.getElem?_map, hrow]; rfl)
          have hok := hM.rows _ (List.mem_of_getElem? hrow)
          generalize M.rows[j2.toNat] = row at hrow hu2 hok
          refine .inl ⟨M.rA, ys, j2, u, rfl, rfl, .inl (.inl hys), by rw [ej]; exact atI_nat hu1, ?_⟩
          obtain ⟨p1, ws, rfl, ht, hw⟩ := isTup_get hu2
          obtain ⟨v1, ws, rfl, q1', hw⟩ := isDs_cons hw
          refine .inr (.inl (.inl ⟨p1, _, ((0 : Nat) : Int), v1, rfl, rfl, ht.sq, atI_nat rfl, ?_⟩))
          obtain ⟨p2, rfl, ht2⟩ := isT_get q1'
          have hil : i < row.1.length := by rw [hok.1]; omega
          refine ⟨.int (i : Nat), rfl, ?_⟩
          refine .inr (.inl (.inl ⟨p2, _, (i : Nat), .int (row.1[i]), rfl, rfl, ht2.sq, atI_nat (by rw [List.getElem?_map, List.getElem?_eq_getElem hil]; rfl), ?_⟩))
          exact fin H11 (row.1[i]) _ rfl ((f29.trans (Fr.ex e10)).trans f11) hR11
        · rw [if_neg (by simp [zc])]
          exact fin H9 y _ rfl f29 hR9
    · rw [if_neg (by simp [z])]
      exact kn _ _ ⟨_, _, F, xs, rfl, f2.trans f3, hR3, f3.1 _ _ ha2 (by simpa using nar), hx2.mono f3.2, ⟨hF.1, fun u hu => by have := hF.2 u hu; omega⟩, by omega⟩
  · rintro σ' H2 ⟨x3, x4, F, xs, rfl, f2, hR2, ha2, hx2, hF, hFl⟩
    exact ⟨.ref a, rfl, k a xs F H2 na f2 hR2 ha2 hx2 hF⟩
end
end KC
end

section
set_option Elab.async false
set_option linter.all false
set_option autoImplicit false
set_option maxRecDepth 100000
set_option maxHeartbeats 4000000
/-! Sums of bags come together: plain Lean. -/
namespace KC
open PySem L2 PySem.W
section
variable {κ κ' : Type} [DecidableEq κ] [DecidableEq κ']
theorem getG_perm {α : Type} {m m' : List (κ × α)} (nd : (m.map (·.1)).Nodup) (p : m.Perm m') (k : κ) : getG m' k = getG m k := by
  have nd' : (m'.map (·.1)).Nodup := (p.map _).nodup_iff.mp nd
  cases e : getG m k with
  | some v => exact getG_of_mem nd' (p.mem_iff.mp (getG_mem e))
  | none => exact getG_none.mpr fun z => getG_none.mp e ((p.map _).mem_iff.mpr z)
theorem Right.mperm {m m' : List (κ × (Int × Int))} {B : List (κ × Int)} (h : Right m B) (p : m.Perm m') : Right m' B := ⟨(p.map _).nodup_iff.mp h.nd, fun k => by rw [getG_perm h.nd p, h.at_ k]⟩
theorem agg_flat (f : κ → List (κ' × Int)) : ∀ ks : List κ, agg (ks.flatMap f) = ((ks.map fun k => (agg (f k)).1).sum, (ks.map fun k => (agg (f k)).2).sum)
  | [] => rfl
  | k :: ks => by
    rw [List.flatMap_cons, agg_append, agg_flat f ks]
    rfl
theorem Right.sums {m : List (κ × (Int × Int))} {B : List (κ × Int)} (h : Right m B) : (m.map fun e => e.2.1).sum = (B.length : Int) ∧ (m.map fun e => e.2.2).sum = (agg B).2 := by
  have p := blocks (m.map (·.1)) B h.nd fun r hr => (h.key r.1).mpr (List.mem_map.mpr ⟨r, hr, rfl⟩)
  have e := agg_perm p
  rw [agg_flat, List.map_map, List.map_map] at e
  have q : ∀ x ∈ m, agg (ofK B x.1) = x.2 := fun x hx => by
    have : getG m x.1 = some x.2 := getG_of_mem h.nd hx
    rw [h.at_] at this
    rw [← getD_aggO, this]
    rfl
  have e1 : m.map ((fun k => (agg (ofK B k)).1) ∘ fun x => x.1) = m.map fun e => e.2.1 := List.map_congr_left fun x hx => by
    show (agg (ofK B x.1)).1 = _
    rw [q x hx]
  have e2 : m.map ((fun k => (agg (ofK B k)).2) ∘ fun x => x.1) = m.map fun e => e.2.2 := List.map_congr_left fun x hx => by
    show (agg (ofK B x.1)).2 = _
    rw [q x hx]
  rw [e1, e2] at e
  rw [← agg_count B, ← e]
  exact ⟨rfl, rfl⟩
theorem zip_self : ∀ (l : List κ) (q : κ × κ), q ∈ l.zip l → q.1 = q.2
  | [], q, z => by simp at z
  | x :: l, q, z => by
    rw [List.zip_cons_cons] at z
    rcases List.mem_cons.mp z with z | z
    · rw [z]
    · exact zip_self l q z
theorem Right.reckOn {m : List (κ × (Int × Int))} {B : List (κ × Int)} (h : Right m B) (π : κ → κ') {mA : List (κ' × (Int × Int))} {A : List (κ' × Int)} (hA : Right mA A) : Right (KC.reck π m mA) ((B.map fun r => (π r.1, r.2)) ++ A) := by
  have hr := reck_right π m (m.map fun e => ofK B e.1) mA A hA (by simp) (by
    intro p hp
    rw [List.zip_map_right] at hp
    obtain ⟨⟨q1, q2⟩, hq, rfl⟩ := List.mem_map.mp hp
    have hq1 := List.of_mem_zip hq
    have hqe : q1 = q2 := by
      have : ∀ (l : List (κ × (Int × Int))) (q : (κ × (Int × Int)) × (κ × (Int × Int))), q ∈ l.zip l → q.1 = q.2 := by
        intro l
        induction l with
        | nil => intro q z; simp at z
        | cons x l ih =>
          intro q z
          rw [List.zip_cons_cons] at z
          rcases List.mem_cons.mp z with z | z
          · rw [z]
          · exact ih q z
      exact this m _ hq
    subst hqe
    have hg : getG m q1.1 = some q1.2 := getG_of_mem h.nd hq1.1
    rw [h.at_] at hg
    unfold aggO at hg
    by_cases z : ofK B q1.1 = []
    · rw [if_pos z] at hg; cases hg
    · rw [if_neg z] at hg
      exact ⟨z, fun r hr => of_decide_eq_true (List.mem_filter.mp hr).2, (Option.some.inj hg).symm⟩)
  refine hr.perm (List.Perm.append_right _ (List.Perm.map _ ?_))
  have e : (m.map fun e => ofK B e.1).flatten = (m.map (·.1)).flatMap fun k => ofK B k := by
    rw [List.flatMap_def, List.map_map]; rfl
  rw [e]
  exact blocks _ B h.nd fun r hr => (h.key r.1).mpr (List.mem_map.mpr ⟨r, hr, rfl⟩)
/-- what a law adds up by itself: nothing is dropped -/
def putS (m : List (κ × (Int × Int))) (k : κ) (c s : Int) : List (κ × (Int × Int)) := putG m k (((getG m k).getD (0, 0)).1 + c, ((getG m k).getD (0, 0)).2 + s)
def tog (π : κ → κ') : List (κ × (Int × Int)) → List (κ' × (Int × Int)) → List (κ' × (Int × Int))
  | [], m => m
  | e :: es, m => tog π es (putS m (π e.1) e.2.1 e.2.2)
theorem tog_append (π : κ → κ') : ∀ (a b : List (κ × (Int × Int))) (m : List (κ' × (Int × Int))), tog π (a ++ b) m = tog π b (tog π a m)
  | [], _, _ => rfl
  | e :: a, b, m => tog_append π a b _
theorem putS_addG {m : List (κ × (Int × Int))} {k : κ} {c s : Int} (hc : 0 < c) (h : ∀ k v, getG m k = some v → 0 < v.1) : putS m k c s = addG m k c s := by
  unfold putS addG
  rw [if_neg]
  cases e : getG m k with
  | none => show ¬ (0 : Int) + c = 0; omega
  | some v =>
    have := h k v e
    show ¬ v.1 + c = 0
    omega
theorem putS_pos {m : List (κ × (Int × Int))} {k : κ} {c s : Int} (hc : 0 < c) (h : ∀ k v, getG m k = some v → 0 < v.1) : ∀ j v, getG (putS m k c s) j = some v → 0 < v.1 := fun j v e => by
  unfold putS at e
  rw [get_put] at e
  by_cases z : j = k
  · rw [if_pos z] at e
    cases e
    cases e : getG m k with
    | none => show 0 < (0 : Int) + c; omega
    | some v =>
      have := h k v e
      show 0 < v.1 + c
      omega
  · rw [if_neg z] at e
    exact h j v e
theorem tog_reck (π : κ → κ') : ∀ (es : List (κ × (Int × Int))) (m : List (κ' × (Int × Int))), (∀ e ∈ es, 0 < e.2.1) → (∀ k v, getG m k = some v → 0 < v.1) → tog π es m = reck π es m
  | [], _, _, _ => rfl
  | e :: es, m, h1, h2 => by
    have hc := h1 e List.mem_cons_self
    show tog π es (putS m (π e.1) e.2.1 e.2.2) = reck π es (addG m (π e.1) e.2.1 e.2.2)
    rw [tog_reck π es _ (fun x hx => h1 x (List.mem_cons_of_mem _ hx)) (putS_pos hc h2), putS_addG hc h2]
theorem Right.pos_mem {m : List (κ × (Int × Int))} {B : List (κ × Int)} (h : Right m B) : ∀ e ∈ m, 0 < e.2.1 := fun e he => h.pos (getG_of_mem h.nd he)
end
/-! ### what is told, and sums of it -/
theorem ents_map (m : List (List Int × (Int × Int))) : (entsR m).map entD = (m.map entD).mergeSort dle := sort_maps entD fun a _ b _ => rfl
theorem ents_perm (m : List (List Int × (Int × Int))) : m.Perm (entsR m) := (List.mergeSort_perm _ _).symm
def tolR (B : List (List Int × Int)) : List (List Int × (Int × Int)) := entsR (mkR B)
theorem tell_eq (B : List (List Int × Int)) : tellR B = (tolR B).map entD := (ents_map _).symm
theorem right_tol (B : List (List Int × Int)) : Right (tolR B) B := (right_mk B).mperm (ents_perm _)
theorem bag_agg (B : List (List Int × Int)) (T : List Int) : agg (bag B T) = agg B := agg_map (fun k => prj k T) B
end KC
end

section
set_option Elab.async false
set_option linter.all false
set_option autoImplicit false
set_option maxRecDepth 100000
set_option maxHeartbeats 4000000
/-! Parts of tuples. -/
namespace KC
open PySem L2 PySem.Spec PyProof.Rows
open Evl (Ex EvT)
/-- t[lo:hi] -/
def rSlF (K : PySem.W.Frag) : V → Option Int → Option Int → Hp → VK → Prop := fun x lo hi H Q => ∃ a xs, x = .ref a ∧ SqT K H a xs ∧
  (HT.sIx xs.length 0 lo = 0 ∧ HT.sIx xs.length xs.length hi = xs.length → Q (.ref a) H) ∧ (¬ (HT.sIx xs.length 0 lo = 0 ∧ HT.sIx xs.length xs.length hi = xs.length) → NewT H (cutV xs lo hi) Q)
theorem sl_tupF {X : Cx} : SlR X (rSlF X.K) := by
  intro pins s σ H x v vl vu lo hi sl Q I rx hs pl pu h
  obtain ⟨a, xs, rfl, hx, q1, q2⟩ := h
  cases rx
  obtain ⟨its, r, ht, hz⟩ := I.tuple hx
  have hlen : its.toArray.size = xs.length := by rw [List.size_toArray]; exact r.length.symm
  refine ⟨"tuple", _, PyProof.Rows.slot_tuple_getitem.lookup, ht.typeIs, ?_⟩
  by_cases hw : HT.sIx xs.length 0 lo = 0 ∧ HT.sIx xs.length xs.length hi = xs.length
  · exact getItem_tuple_whole ht hs pl pu (by rw [hlen]; exact hw) ⟨.ref a, H, I, rfl, q1 hw⟩
  · refine HT.getItem_tuple_cut ht hs pl pu (by rw [hlen]; exact hw) ?_ (by rw [hlen]; exact hz)
    rw [hlen]
    exact newT (h' := s.heap) (t' := s.toks) I (fun _ _ e => e) (Nat.le_trans (cutV_length xs lo hi) hz) ((r.drop (HT.sIx xs.length 0 lo)).take (HT.sIx xs.length xs.length hi - HT.sIx xs.length 0 lo)) (q2 hw)
theorem isDs_take {H : Hp} : ∀ {vs : List V} {ds : List PyData} (k : Nat), IsDs H vs ds → IsDs H (vs.take k) (ds.take k)
  | _, _, 0, _ => by simp only [List.take_zero]; exact .nil
  | _, _, _ + 1, .nil => .nil
  | _, _, k + 1, .cons h t => by simp only [List.take_succ_cons]; exact .cons h (isDs_take k t)
theorem isDs_drop {H : Hp} : ∀ {vs : List V} {ds : List PyData} (k : Nat), IsDs H vs ds → IsDs H (vs.drop k) (ds.drop k)
  | _, _, 0, h => h
  | _, _, _ + 1, .nil => .nil
  | _, _, k + 1, .cons h t => by simp only [List.drop_succ_cons]; exact isDs_drop k t
section
variable {P : Program} {w : World} {K : PySem.W.Frag} {te tk : TE} {σ : L2.St} {H : Hp} {ds : List PyData} {k : Nat}
/-- t[:k] -/
theorem ev_take (h : EvP te σ H (Is (.tuple ds))) (hk : EvP tk σ H (Is (.int k))) : EvP (tSl (rSlF K) te tNoPart (tPart tk)) σ H (Is (.tuple (ds.take k))) := fun H1 e Q kk =>
  h H1 e _ fun x H2 e2 hx => hk H2 (e.trans e2) _ fun y H3 e3 hy => by
    have := isInt_get hy
    subst this
    obtain ⟨a, xs, rfl, ht, hs⟩ := isTup_get (IsD.mono (Tp.of e3) hx)
    have hl := hs.length
    refine ⟨k, rfl, a, xs, rfl, ht.sq, fun z => ?_, fun z => ?_⟩
    · rw [HT.sIx_nat] at z
      have : ds.take k = ds := List.take_of_length_le (by have := z.2; omega)
      rw [this] at kk
      exact kk _ H3 (e2.trans e3) (IsD.mono (Tp.of e3) hx)
    · refine newT_is (ds := ds.take k) ?_ fun v H4 e4 hv => kk v H4 ((e2.trans e3).trans e4) hv
      unfold cutV
      rw [HT.sIx_none, HT.sIx_nat, List.drop_zero, Nat.sub_zero]
      have e : xs.take (min k xs.length) = xs.take k := by
        by_cases q : k ≤ xs.length
        · rw [Nat.min_eq_left q]
        · rw [Nat.min_eq_right (by omega), List.take_length, List.take_of_length_le (by omega)]
      rw [e]
      exact isDs_take k hs
/-- t[k:] -/
theorem ev_drop (h : EvP te σ H (Is (.tuple ds))) (hk : EvP tk σ H (Is (.int k))) : EvP (tSl (rSlF K) te (tPart tk) tNoPart) σ H (Is (.tuple (ds.drop k))) := fun H1 e Q kk =>
  h H1 e _ fun x H2 e2 hx => hk H2 (e.trans e2) _ fun y H3 e3 hy => by
    have := isInt_get hy
    subst this
    obtain ⟨a, xs, rfl, ht, hs⟩ := isTup_get (IsD.mono (Tp.of e3) hx)
    have hl := hs.length
    refine ⟨k, rfl, a, xs, rfl, ht.sq, fun z => ?_, fun z => ?_⟩
    · rw [HT.sIx_nat] at z
      have z1 := z.1
      have : ds.drop k = ds := by
        by_cases q : k = 0
        · subst q; rfl
        · have : ds.length = 0 := by omega
          have : ds = [] := List.length_eq_zero_iff.mp this
          subst this
          simp
      rw [this] at kk
      exact kk _ H3 (e2.trans e3) (IsD.mono (Tp.of e3) hx)
    · refine newT_is (ds := ds.drop k) ?_ fun v H4 e4 hv => kk v H4 ((e2.trans e3).trans e4) hv
      unfold cutV
      rw [HT.sIx_none, HT.sIx_nat]
      have e : (xs.drop (min k xs.length)).take (xs.length - min k xs.length) = xs.drop k := by
        by_cases q : k ≤ xs.length
        · rw [Nat.min_eq_left q, List.take_of_length_le (by rw [List.length_drop]; omega)]
        · rw [Nat.min_eq_right (by omega), List.drop_length, List.drop_of_length_le (by omega)]; simp
      rw [e]
      exact isDs_drop k hs
/-- t[:k] + t[k + 1:] -/
theorem ev_without {T : List Int} (h : EvP te σ H (Is (dT T))) (hk : EvP tk σ H (Is (.int k))) (hz : T.length ≤ 900) :
    EvP (tOp (rPlus K) (tSl (rSlF K) te tNoPart (tPart tk)) (tSl (rSlF K) te (tPart (tOp (rPlus K) tk (tC (.int 1)))) tNoPart)) σ H (Is (dT (T.eraseIdx k))) := by
  have g1 := ev_take (K := K) h hk
  have g2 : EvP (tOp (rPlus K) tk (tC (.int 1))) σ H (Is (.int ((k + 1 : Nat) : Int))) := ev_add hk (ev_int 1)
  have g3 := ev_drop (K := K) h g2
  have g4 := ev_cat (K := K) g1 g3 (by rw [List.length_take, List.length_drop, List.length_map]; omega)
  have e : PyData.tuple ((T.map PyData.int).take k ++ (T.map PyData.int).drop (k + 1)) = dT (T.eraseIdx k) := by
    show _ = PyData.tuple ((T.eraseIdx k).map PyData.int)
    rw [List.eraseIdx_eq_take_drop_succ, List.map_append, List.map_take, List.map_drop]
  rw [e] at g4
  exact g4
end
end KC
end

section
set_option Elab.async false
set_option linter.all false
set_option autoImplicit false
set_option maxRecDepth 100000
set_option maxHeartbeats 4000000
/-! Data with new lists inside. -/
namespace KC
open PySem L2 PySem.W
open Evl (Ex EvT)
mutual
/-- v reads as d; the lists in it were not there in H0 -/
inductive Dn (H0 H : Hp) : V → PyData → Prop
  | dat {v : V} {d : PyData} : IsD H v d → Dn H0 H v d
  | lst {a : Addr} {xs : List V} {ds : List PyData} : H0 a = none → H a = some (.lst xs) → Dns H0 H xs ds → Dn H0 H (.ref a) (.list ds)
  | tup {a : Addr} {xs : List V} {ds : List PyData} : TupAt H a xs → Dns H0 H xs ds → Dn H0 H (.ref a) (.tuple ds)
inductive Dns (H0 H : Hp) : List V → List PyData → Prop
  | nil : Dns H0 H [] []
  | cons {v : V} {vs : List V} {d : PyData} {ds : List PyData} : Dn H0 H v d → Dns H0 H vs ds → Dns H0 H (v :: vs) (d :: ds)
end
section
variable {H0 H H' : Hp}
mutual
theorem Dn.step (hl : ∀ a xs, H0 a = none → H a = some (.lst xs) → H' a = some (.lst xs)) (ht : Tp H H') : ∀ {v : V} {d : PyData}, Dn H0 H v d → Dn H0 H' v d
  | _, _, .dat h => .dat (h.mono ht)
  | _, _, .lst n h t => .lst n (hl _ _ n h) (Dns.step hl ht t)
  | _, _, .tup h t => .tup (h.mono ht) (Dns.step hl ht t)
theorem Dns.step (hl : ∀ a xs, H0 a = none → H a = some (.lst xs) → H' a = some (.lst xs)) (ht : Tp H H') : ∀ {v : List V} {d : List PyData}, Dns H0 H v d → Dns H0 H' v d
  | _, _, .nil => .nil
  | _, _, .cons h t => .cons (Dn.step hl ht h) (Dns.step hl ht t)
end
mutual
theorem Dn.dp {K : PySem.W.Frag} : ∀ {v : V} {d : PyData}, Dn H0 H v d → Dp K H v d
  | _, _, .dat h => h.dp
  | _, _, .lst n h t => .lst (.inl (.inl h)) (Dns.dp t)
  | _, _, .tup h t => .tup h.sq (Dns.dp t)
theorem Dns.dp {K : PySem.W.Frag} : ∀ {v : List V} {d : List PyData}, Dns H0 H v d → DpAll K H v d
  | _, _, .nil => .nil
  | _, _, .cons h t => .cons (Dn.dp h) (Dns.dp t)
end
theorem Dn.ex (e : Ex H H') {v : V} {d : PyData} (h : Dn H0 H v d) : Dn H0 H' v d := h.step (fun a xs _ q => e _ _ q) (Tp.of e)
theorem Dns.ex (e : Ex H H') {v : List V} {d : List PyData} (h : Dns H0 H v d) : Dns H0 H' v d := h.step (fun a xs _ q => e _ _ q) (Tp.of e)
theorem Dn.fr {L : List Addr} (f : Fr L H H') (n : ∀ a ∈ L, H0 a ≠ none) {v : V} {d : PyData} (h : Dn H0 H v d) : Dn H0 H' v d := h.step (fun a xs z q => f.1 _ _ q fun m => n a m z) f.2
theorem dns_of : ∀ {vs : List V} {ds : List PyData}, IsDs H vs ds → Dns H0 H vs ds
  | _, _, .nil => .nil
  | _, _, .cons h t => .cons (.dat h) (dns_of t)
theorem Dns.length : ∀ {vs : List V} {ds : List PyData}, Dns H0 H vs ds → vs.length = ds.length
  | _, _, .nil => rfl
  | _, _, .cons _ t => by rw [List.length_cons, List.length_cons, Dns.length t]
theorem Dns.append : ∀ {vs ws : List V} {ds es : List PyData}, Dns H0 H vs ds → Dns H0 H ws es → Dns H0 H (vs ++ ws) (ds ++ es)
  | _, _, _, _, .nil, q => q
  | _, _, _, _, .cons h t, q => .cons h (Dns.append t q)
end
def IsN (H0 : Hp) (d : PyData) : PV := fun H v => Dn H0 H v d
instance (H0 : Hp) (d : PyData) : Mn (IsN H0 d) := ⟨fun e h => h.ex e⟩
def EvNs (ta : TA) (σ : L2.St) (H0 H : Hp) (ds : List PyData) : Prop := ∀ H1, Ex H H1 → ∀ Q : List V → Hp → Prop, (∀ vs H2, Ex H1 H2 → Dns H0 H2 vs ds → Q vs H2) → ta σ H1 Q
section
variable {P : Program} {w : World} {K : PySem.W.Frag} {te tl : TE} {ta : TA} {tt : TT} {g : TG} {vs : List Nat} {σ : L2.St} {H0 H : Hp} {ds : List PyData} {d : PyData} {β : Type}
mutual
theorem Dn.weak {N0 N1 H : Hp} (h : ∀ a, N0 a = none → N1 a = none) : ∀ {v : V} {d : PyData}, Dn N0 H v d → Dn N1 H v d
  | _, _, .dat h => .dat h
  | _, _, .lst n q t => .lst (h _ n) q (Dns.weak h t)
  | _, _, .tup q t => .tup q (Dns.weak h t)
theorem Dns.weak {N0 N1 H : Hp} (h : ∀ a, N0 a = none → N1 a = none) : ∀ {v : List V} {d : List PyData}, Dns N0 H v d → Dns N1 H v d
  | _, _, .nil => .nil
  | _, _, .cons q t => .cons (Dn.weak h q) (Dns.weak h t)
end
theorem ens_nil : EvNs tNil σ H0 H [] := fun H1 e Q k => k [] H1 (Ex.refl _) .nil
theorem ens_cons (ha : EvP te σ H (IsN H0 d)) (hb : EvNs ta σ H0 H ds) : EvNs (tCons te ta) σ H0 H (d :: ds) := fun H1 e Q k =>
  ha H1 e _ fun x H2 e2 hx => hb H2 (e.trans e2) _ fun vs H3 e3 hvs => k (x :: vs) H3 (e2.trans e3) (.cons (Dn.ex e3 hx) hvs)
theorem evn_of (h : EvP te σ H (Is d)) : EvP te σ H (IsN H0 d) := h.imp fun _ _ q => .dat q
theorem evn_f (h : EvF te σ H ds) (e0 : Ex H0 H) : EvP te σ H (IsN H0 (.list ds)) := fun H1 e Q k => h H1 e Q fun a xs H2 n e2 ha hx => k _ _ e2 (.lst (Evl.fresh_back (e0.trans e) n) ha (dns_of hx))
theorem evn_tup (h : EvNs ta σ H0 H ds) (hz : ds.length ≤ 1000) : EvP (tTupF ta) σ H (IsN H0 (.tuple ds)) := fun H1 e Q k =>
  h H1 e _ fun vs H2 e2 hvs => ⟨by rw [hvs.length]; exact Nat.le_trans hz (by decide), fun p o np hd => k _ _ (e2.trans (Ex.new np)) (.tup (tupAt_new hd) (Dns.ex (Ex.new np) hvs))⟩
/-- one turn that gives what has lists inside -/
def TurnN (g : TG) (tt : TT) (te : TE) (vs : List Nat) (σ : L2.St) (H : Hp) (v : V) (f : PyData) : Prop :=
  ∃ σ2, (∀ Q' : L2.St → Hp → Prop, Q' σ2 H → g v (wipe σ vs) H Q') ∧ wipe σ2 vs = wipe σ vs ∧ EvT tt σ2 H true ∧ EvP te σ2 H (IsN H f)
theorem turnN_of {i : Nat} {v : V} (ht : EvT tt ((wipe σ [i]).set i (some v)) H true) (he : EvP te ((wipe σ [i]).set i (some v)) H (IsN H d)) : TurnN (gName i) tt te [i] σ H v d :=
  ⟨(wipe σ [i]).set i (some v), fun Q' q => q, by simp [wipe], ht, he⟩
/-- a new list with what has lists inside -/
theorem evn_lc (enc : β → PyData) (f : β → PyData) (bs : List β) (e0 : Ex H0 H) (hl : EvP tl σ H (IsSq K (bs.map enc))) (hz : bs.length ≤ 1000)
    (hs : ∀ x ∈ bs, ∀ v H', Ex H H' → IsD H' v (enc x) → TurnN g tt te vs σ H' v (f x)) : EvP (tLc (iAny P w K tl) g tt te vs) σ H (IsN H0 (.list (bs.map f))) := fun H1 e Q k =>
  hl H1 e _ fun v H2 e2 ⟨a, xs, ev, hq, hx⟩ => by
    have hlen : xs.length = bs.length := by rw [hx.length, List.length_map]
    have h0l : (1000 : Nat) < sizeLine := by decide
    have step : ∀ (D : Addr) (i : Nat) (x : V) (H' : Hp) (Nx : Hp → Prop), H2 D = none → xs[i]? = some x → (Ex H2 H' ∧ ∃ acc, H' D = some (.lst acc) ∧ Dns (upd H2 D (.lst [])) H' acc ((bs.take i).map f)) →
        (∀ H3, (Ex H2 H3 ∧ ∃ acc, H3 D = some (.lst acc) ∧ Dns (upd H2 D (.lst [])) H3 acc ((bs.take (i + 1)).map f)) → Nx H3) →
        g x (wipe σ vs) H' fun σ2 H2 => wipe σ2 vs = wipe σ vs ∧ tt σ2 H2 fun b H3 => if b = true then te σ2 H3 fun y H4 => ∃ acc, H4 D = some (.lst acc) ∧ acc.length < sizeLine ∧ Nx (upd H4 D (.lst (acc ++ [y]))) else Nx H3 := by
      intro D i x H' Nx hD hi ⟨e3, acc, ha, hacc⟩ kn
      obtain ⟨d, hd, hxd⟩ := IsDs.get hx hi
      rw [List.getElem?_map] at hd
      cases hb : bs[i]? with
      | none => rw [hb] at hd; cases hd
      | some y =>
        rw [hb] at hd
        cases hd
        have hlt : i < xs.length := (List.getElem?_eq_some_iff.mp hi).1
        obtain ⟨σ2, hg, hw, ht, he⟩ := hs y (List.mem_of_getElem? hb) x H' ((e.trans e2).trans e3) (hxd.mono (Tp.of e3))
        refine hg _ ⟨hw, ht H' (Ex.refl _) _ fun H3 e4 => ?_⟩
        rw [if_pos rfl]
        refine he H3 e4 _ fun u H4 e5 hu => ⟨acc, e5 _ _ (e4 _ _ ha), ?_, ?_⟩
        · rw [hacc.length, List.length_map, List.length_take]
          omega
        · have ha4 := e5 _ _ (e4 _ _ ha)
          have hu' : Dn (upd H2 D (.lst [])) H4 u (f y) := hu.weak fun b hb => by
            by_cases z : b = D
            · subst z; rw [ha] at hb; cases hb
            · rw [upd_ne z]; exact Evl.fresh_back e3 hb
          refine kn _ ⟨((e3.trans e4).trans e5).mut hD, acc ++ [u], upd_same, ?_⟩
          have h1 : Dns (upd H2 D (.lst [])) H4 (acc ++ [u]) ((bs.take i).map f ++ [f y]) := (Dns.ex e5 (Dns.ex e4 hacc)).append (.cons hu' .nil)
          have e6 : (bs.take (i + 1)).map f = (bs.take i).map f ++ [f y] := by
            rw [List.take_add_one, hb, List.map_append]; rfl
          rw [e6]
          exact Dns.step (fun b ys n q => by
            by_cases z : b = D
            · subst z; rw [upd_same] at n; cases n
            · rw [upd_ne z]; exact q) (tp_lst ha4) h1
    have fin : ∀ (D : Addr) (H' : Hp), H2 D = none → (Ex H2 H' ∧ ∃ acc, H' D = some (.lst acc) ∧ Dns (upd H2 D (.lst [])) H' acc ((bs.take xs.length).map f)) → Q (.ref D) H' := by
      intro D H' hD ⟨e3, acc, ha, hacc⟩
      rw [hlen, List.take_length] at hacc
      have back : ∀ b, H2 b = none → H0 b = none := fun b hb => Evl.fresh_back ((e0.trans e).trans e2) hb
      refine k _ H' (e2.trans e3) (.lst (back D hD) ha (hacc.weak fun b hb => ?_))
      by_cases z : b = D
      · subst z; exact back _ hD
      · rw [upd_ne z] at hb; exact back b hb
    rcases hq with hq | hq
    · refine .inl ⟨a, ev, ⟨xs, hq⟩, fun D hD => lc_list (K := K) (a := a) (xs := xs) (fun i H' => Ex H2 H' ∧ ∃ acc, H' D = some (.lst acc) ∧ Dns (upd H2 D (.lst [])) H' acc ((bs.take i).map f)) ⟨Ex.new hD, [], upd_same, .nil⟩ (fun i H' _ q => Evl.ex_l q.1 hq) (fun i x H' hi q => step D i x H' _ hD hi q fun _ z => z) fun H' q => fin D H' hD q⟩
    · refine .inr (.inl ⟨a, ev, ⟨xs, hq⟩, fun D hD => lc_tup (K := K) (a := a) (xs := xs) (fun i H' => Ex H2 H' ∧ ∃ acc, H' D = some (.lst acc) ∧ Dns (upd H2 D (.lst [])) H' acc ((bs.take i).map f)) ⟨Ex.new hD, [], upd_same, .nil⟩ (fun i H' _ q => Evl.ex_t q.1 hq) (fun i x H' hi q => step D i x H' _ hD hi q fun _ z => z) fun H' q => fin D H' hD q⟩)
/-! ### shapes -/
theorem sh_tupD {ds : List PyData} {k : Nat} (h : ∀ d ∈ ds, Sh d ∧ d.depth ≤ k) (hk : k ≤ 60) : Sh (.tuple ds) ∧ (PyData.tuple ds).depth ≤ k + 1 := by
  have h1 : PyData.canLayAll0 ds = true := by
    clear hk
    induction ds with
    | nil => simp [PyData.canLayAll0]
    | cons x T ih =>
      rw [PyData.canLayAll0, ih fun d hd => h d (List.mem_cons_of_mem _ hd), Bool.and_true]
      exact SeqAt.canLay_of_shaped (h x List.mem_cons_self).1
  have h2 : PyData.depthAll ds ≤ k := depthAll_of fun d hd => (h d hd).2
  have h3 : (PyData.tuple ds).depth ≤ k + 1 := by rw [PyData.depth]; omega
  refine ⟨?_, h3⟩
  unfold Sh SeqAt.shaped
  rw [show PyData.canLay0 (.tuple ds) = PyData.canLayAll0 ds by rw [PyData.canLay0], h1, Bool.true_and]
  exact decide_eq_true (by omega)
theorem sh_listD {ds : List PyData} {k : Nat} (h : ∀ d ∈ ds, Sh d ∧ d.depth ≤ k) (hk : k ≤ 60) : Sh (.list ds) ∧ (PyData.list ds).depth ≤ k + 1 :=
  ⟨sh_any fun d hd => ⟨(h d hd).1, Nat.le_trans (h d hd).2 hk⟩, by
    have h2 : PyData.depthAll ds ≤ k := depthAll_of fun d hd => (h d hd).2
    rw [PyData.depth]; omega⟩
theorem sh_intD (i : Int) : Sh (.int i) ∧ (PyData.int i).depth ≤ 0 := ⟨sh_int i, by rw [depth_i]; exact Nat.le_refl _⟩
theorem sh_noneD : Sh .none ∧ (PyData.none).depth ≤ 0 := ⟨sh_none, by rw [PyData.depth]; exact Nat.le_refl _⟩
theorem sh_dT (T : List Int) : Sh (dT T) ∧ (dT T).depth ≤ 1 := ⟨sh_T, depth_T' T⟩
theorem sh_up {d : PyData} {k l : Nat} (h : Sh d ∧ d.depth ≤ k) (q : k ≤ l) : Sh d ∧ d.depth ≤ l := ⟨h.1, Nat.le_trans h.2 q⟩
theorem sh_entD (e : List Int × (Int × Int)) : Sh (entD e) ∧ (entD e).depth ≤ 2 := sh_tupD (fun d hd => by
  rcases List.mem_cons.mp hd with h | h
  · rw [h]; exact sh_dT _
  · rcases List.mem_cons.mp h with h | h
    · rw [h]; exact sh_up (sh_intD _) (by omega)
    · rw [List.mem_singleton.mp h]; exact sh_up (sh_intD _) (by omega)) (by omega)
theorem sh_pairD (e : List Int × Option Nat) : Sh (pairD e) ∧ (pairD e).depth ≤ 2 := sh_tupD (fun d hd => by
  rcases List.mem_cons.mp hd with h | h
  · rw [h]; exact sh_dT _
  · rw [List.mem_singleton.mp h]
    cases e.2 with
    | none => exact sh_up sh_noneD (by omega)
    | some c => exact sh_up (sh_intD _) (by omega)) (by omega)
theorem sh_tell (B : List (List Int × Int)) : Sh (.list (tellR B)) ∧ (PyData.list (tellR B)).depth ≤ 3 := by
  rw [tell_eq]
  exact sh_listD (k := 2) (fun d hd => by
    obtain ⟨e, _, rfl⟩ := List.mem_map.mp hd
    exact sh_entD e) (by omega)
theorem eqv_self {d : PyData} (h : Sh d) : PyData.eqv d d = true := SeqAt.eqv_refl d (SeqAt.canLay_of_shaped h)
/-! ### an answer, with its list inside -/
def answD (B : List (List Int × Int)) (Ts : List (List Int)) (T : List Int) (F : List (Int × Int)) : PyData := .tuple [.list (ansD B T F), dT (bestR B Ts (wantT T F))]
theorem sh_answ (B : List (List Int × Int)) (Ts : List (List Int)) (T : List Int) (F : List (Int × Int)) : Sh (answD B Ts T F) ∧ (answD B Ts T F).depth ≤ 4 := sh_tupD (fun d hd => by
  rcases List.mem_cons.mp hd with h | h
  · rw [h]; exact sh_tell _
  · rw [List.mem_singleton.mp h]; exact sh_up (sh_dT _) (by omega)) (by omega)
theorem evn_answered {n : Nm} {tc tt tf : TE} {S : CS} {T : List Int} {F : List (Int × Int)} (e0 : Ex H0 H) (hp : EvP tc σ H (IsR (.ref S.p))) (ht : EvP tt σ H (Is (dT T))) (hf : EvP tf σ H (IsSq K (F.map fixD))) (hc : CubeAt P w n.cube H S) (hT : Tab S.n T) (hF : Tab S.n (F.map (·.1))) (h1 : F.length ≤ 8) (h2 : T.length ≤ 8) :
    EvP (tCall (sp_answered P w K n) [] E0 (tCons tc (tCons tt (tCons tf tNil)))) σ H (IsN H0 (answD S.B S.Ts T F)) := fun H1 e Q k =>
  (eas_cons hp (eas_cons ht (eas_cons hf eas_nil))) H1 e _ fun vs H3 e3 hv => by
    obtain ⟨u1, u2, u3, rfl, q1, q2, q3⟩ := als3 hv
    have q1 : u1 = .ref S.p := q1
    subst q1
    show sp_answered P w K n ([.ref S.p, u2, u3] ++ []) H3 Q E0
    rw [List.append_nil]
    exact ⟨S, u2, u3, T, F, rfl, hc.ex (e.trans e3), q2, q3, hT, hF, h1, h2, fun a xs r p H' na np e4 ha hx hr hp => k _ H' (e3.trans e4) (.tup hp (.cons (.lst (Evl.fresh_back ((e0.trans e).trans e3) na) ha (dns_of hx)) (.cons (.dat hr) .nil)))⟩
end
end KC
end

section
set_option Elab.async false
set_option linter.all false
set_option autoImplicit false
set_option maxRecDepth 100000
set_option maxHeartbeats 4000000
/-! The first rows of a law; what all laws ask of a cube. -/
namespace KC
open PySem L2 PySem.W PyProof.Rows
open Evl (Ex EvT)
/-! ### all tables -/
theorem tab_app {N : Nat} {T : List Int} (h : Tab N T) : Tab (N + 1) (T ++ [(N : Int)]) :=
  ⟨List.pairwise_append.mpr ⟨h.1, List.pairwise_singleton _ _, fun u hu v hv => by rw [List.mem_singleton] at hv; subst hv; exact (h.2 u hu).2⟩, fun u hu => by
    rcases List.mem_append.mp hu with q | q
    · have := h.2 u q; omega
    · rw [List.mem_singleton] at q; omega⟩
theorem tab_up {N : Nat} {T : List Int} (h : Tab N T) : Tab (N + 1) T := ⟨h.1, fun u hu => by have := h.2 u hu; omega⟩
theorem grow_mem : ∀ {N : Nat} {T : List Int}, T ∈ grow N ↔ Tab N T
  | 0, T => by
    show T ∈ [[]] ↔ _
    rw [List.mem_singleton]
    refine ⟨fun e => ?_, fun h => ?_⟩
    · subst e; exact ⟨List.Pairwise.nil, fun u hu => by cases hu⟩
    · cases T with
      | nil => rfl
      | cons x T => have := h.2 x List.mem_cons_self; omega
  | N + 1, T => by
    show T ∈ grow N ++ (grow N).map (· ++ [(N : Int)]) ↔ _
    rw [List.mem_append, List.mem_map]
    refine ⟨fun h => ?_, fun h => ?_⟩
    · rcases h with h | ⟨L, h, rfl⟩
      · exact tab_up (grow_mem.mp h)
      · exact tab_app (grow_mem.mp h)
    · rcases List.eq_nil_or_concat T with e | ⟨L, x, e⟩
      · subst e
        exact .inl (grow_mem.mpr ⟨List.Pairwise.nil, fun u hu => by cases hu⟩)
      · rw [List.concat_eq_append] at e
        subst e
        have hp := List.pairwise_append.mp h.1
        have hx := h.2 x (List.mem_append_right _ (List.mem_singleton.mpr rfl))
        have hL : ∀ u ∈ L, u < x := fun u hu => hp.2.2 u hu x (List.mem_singleton.mpr rfl)
        by_cases z : x = (N : Int)
        · subst z
          exact .inr ⟨L, grow_mem.mpr ⟨hp.1, fun u hu => ⟨(h.2 u (List.mem_append_left _ hu)).1, hL u hu⟩⟩, rfl⟩
        · refine .inl (grow_mem.mpr ⟨h.1, fun u hu => ?_⟩)
          rcases List.mem_append.mp hu with q | q
          · have h1 := hL u q
            have h2 := h.2 u hu
            omega
          · rw [List.mem_singleton] at q
            subst q
            omega
theorem allT_mem {N : Nat} {T : List Int} : T ∈ allT N ↔ Tab N T := (List.mergeSort_perm _ _).mem_iff.trans grow_mem
theorem allT_len {N : Nat} (h : N ≤ 4) : (allT N).length ≤ 16 := by
  unfold allT srtT
  rw [List.length_mergeSort]
  exact (grow_small N h).1
theorem tab_nil (N : Nat) : Tab N [] := ⟨List.Pairwise.nil, fun u hu => by cases hu⟩
/-! ### pairs, sorted -/
theorem dle_fix {a b : Int × Int} (h : dle (fixD a) (fixD b) = true) : a.1 ≤ b.1 := by
  have h1 : (!(PyProof.Rows.lexLt itemOrd (keyToks (fixD b)) (keyToks (fixD a)))) = true := h
  rw [Bool.not_eq_true'] at h1
  have e : ∀ c : Int × Int, keyToks (fixD c) = [.inl 1, .inl c.1, .inl 1, .inl c.2, .inl 0] := fun c => by
    show keyToks (.tuple [.int c.1, .int c.2]) = _
    simp [keyToks, keyToksAll]
  rw [e, e] at h1
  by_cases z : a.1 ≤ b.1
  · exact z
  · exfalso
    have z1 : b.1 < a.1 := by omega
    simp [PyProof.Rows.lexLt, itemLt, z1] at h1
def srtF (F : List (Int × Int)) : List (Int × Int) := F.mergeSort fun a b => dle (fixD a) (fixD b)
theorem srtF_map (F : List (Int × Int)) : (srtF F).map fixD = (F.map fixD).mergeSort dle := sort_maps fixD fun a _ b _ => rfl
theorem srtF_perm (F : List (Int × Int)) : (srtF F).Perm F := List.mergeSort_perm _ _
theorem srtF_tab {N : Nat} {F : List (Int × Int)} (nd : (F.map (·.1)).Nodup) (hF : ∀ x ∈ F.map (·.1), 0 ≤ x ∧ x < (N : Int)) : Tab N ((srtF F).map (·.1)) := by
  have p : (srtF F).Pairwise (fun a b => dle (fixD a) (fixD b) = true) := by
    have q := sort_pairwise dle_total (F.map fixD)
    rw [← srtF_map, List.pairwise_map] at q
    exact q
  have q := srtF_perm F
  refine ⟨?_, fun x hx => hF x ((q.map (·.1)).mem_iff.mp hx)⟩
  have nd' : ((srtF F).map (·.1)).Nodup := (q.map (·.1)).nodup_iff.mpr nd
  unfold List.Nodup at nd'
  rw [List.pairwise_map] at nd' ⊢
  refine List.Pairwise.imp (fun {a b} h => ?_) (List.Pairwise.and p nd')
  have h1 := dle_fix h.1
  have h2 := h.2
  omega
theorem alike_fix (a b : Int × Int) : alike (fixD a) (fixD b) = true := by
  unfold fixD
  rw [alike, alikeAll, alikeAll, alikeAll, alike, alike]; rfl
theorem depth_fix (a : Int × Int) : (fixD a).depth ≤ 50 := by
  unfold fixD
  rw [PyData.depth.eq_def]
  show PyData.depthAll [_, _] + 1 ≤ 50
  rw [PyData.depthAll, PyData.depthAll, PyData.depthAll, depth_i, depth_i]
  omega
section
variable {P : Program} {w : World} {K : PySem.W.Frag} {mg : Str → Option Value} {n : Nm} {te : TE} {σ : L2.St} {H : Hp}
theorem sorted_fix {F : List (Int × Int)} (h : EvP te σ H (IsL K (F.map fixD))) : EvF (tCB (rSortU w K) (tCons te tNil)) σ H ((srtF F).map fixD) := by
  rw [srtF_map]
  exact evf_sorted h (AllAlike.of alike_fix) (Sortable.tuples fun b => ⟨_, _, rfl⟩) fun d hd => by
    obtain ⟨b, _, rfl⟩ := List.mem_map.mp hd
    exact depth_fix b
theorem isO_dp {ds : List PyData} {v : V} (h : IsO ds H v) : Dp K H v (.list ds) := by
  obtain ⟨a, xs, rfl, h1, h2⟩ := h
  exact .lst (.inl (.inl h1)) h2.dp
/-! ### calls -/
theorem evf_all {N : Nat} (h : EvP te σ H (Is (.int N))) (hN : N ≤ 4) : EvF (tCall (sp_law_all P w K n) [] E0 (tCons te tNil)) σ H ((allT N).map dT) :=
  evf_call (ps := [Is (.int N)]) (eas_cons h eas_nil) fun vs H1 e1 hv Q q => by
    obtain ⟨u, rfl, p1⟩ := als1 hv
    have p1 := isInt_get p1
    subst p1
    exact ⟨N, rfl, hN, q⟩
def keptL (S : CS) : List (List Int × Option Nat) := srt2 (S.tabs.map (fun e => (e.1, some (cntT S.B e.1))) ++ S.gone.map fun e => (e.1, (none : Option Nat)))
def roomZ (S : CS) : Int := (S.Ts.map fun T => (cntT S.B T : Int)).sum
theorem evf_kept {S : CS} (h : EvP te σ H (IsR (.ref S.p))) (hc : CubeAt P w n.cube H S) : EvF (tMeth n.cube "kept" (sp_c_kept P w K n) [] E0 te tNil) σ H ((keptL S).map pairD) :=
  evf_meth (fs := cfs S) (ps := []) h hc.sk.ob (m_kept S) eas_nil fun vs H14 e14 hv Q' k' => by
    cases vs with
    | nil => exact ⟨S, rfl, hc.ex e14, k'⟩
    | cons _ _ => exact hv.elim
theorem ev_room {S : CS} (h : EvP te σ H (IsR (.ref S.p))) (hc : CubeAt P w n.cube H S) : EvP (tMeth n.cube "room" (sp_c_room P w K n) [] E0 te tNil) σ H (Is (.int (roomZ S))) :=
  ev_meth (fs := cfs S) (ps := []) h hc.sk.ob (m_room S) eas_nil fun vs H9 e9 hv Q' k' => by
    cases vs with
    | nil => exact ⟨S, rfl, hc.ex e9, fun H10 e10 => k' _ H10 e10 (IsD.int _)⟩
    | cons _ _ => exact hv.elim
/-! ### the first rows -/
theorem s_grown {D : Ends} {u : TS} {a : Addr} {ns : List Int} {rest : L2.St} {iN iD : Int} (N Dn : Nat) (eN : iN = N) (eD : iD = Dn) (hN1 : 1 ≤ N) (hN : N ≤ 4) (hD : Dn ≤ 62) (hS : SqL K H a (ns.map V.int)) (hl : ns.length ≤ 63)
    (k : ∀ r g S M H', Turn0 P w K n.cube r a S.p M.p Dn H' S M → M.n ≤ N → u D (some (.ref a) :: some (.ref r) :: some (.ref g) :: some (.ref S.p) :: some (.ref M.p) :: rest) H') :
    tSeq (tAsg (tLst (tCons (tVar 0) (tCons (tC (.int 0)) (tCons (tC (.int 0)) tNil)))) (gName 1)) (tSeq (tAsg (tCall (sp_law_grown P w K n) [] E0 (tCons (tVar 1) (tCons (tC (.int iN)) (tCons (tC (.int iD)) tNil)))) (gName 2))
      (tSeq (tIfS (tTest (tOp rIsN (tVar 2) (tC .non))) (tRet (tC (.bl false))) tNext) (tSeq (tAsg (tVar 2) (gTup K 2 (gCons (gName 3) (gCons (gName 4) gNil)))) u))) D (some (.ref a) :: none :: none :: none :: none :: rest) H := by
  subst eN eD
  refine s_rawAsg ⟨.ref a, rfl, (by show 3 ≤ sizeLine; decide), fun r nr => ?_⟩
  have hR1 := row_start (r := r) hS hl nr
  show tSeq _ _ _ (some (.ref a) :: some (.ref r) :: none :: none :: none :: rest) (upd H r (.lst [.ref a, .int 0, .int 0]))
  generalize upd H r (.lst [.ref a, .int 0, .int 0]) = H1 at hR1
  refine s_rawAsg (x_call (ps := [IsR (.ref r), Is (.int N), Is (.int Dn)]) (eas_cons (ev_ref rfl) (eas_cons (ev_int _) (eas_cons (ev_int _) eas_nil))) fun vs H2 e2 hv => ?_)
  obtain ⟨u1, u2, u3, rfl, p1, p2, p3⟩ := als3 hv
  have p1 : u1 = .ref r := p1
  have p2 := isInt_get p2
  have p3 := isInt_get p3
  subst p1 p2 p3
  refine ⟨r, a, N, Dn, rfl, hR1.ex e2, hN1, hN, hD, fun S M g H3 f3 hSf hMf hMn T hp => ?_⟩
  show tSeq _ _ _ (some (.ref a) :: some (.ref r) :: some (.ref g) :: none :: none :: rest) H3
  refine s_ifF (fun H4 e4 Q kk => ⟨.ref g, rfl, rfl, _, rfl, ?_⟩) fun H4 e4 => ?_
  · rw [decide_eq_false (fun z => by cases z)]
    exact kk H4 (Ex.refl _)
  · refine s_rawAsgG ⟨.ref g, rfl, g, _, rfl, (hp.mono (Tp.of e4)).sq, rfl, _, _, rfl, _, _, rfl, rfl, ?_⟩
    exact k r g S M H4 (T.ex e4) hMn
end
end KC
end

section
set_option Elab.async false
set_option linter.all false
set_option autoImplicit false
set_option maxRecDepth 100000
set_option maxHeartbeats 4000000
/-! sorted(d), list(d) of a dict with nested keys; min and < of data. -/
namespace KC
open PySem L2 PySem.Spec PyProof.Rows PySem.W
open Evl (Ex)
section
variable {prog : Program} {w : World} {A : Around} {E : Value → Shared → Prop} {s : Shared}
/-- a dict, as it lies -/
def RawD (d : Addr) (es : Array DictEntry) (ep : Nat) (h : Heap) : Prop := ∃ o, h.get? d = some o ∧ o.ExactDict ∧ o.data = .dict es ep
def KeyOf (es : Array DictEntry) : Nat → Value → Prop := fun i v => ∃ en : DictEntry, es[i]? = some en ∧ en.key = v
theorem walks_raw (hh : A.handled = none) (I d : Addr) (hne : d ≠ I) (es : Array DictEntry) (ep : Nat) : Walks prog w A I [I, d] [I] es.size (KeyOf es) (fun i h => h.IsKeyIter I d i es.size ep ∧ RawD d es ep h) where
  sub := fun b hb => by
    rw [List.mem_singleton] at hb
    rw [hb]; exact List.mem_cons_self
  frame := fun _ _ _ st hk => ⟨st.1.at fun o e => hk I List.mem_cons_self o e, let ⟨o, h1, h2⟩ := st.2; ⟨o, hk d (List.mem_cons_of_mem _ (List.mem_singleton.mpr rfl)) o h1, h2⟩⟩
  item := fun i s Q E hi st hQ => by
    obtain ⟨o, h1, h2, h3⟩ := st.2
    refine next_key_item st.1 h1 h3 rfl (Array.getElem?_eq_getElem hi) fun h' it' sb => ?_
    refine hQ _ h' s.toks ⟨_, Array.getElem?_eq_getElem hi, rfl⟩ ⟨it', o, (sb.2 d hne).trans h1, h2, h3⟩ fun b o hb e => (sb.2 b (fun z => hb (by rw [z]; exact List.mem_singleton.mpr rfl))).trans e
  done := fun s Q E st hQ => by
    obtain ⟨o, h1, h2, h3⟩ := st.2
    exact next_key_end hh st.1 h1 h3 rfl (Nat.le_refl _) fun h' he => hQ h' s.toks fun b o hb e => he b o (fun z => hb (by rw [z]; exact List.mem_singleton.mpr rfl)) e
  self := fun _ _ _ _ st hQ => wpAny_pyIter_keyiter st.1 hQ
theorem src_raw {d : Addr} {es : Array DictEntry} {ep : Nat} (lo : (d == sysModules) = false) : KdlSrc prog w "dict" d d es.size (KeyOf es) (RawD d es ep) where
  type := fun _ ⟨o, h1, h2, _⟩ => ⟨o, h1, h2.1⟩
  there := fun _ ⟨o, h1, _⟩ => ⟨Heap.lt_size h1, Heap.lt_size h1⟩
  keep := fun _ _ ⟨o, h1, h2⟩ hk => ⟨o, hk d (.inl rfl) o h1, h2⟩
  notList := by decide
  notTuple := by decide
  hint := fun _ _ _ _ ⟨o, h1, h2, _⟩ hq => kdl_hint_dict ⟨o, h1, h2.1⟩ hq
  iter := fun _ s hh hm => by
    obtain ⟨o, h1, h2, h3⟩ := id hm
    refine ⟨_, _, (fun _ _ hq => iter_keys lo h1 h2 h3 hq), walks_raw hh _ d (Nat.ne_of_lt (Heap.lt_size h1)) es ep, ⟨⟨_, Heap.get?_push_size _ rfl, rfl, rfl⟩, o, Heap.get?_push_of_some _ h1, h2, h3⟩⟩
/-- sorted(x), by what is collected of x: a row of alike tuples -/
theorem sorted_collect {r : Addr} {R : Value → PyData → Prop} {Q : Value → Shared → Prop}
    (hc : ∀ (Q' : List Value → Shared → Prop), (∀ (h' : Heap) (tk : Nat) (acc : List Value) (ts : List (List PyData)), (∀ b o, s.heap.get? b = some o → h'.get? b = some o) → EachIs R acc (ts.map .tuple) → EachIs (fun v b => ∃ as, Reads h' v b as) acc (ts.map .tuple) → AllAlike (ts.map .tuple) →
        acc.length ≤ sizeLine → (∀ b, b ∈ ts.map PyData.tuple → A.units + 2 + b.depth < cLine) →
        (∀ (h2 : Heap) (out : List Value) (c : Nat), (∀ b o, h'.get? b = some o → h2.get? b = some o) → h2.get? h'.objs.size = some (seqObj "list" out.toArray c) → EachIs R out ((ts.map PyData.tuple).mergeSort (dataLe false id)) → out.length = ts.length → Q (.ref h'.objs.size) { s with heap := h2, toks := tk }) → Q' acc { s with heap := h', toks := tk }) →
        wpAny (model prog w) A.in1 (collect (.ref r)) Q' E s) :
    wpAny (model prog w) A (call (.builtin "sorted") [.ref r]) Q E s := by
  refine Calls.call_function_entry PyProof.Rows.kind_sorted PyProof.Rows.plain_sorted PyProof.Rows.entry_sorted (PyProof.Rows.args_sorted1 _) ?_
  unfold Builtin.«sorted»
  refine wpAny_bind (m := checkCount "sorted" 1 1 _) (wpAny_pure ?_)
  refine wpAny_bind (hc _ fun h' tk acc ts hk e er hal hz hu hq => ?_)
  refine wpAny_bind (wpAny_newList ?_ hz)
  have hoL : (h'.push (seqObj "list" acc.toArray 0)).get? h'.objs.size = some (seqObj "list" acc.toArray 0) := Heap.get?_push_size _ rfl
  show wpAny _ _ _ _ _ { s with heap := h'.push (seqObj "list" acc.toArray 0), toks := tk }
  have er' : EachIs (fun v b => ∃ as, Reads (sortingHeap (h'.push (seqObj "list" acc.toArray 0)) h'.objs.size acc) v (id b) as) acc (ts.map .tuple) := er.mono fun v b ⟨as, r⟩ => ⟨as, PyProof.Rows.Reads.keeps (fun b o e => by
    exact sortingHeap_old (Nat.ne_of_lt (Heap.lt_size e)) (Heap.get?_push_of_some _ e)) r⟩
  have hal' : ∀ t ∈ ts, ∀ u ∈ ts, alikeAll t u = true := fun t ht u hu => by
    have := hal (.tuple t) (List.mem_map.mpr ⟨t, ht, rfl⟩) (.tuple u) (List.mem_map.mpr ⟨u, hu, rfl⟩)
    rw [alike] at this
    exact this
  have hal2 : AllAlike ((ts.map PyData.tuple).map id) := by rw [List.map_id]; exact hal
  have e2 : EachIs R (sortVals (dataKind (sortingHeap (h'.push (seqObj "list" acc.toArray 0)) h'.objs.size acc) (List.map id (ts.map PyData.tuple))) false acc acc) ((ts.map PyData.tuple).mergeSort (dataLe false id)) := sortVals_data (enc := id) false e er' hal2
  rw [List.map_id] at e2
  refine wpAny_bind (wpAny_holding (wpAny_call_entry PyProof.Rows.slot_list_sort ⟨_, hoL, rfl⟩ PyProof.Rows.entry_list_sort
    (list_sort_vals (s := { s with heap := h'.push (seqObj "list" acc.toArray 0), toks := tk }) hoL (SortsAt.tups (s := { s with heap := sortingHeap (h'.push (seqObj "list" acc.toArray 0)) h'.objs.size acc, toks := tk }) (each_unmap er') hal' (fun t ht => by
      have := hu _ (List.mem_map.mpr ⟨t, ht, rfl⟩)
      show A.units + 1 + 1 + _ < cLine
      omega)) hz ⟨_, rfl, ?_⟩) (PyProof.Rows.args_list_sort _)))
  obtain ⟨c, hat⟩ := PyProof.Rows.sortedHeap_at (vs := acc) (out := (sortVals (dataKind (sortingHeap (h'.push (seqObj "list" acc.toArray 0)) h'.objs.size acc) (ts.map PyData.tuple)) false acc acc).toArray) hoL
  refine wpAny_pure ⟨_, rfl, hq _ _ c (fun b u ee => ?_) hat e2 ?_⟩
  · have hb : b < h'.objs.size := Heap.lt_size ee
    rw [PyProof.Rows.sortedHeap_old (Nat.ne_of_lt hb) (by rw [size_push']; exact Nat.lt_succ_of_lt hb)]
    exact Heap.get?_push_of_some _ ee
  · have l1 := e2.length
    rw [l1, List.length_mergeSort, List.length_map]
end
section
variable {X : Cx} {pins : List (Addr × Obj)} {σ : L2.St} {H : Hp} {s : Shared}
/-- a dict that is read, as it lies -/
theorem raw_of {d : Addr} {rows : List KRow} (I : Inv X pins σ H s) (h : RdD X.prog X.w H d rows) :
    (d == sysModules) = false ∧ ∃ es ep, RawD d es ep s.heap ∧ es.size = rows.length ∧ ∀ (i : Nat) (r : KRow), rows[i]? = some r → ∃ en : DictEntry, es[i]? = some en ∧ en.key = .ref r.2.1 := by
  rcases h with h | ⟨o, h⟩
  · obtain ⟨⟨o, es, ep, xs, ho, hx, hdt, he, _, hs, _, kr⟩, _⟩ := I.hok d _ h
    have l1 : es.size = xs.length := size_of_entries he
    refine ⟨hs, es, ep, ⟨o, ho, hx, hdt⟩, by rw [l1, kr.length], fun i r e => ?_⟩
    obtain ⟨x, hxi, _, e2, _⟩ := paired_at kr e
    have q := entry_at he i
    rw [hxi] at q
    exact ⟨_, q, by rw [e2]; rfl⟩
  · obtain ⟨hs, hget, hx, es, ep, hdt, hsz, ent⟩ := kd_locked I h
    exact ⟨hs, es, ep, ⟨o, hget, hx, hdt⟩, hsz, ent⟩
theorem keys_vals {es : Array DictEntry} {rows : List KRow} {acc : Array Value} (hsz : es.size = rows.length) (he : ∀ (i : Nat) (r : KRow), rows[i]? = some r → ∃ en : DictEntry, es[i]? = some en ∧ en.key = .ref r.2.1) (h : ItemsOf (KeyOf es) acc es.size) : acc.toList = rows.map fun r => Value.ref r.2.1 := by
  refine List.ext_getElem? fun i => ?_
  rw [List.getElem?_map]
  cases hr : rows[i]? with
  | none =>
    have : rows.length ≤ i := List.getElem?_eq_none_iff.mp hr
    rw [Option.map_none, List.getElem?_eq_none_iff, Array.length_toList, h.1, hsz]
    exact this
  | some r =>
    obtain ⟨en, h1, h2⟩ := he i r hr
    have hlt : i < acc.toList.length := by
      rw [Array.length_toList, h.1, hsz]
      exact (List.getElem?_eq_some_iff.mp hr).1
    obtain ⟨en', h3, h4⟩ := h.2 i acc.toList[i] (by rw [← Array.getElem?_toList]; exact List.getElem?_eq_getElem hlt)
    rw [h1] at h3
    cases h3
    rw [List.getElem?_eq_getElem hlt, ← h4, h2]
    rfl
theorem vals_refs : ∀ (as : List Addr), Vals (as.map V.ref) (as.map Value.ref)
  | [] => .nil
  | _ :: as => .cons rfl (vals_refs as)
/-- list(d) -/
def rListKD (P : Program) (w : World) : List V → Hp → VK → Prop := fun vs H Q => ∃ (d : Addr) (rows : List KRow), vs = [.ref d] ∧ RdD P w H d rows ∧ rows.length ≤ 100000 ∧ ∀ p, H p = none → Q (.ref p) (upd H p (.lst (rows.map fun r => V.ref r.2.1)))
theorem cr_listKD (hc : X.calm = true) : CallR X (.type "list") (rListKD X.prog X.w) := by
  intro pins s σ H vs us Q I r h
  obtain ⟨d, rows, rfl, hd, hz, q⟩ := h
  obtain ⟨u, rfl, ru⟩ := vals1 r
  cases ru
  obtain ⟨lo, es, ep, hraw, hsz, hent⟩ := raw_of I hd
  have hz' : es.size ≤ sizeLine := Nat.le_trans (by omega : es.size ≤ 100000) (by decide)
  refine kdl_call (src_raw (prog := X.prog) (w := X.w) (es := es) (ep := ep) lo) (I.ok.hd hc) hraw hz' fun h' tk acc c hk ho hit => ?_
  have ev := keys_vals hsz hent hit
  have hn : H s.heap.objs.size = none := I.hok.fresh (Nat.le_refl _)
  refine ⟨.ref s.heap.objs.size, _, I.laid (t' := tk) (o := .lst (rows.map fun r => V.ref r.2.1)) hk (Nat.le_refl _) ⟨by rw [List.length_map, ← hsz]; exact hz', acc.toList, c, ?_, ?_⟩, rfl, q _ hn⟩
  · rw [ev]
    have := vals_refs (rows.map fun r => r.2.1)
    rw [List.map_map, List.map_map] at this
    exact this
  · rw [Array.toArray_toList]; exact ho
/-- sorted(d), its keys alike tuples -/
def rSortKD (P : Program) (w : World) : List V → Hp → VK → Prop := fun vs H Q => ∃ (d : Addr) (rows : List KRow) (ts : List (List PyData)), vs = [.ref d] ∧ RdD P w H d rows ∧ rows.length ≤ 100000 ∧ IsDs H (rows.map fun r => V.ref r.2.1) (ts.map .tuple) ∧ AllAlike (ts.map .tuple) ∧ (∀ d ∈ ts.map PyData.tuple, d.depth ≤ 50) ∧
  ∀ ys p, IsDs H ys ((ts.map PyData.tuple).mergeSort dle) → H p = none → Q (.ref p) (upd H p (.lst ys))
theorem cr_sortKD (hc : X.calm = true) (hu : X.A.units + 64 < cLine) : CallR X (.builtin "sorted") (rSortKD X.prog X.w) := by
  intro pins s σ H vs us Q I r h
  obtain ⟨d, rows, ts, rfl, hd, hz, hds, hal, hdep, q⟩ := h
  obtain ⟨u, rfl, ru⟩ := vals1 r
  cases ru
  obtain ⟨lo, es, ep, hraw, hsz, hent⟩ := raw_of I hd
  have hz' : es.size ≤ sizeLine := Nat.le_trans (by omega : es.size ≤ 100000) (by decide)
  refine sorted_collect (R := fun u d => ∃ x : V, RelV x u ∧ IsD H x d) fun Q' kq => ?_
  refine kdu_collect (src_raw (prog := X.prog) (w := X.w) (es := es) (ep := ep) lo) (A := X.A.in1) (by simp [I.ok.hd hc]) hraw hz' fun h' tk acc hk hit => ?_
  have ev := keys_vals hsz hent hit
  have hv : Vals (rows.map fun r => V.ref r.2.1) acc.toList := by
    rw [ev]
    have := vals_refs (rows.map fun r => r.2.1)
    rw [List.map_map, List.map_map] at this
    exact this
  have I1 : Inv X pins σ H { s with heap := h', toks := tk } := I.kept hk
  have e0 := each_of_isDs hds hv
  have hl : acc.toList.length = rows.length := by rw [ev, List.length_map]
  refine kq h' tk acc.toList ts hk e0 (e0.mono fun u d ⟨x, rx, hx⟩ => Dp.reads I1 d x u hx.dp rx) hal (by rw [hl, ← hsz]; exact hz') (fun b hb => ?_) fun h2 out c k2 hat hout hlen => ?_
  · have := hdep b hb
    omega
  · obtain ⟨ys, q1, q2⟩ := isDs_of_each hout
    have ly := q1.length
    have lt := hds.length
    rw [List.length_map, List.length_map] at lt
    exact ⟨.ref h'.objs.size, _, I1.laid (t' := tk) (o := .lst ys) k2 (Nat.le_refl _) ⟨Nat.le_trans (by omega : ys.length ≤ 100000) (by decide), out, c, q1, hat⟩, rfl, q ys _ q2 (I1.hok.fresh (Nat.le_refl _))⟩
/-! ### min and < -/
theorem vals_at : ∀ {xs : List V} {us : List Value} {i : Nat} {u : Value}, Vals xs us → us[i]? = some u → ∃ x, xs[i]? = some x ∧ RelV x u
  | _, _, i, _, .nil, e => by simp at e
  | _, _, 0, _, .cons h _, e => by
    simp only [List.getElem?_cons_zero, Option.some.injEq] at e
    subst e
    exact ⟨_, rfl, h⟩
  | _, _, i + 1, _, .cons _ t, e => by
    obtain ⟨x, h1, h2⟩ := vals_at (i := i) t (by simpa using e)
    exact ⟨x, by simpa using h1, h2⟩
theorem alike_all {ds : List PyData} (h : AllAlike ds) (n : ∀ d ∈ ds, d ≠ .none) : AlikeAll ds := ⟨fun x hx y hy => h x hx y hy, n⟩
theorem min_mem (x : PyData) : ∀ xs : List PyData, minD x xs ∈ x :: xs := by
  intro xs
  unfold minD
  induction xs generalizing x with
  | nil => exact List.mem_cons_self
  | cons y ys ih =>
    rw [List.foldl_cons]
    rcases List.mem_cons.mp (ih (if dataLt y x = true then y else x)) with h | h
    · rw [h]
      by_cases z : dataLt y x = true
      · rw [if_pos z]; exact List.mem_cons_of_mem _ List.mem_cons_self
      · rw [if_neg z]; exact List.mem_cons_self
    · exact List.mem_cons_of_mem _ (List.mem_cons_of_mem _ h)
/-- min(xs), xs a list of alike data -/
def rMinD (K : PySem.W.Frag) : List V → Hp → VK → Prop := fun vs H Q => ∃ (a : Addr) (xs : List V) (d : PyData) (ds : List PyData), vs = [.ref a] ∧ SqL K H a xs ∧ IsDs H xs (d :: ds) ∧ AllAlike (d :: ds) ∧ (∀ e ∈ d :: ds, e ≠ .none) ∧ (∀ e ∈ d :: ds, e.depth ≤ 50 ∧ e.canLay0 = true) ∧ ∀ v, IsD H v (minD d ds) → Q v H
theorem cr_minD (hc : X.calm = true) (hu : X.A.units + 64 < cLine) : CallR X (.builtin "min") (rMinD X.K) := by
  intro pins s σ H vs us Q I r h
  obtain ⟨a, xs, d, ds, rfl, hs, hd, hal, hne, hdep, q⟩ := h
  obtain ⟨u, rfl, ru⟩ := vals1 r
  cases ru
  obtain ⟨its, rv, hl, hz⟩ := I.list hs
  obtain ⟨as, hr⟩ := Dp.readsAll I (d :: ds) xs its hd.dp rv
  have hdd : PyData.depthAll (d :: ds) ≤ 50 := by
    clear hr hal hne q hd
    revert hdep
    generalize d :: ds = es
    intro hdep
    induction es with
    | nil => rw [PyData.depthAll]; omega
    | cons x es ih =>
      rw [PyData.depthAll]
      have h1 := (hdep x List.mem_cons_self).1
      have h2 := ih fun e he => hdep e (List.mem_cons_of_mem _ he)
      omega
  refine min_list_data (I.ok.hd hc) hl.isList (by simpa using hr) (alike_all hal hne) (by omega) fun i v h' tk bs hv hrd hk => ?_
  have I1 : Inv X pins σ H { s with heap := h', toks := tk } := I.kept hk
  have hv' : its[i]? = some v := by simpa using hv
  obtain ⟨x, hx1, hx2⟩ := vals_at rv hv'
  obtain ⟨e, he1, he2⟩ := IsDs.get hd hx1
  have hem : e ∈ d :: ds := List.mem_of_getElem? he1
  obtain ⟨cs, hre⟩ := Dp.reads I1 e x v he2.dp hx2
  have e1 := SeqAt.readOf_eq (hdep e hem).2 hre
  have e2 := SeqAt.readOf_eq (hdep _ (min_mem d ds)).2 hrd
  have e3 : e = minD d ds := e1.symm.trans e2
  exact ⟨x, H, I1, hx2, q x (e3 ▸ he2)⟩
abbrev rMinU (K : PySem.W.Frag) : List V → Hp → VK → Prop := fun vs H Q => rMin K vs H Q ∨ rMinD K vs H Q
theorem cr_minU (hc : X.calm = true) (hu : X.A.units + 64 < cLine) : CallR X (.builtin "min") (rMinU X.K) := (cr_min hc).or (cr_minD hc hu)
/-- x < y of alike data -/
def rLtDt (K : PySem.W.Frag) : R2 := fun x y H Q => ∃ d e, Dp K H x d ∧ Dp K H y e ∧ alike d e = true ∧ d ≠ .none ∧ d.depth ≤ 50 ∧ Q (.bl (dataLt d e)) H
theorem op_ltDt (hu : X.A.units + 64 < cLine) : OpR X (compareOp .Lt) (rLtDt X.K) := by
  intro pins s σ H x y v u Q I rx ry h
  obtain ⟨d, e, hd, he, hal, hn, hdep, q⟩ := h
  obtain ⟨as, r1⟩ := Dp.reads I d x v hd rx
  obtain ⟨bs, r2⟩ := Dp.reads I e y u he ry
  exact lt_data r1 r2 hal hn (by omega) ⟨.bl _, H, I, rfl, q⟩
end
end KC
end

section
set_option Elab.async false
set_option linter.all false
set_option autoImplicit false
set_option maxRecDepth 100000
set_option maxHeartbeats 4000000
/-! Promises of the choice: sizes, roads, tables to keep. -/
namespace KC
open PySem L2 PySem.W PyProof.Rows
open Evl (Ex EvT)
structure TxtC (mg : Str → Option Value) : Prop where
  n_min : mg "min" = none
  n_reversed : mg "reversed" = none
  n_dict : mg "dict" = none
  c_MOST_CHOSEN_EDGES : ∃ u, mg "MOST_CHOSEN_EDGES" = some u ∧ RelV (.int 3) u
  c_MOST_QUESTIONS : ∃ u, mg "MOST_QUESTIONS" = some u ∧ RelV (.int 20) u
def sizL (B : List (List Int × Int)) (n : Nat) : List (List Int × Int) := (allT n).map fun T => (T, (cntT B T : Int))
def sizD (B : List (List Int × Int)) (T : List Int) : PyData := .tuple [dT T, .int (cntT B T : Nat)]
def touZ (B : List (List Int × Int)) (Ts Us : List (List Int)) : Int := (Us.map fun U => (cntT B (bestR B Ts U) : Int)).sum
def grpD (g : List (List Int)) : PyData := .tuple (g.map dT)
def groN (f : List (List (List Int))) (T : List Int) : List (List (List Int)) := f ++ f.map (· ++ [T])
def groL (Ts : List (List Int)) : List (List (List Int)) := Ts.foldl groN [[]]
def srtG (L : List (List (List Int))) : List (List (List Int)) := L.mergeSort fun a b => dle (grpD a) (grpD b)
def tabsIn (n : Nat) : List (List Int) := (allT n).filter fun T => !decide (T = rng n)
def cosD (c : Int × Int × List (List Int)) : PyData := .tuple [.int c.1, .int c.2.1, .list (c.2.2.map dT)]
def rowZ (B : List (List Int × Int)) (g : List (List Int)) : Int := (g.map fun T => (cntT B T : Int)).sum
def cosC (B : List (List Int × Int)) (n : Nat) (Us : List (List Int)) (g : List (List Int)) : Int × Int × List (List Int) := (touZ B (g ++ [rng n]) Us, rowZ B g, g)
def candL (B : List (List Int × Int)) (n : Nat) (Us : List (List Int)) (room : Int) (L : List (List (List Int))) : List (Int × Int × List (List Int)) := (L.filter fun g => decide (rowZ B g ≤ room)).map (cosC B n Us)
def better (b : Option (Int × Int × List (List Int))) (c : Int × Int × List (List Int)) : Option (Int × Int × List (List Int)) := match b with
  | none => some c
  | some x => if dataLt (cosD c) (cosD x) = true then some c else some x
def bestC (L : List (Int × Int × List (List Int))) : Option (Int × Int × List (List Int)) := L.foldl better none
section
def sp_all_tables (P : Program) (w : World) (K : PySem.W.Frag) (n : Nm) : Sp := fun vs H Q _ => ∃ N : Nat, vs = [.int N] ∧ N ≤ 4 ∧ Fresh H Q ((allT N).map dT)
def sp_sizes_of (P : Program) (w : World) (K : PySem.W.Frag) (n : Nm) : Sp := fun vs H Q _ => ∃ S : CS, vs = [.ref S.p] ∧ CubeAt P w n.cube H S ∧ ∀ d H', H d = none → Ex H H' → DAt P w encT vInt H' d (sizL S.B S.n) → Q (.ref d) H'
def sp_sizes (P : Program) (w : World) (K : PySem.W.Frag) (n : Nm) : Sp := fun vs H Q _ => ∃ S : CS, vs = [.ref S.p] ∧ CubeAt P w n.cube H S ∧ Fresh H Q ((allT S.n).map (sizD S.B))
def sp_best_road (P : Program) (w : World) (K : PySem.W.Frag) (n : Nm) : Sp := fun vs H Q _ => ∃ (d : Addr) (s t : V) (m : List (List Int × Int)) (B : List (List Int × Int)) (Ts : List (List Int)) (T : List Int), vs = [.ref d, s, t] ∧ DAt P w encT vInt H d m ∧ IsL K (Ts.map dT) H s ∧ IsD H t (dT T) ∧ Ts.length ≤ 1000 ∧ T.length ≤ 1000 ∧ (∀ R ∈ Ts, getG m R = some (cntT B R : Int)) ∧ (∃ R ∈ Ts, sub T R = true) ∧
  ∀ v H', Ex H H' → IsD H' v (dT (bestR B Ts T)) → Q v H'
def sp_touched_by (P : Program) (w : World) (K : PySem.W.Frag) (n : Nm) : Sp := fun vs H Q _ => ∃ (d : Addr) (s q : V) (m : List (List Int × Int)) (B : List (List Int × Int)) (Ts Us : List (List Int)), vs = [.ref d, s, q] ∧ DAt P w encT vInt H d m ∧ IsL K (Ts.map dT) H s ∧ IsSq K (Us.map dT) H q ∧ Ts.length ≤ 1000 ∧ Us.length ≤ 1000 ∧ (∀ U ∈ Us, U.length ≤ 1000 ∧ ∃ R ∈ Ts, sub U R = true) ∧ (∀ R ∈ Ts, getG m R = some (cntT B R : Int)) ∧
  ∀ H', Ex H H' → Q (.int (touZ B Ts Us)) H'
def sp_touched (P : Program) (w : World) (K : PySem.W.Frag) (n : Nm) : Sp := fun vs H Q _ => ∃ (S : CS) (t q : V) (Ts Us : List (List Int)), vs = [.ref S.p, t, q] ∧ CubeAt P w n.cube H S ∧ IsSq K (Ts.map dT) H t ∧ IsSq K (Us.map dT) H q ∧ (∀ T ∈ Ts, Tab S.n T) ∧ (∀ U ∈ Us, Tab S.n U) ∧ Ts.length ≤ 400 ∧ Us.length ≤ 400 ∧ ∀ H', Ex H H' → Q (.int (touZ S.B (Ts ++ [rng S.n]) Us)) H'
def sp_groups_of (P : Program) (w : World) (K : PySem.W.Frag) (n : Nm) : Sp := fun vs H Q _ => ∃ (t : V) (Ts : List (List Int)), vs = [t] ∧ IsL K (Ts.map dT) H t ∧ Ts.length ≤ 7 ∧ Fresh H Q ((srtG (groL Ts)).map grpD)
def sp_chosen (P : Program) (w : World) (K : PySem.W.Frag) (n : Nm) : Sp := fun vs H Q _ => ∃ (S : CS) (q : V) (Us : List (List Int)) (room : Int), vs = [.ref S.p, q, .int room] ∧ CubeAt P w n.cube H S ∧ IsSq K (Us.map dT) H q ∧ (∀ U ∈ Us, Tab S.n U) ∧ S.n ≤ 3 ∧ Us.length ≤ 20 ∧ 0 ≤ room ∧
  ∀ c p l xs H', bestC (candL S.B S.n Us room (srtG (groL (tabsIn S.n)))) = some c → H l = none → H p = none → Ex H H' → TupAt H' p [.int c.1, .int c.2.1, .ref l] → H' l = some (.lst xs) → IsDs H' xs (c.2.2.map dT) → Q (.ref p) H'
end
end KC
end

section
set_option Elab.async false
set_option linter.all false
set_option autoImplicit false
set_option maxRecDepth 100000
set_option maxHeartbeats 4000000
/-! Readings of the choice, printed by gen.py. -/
namespace KC
open PySem L2 PySem.Spec PyProof.Rows
def t_all_tables (P : Program) (w : World) (K : PySem.W.Frag) (n : Nm) (E : XK) : TS :=
  (tSeq (tAsg (tLst (tCons (tTupF tNil) tNil)) (gName 1))
    (tSeq (tFor (iRng1 (tCons (tVar 0) tNil)) (gName 2) (tAsg (tOp (rPlus K) (tVar 1) (tLc (iAny P w K (tVar 1)) (gName 3) tYes (tOp (rPlus K) (tVar 3) (tTupF (tCons (tVar 2) tNil))) [3])) (gName 1)))
    (tRet (tCB (rSortU w K) (tCons (tVar 1) tNil)))))

def t_sizes_of (P : Program) (w : World) (K : PySem.W.Frag) (n : Nm) (E : XK) : TS :=
  (tSeq (tAsg (tNewD P w) (gName 1))
    (tSeq (tFor (iAny P w K (tCall (sp_all_tables P w K n) [] E (tCons (tFld K (tVar 0) "many") tNil))) (gName 2) (tAsg (tCB (rLenA P w K) (tCons (tCall (sp_reckoned P w K n) [] E (tCons (tFld K (tVar 0) "whole") (tCons (tOp (rIxU P w K) (tFld K (tVar 0) "known") (tFld K (tVar 0) "whole")) (tCons (tVar 2) tNil)))) tNil)) (gSub (tVar 1) (tVar 2) (rSetU P w))))
    (tRet (tVar 1))))

def t_groups_of (P : Program) (w : World) (K : PySem.W.Frag) (n : Nm) (E : XK) : TS :=
  (tSeq (tAsg (tLst (tCons (tTupF tNil) tNil)) (gName 1))
    (tSeq (tFor (iAny P w K (tVar 0)) (gName 2) (tAsg (tOp (rPlus K) (tVar 1) (tLc (iAny P w K (tVar 1)) (gName 3) tYes (tOp (rPlus K) (tVar 3) (tTupF (tCons (tVar 2) tNil))) [3])) (gName 1)))
    (tRet (tCB (rSortU w K) (tCons (tVar 1) tNil)))))

def t_best_road (P : Program) (w : World) (K : PySem.W.Frag) (n : Nm) (E : XK) : TS :=
  (tRet (tOp (rIxU P w K) (tCB (rMinU K) (tCons (tLc (iAny P w K (tVar 1)) (gName 3) (tB (tCall (sp_goes P w K n) [] E (tCons (tVar 3) (tCons (tVar 2) tNil)))) (tTupF (tCons (tOp (rIxU P w K) (tVar 0) (tVar 3)) (tCons (tCB (rLenA P w K) (tCons (tVar 3) tNil)) (tCons (tVar 3) tNil)))) [3]) tNil)) (tC (.int 2))))

def t_touched_by (P : Program) (w : World) (K : PySem.W.Frag) (n : Nm) (E : XK) : TS :=
  (tRet (tCB (rSum K) (tCons (tLc (iAny P w K (tVar 2)) (gName 3) tYes (tOp (rIxU P w K) (tVar 0) (tCall (sp_best_road P w K n) [] E (tCons (tVar 0) (tCons (tVar 1) (tCons (tVar 3) tNil))))) [3]) tNil)))

def t_chosen (P : Program) (w : World) (K : PySem.W.Frag) (n : Nm) (E : XK) : TS :=
  (tSeq (tFor (iAny P w K (tVar 1)) (gName 3) (tDrop (tCall (sp_need_table P w K n) [] E (tCons (tFld K (tVar 0) "many") (tCons (tVar 3) tNil)))))
    (tSeq (tIfS (tOr (tTest (tOp rGtI (tFld K (tVar 0) "many") (tC (.int 3)))) (tOr (tTest (tOp rGtI (tCB (rLenA P w K) (tCons (tVar 1) tNil)) (tC (.int 20)))) (tTest (tOp rLtI (tVar 2) (tC (.int 0)))))) (tRaise E (.ref n.badAsk)) tNext)
    (tSeq (tAsg (tCall (sp_sizes_of P w K n) [] E (tCons (tVar 0) tNil)) (gName 4))
    (tSeq (tAsg (tC .non) (gName 5))
    (tSeq (tFor (iAny P w K (tCall (sp_groups_of P w K n) [] E (tCons (tLc (iAny P w K (tCall (sp_all_tables P w K n) [] E (tCons (tFld K (tVar 0) "many") tNil))) (gName 3) (tTest (tOp (rNeD K) (tVar 3) (tFld K (tVar 0) "whole"))) (tVar 3) [3]) tNil))) (gName 6) (tSeq (tAsg (tCB (rSum K) (tCons (tLc (iAny P w K (tVar 6)) (gName 3) tYes (tOp (rIxU P w K) (tVar 4) (tVar 3)) [3]) tNil)) (gName 7))
    (tIfS (tTest (tOp rLeI (tVar 7) (tVar 2))) (tSeq (tAsg (tTupF (tCons (tCall (sp_touched_by P w K n) [] E (tCons (tVar 4) (tCons (tOp (rPlus K) (tCB (rListOf K) (tCons (tVar 6) tNil)) (tLst (tCons (tFld K (tVar 0) "whole") tNil))) (tCons (tVar 1) tNil)))) (tCons (tVar 7) (tCons (tCB (rListOf K) (tCons (tVar 6) tNil)) tNil)))) (gName 8))
    (tIfS (tOr (tTest (tOp rIsN (tVar 5) (tC .non))) (tTest (tOp (rLtDt K) (tVar 8) (tVar 5)))) (tAsg (tVar 8) (gName 5)) tNext)) tNext)))
    (tRet (tVar 5)))))))

def t_touched (P : Program) (w : World) (K : PySem.W.Frag) (n : Nm) (E : XK) : TS :=
  (tSeq (tFor (iAny P w K (tOp (rPlus K) (tCB (rListOf K) (tCons (tVar 1) tNil)) (tCB (rListOf K) (tCons (tVar 2) tNil)))) (gName 3) (tDrop (tCall (sp_need_table P w K n) [] E (tCons (tFld K (tVar 0) "many") (tCons (tVar 3) tNil)))))
    (tRet (tCall (sp_touched_by P w K n) [] E (tCons (tCall (sp_sizes_of P w K n) [] E (tCons (tVar 0) tNil)) (tCons (tOp (rPlus K) (tCB (rListOf K) (tCons (tVar 1) tNil)) (tLst (tCons (tFld K (tVar 0) "whole") tNil))) (tCons (tVar 2) tNil))))))

def t_sizes (P : Program) (w : World) (K : PySem.W.Frag) (n : Nm) (E : XK) : TS :=
  (tSeq (tAsg (tCall (sp_sizes_of P w K n) [] E (tCons (tVar 0) tNil)) (gName 1))
    (tRet (tLc (iAny P w K (tCB (rSortKD P w) (tCons (tVar 1) tNil))) (gName 2) tYes (tTupF (tCons (tVar 2) (tCons (tOp (rIxU P w K) (tVar 1) (tVar 2)) tNil))) [2])))

end KC
end

section
set_option Elab.async false
set_option linter.all false
set_option autoImplicit false
set_option maxRecDepth 100000
set_option maxHeartbeats 4000000
/-! The choice, in what it computes: sizes, roads, groups. -/
namespace KC
open PySem L2 PySem.W PyProof.Rows
open Evl (Ex EvT)
/-! ### plain -/
theorem grow_nd {N : Nat} (h : N ≤ 4) : (grow N).Nodup := by
  have : N = 0 ∨ N = 1 ∨ N = 2 ∨ N = 3 ∨ N = 4 := by omega
  rcases this with e | e | e | e | e <;> subst e <;> decide
theorem allT_nd {N : Nat} (h : N ≤ 4) : (allT N).Nodup := (List.mergeSort_perm _ _).nodup_iff.mpr (grow_nd h)
theorem dle_refl (a : PyData) : dle a a = true := (dle_total.total a a).elim id id
theorem dle_of_lt {a b : PyData} (h : dataLt a b = true) : dle a b = true := by
  rcases dle_total.total a b with q | q
  · exact q
  · have q : (!dataLt a b) = true := q
    rw [h] at q; cases q
theorem dle_of_nlt {a b : PyData} (h : ¬ dataLt a b = true) : dle b a = true := by
  show (!dataLt a b) = true
  rw [Bool.eq_false_iff.mpr h]; rfl
theorem minD_le : ∀ (xs : List PyData) (x : PyData), ∀ y ∈ x :: xs, dle (minD x xs) y = true
  | [], x, y, hy => by
    rw [List.mem_singleton] at hy
    subst hy
    exact dle_refl _
  | z :: zs, x, y, hy => by
    have ih := minD_le zs (if dataLt z x = true then z else x)
    show dle (minD (if dataLt z x = true then z else x) zs) y = true
    have h0 := ih _ List.mem_cons_self
    rcases List.mem_cons.mp hy with e | hy
    · subst e
      refine dle_total.trans _ _ _ h0 ?_
      by_cases q : dataLt z y = true
      · rw [if_pos q]; exact dle_of_lt q
      · rw [if_neg q]; exact dle_refl _
    · rcases List.mem_cons.mp hy with e | hy
      · subst e
        refine dle_total.trans _ _ _ h0 ?_
        by_cases q : dataLt y x = true
        · rw [if_pos q]; exact dle_refl _
        · rw [if_neg q]; exact dle_of_nlt q
      · exact ih _ (List.mem_cons_of_mem _ hy)
theorem min_head {d : PyData} {ds : List PyData} (hp : ∀ x ∈ d :: ds, pureD x = true) (hal : AllAlike (d :: ds)) : ∃ rest, (d :: ds).mergeSort dle = minD d ds :: rest := by
  have p := List.mergeSort_perm (d :: ds) dle
  have pw := sort_pairwise dle_total (d :: ds)
  cases h : (d :: ds).mergeSort dle with
  | nil => rw [h] at p; have := p.length_eq; simp at this
  | cons e rest =>
    rw [h] at p pw
    have he : e ∈ d :: ds := p.mem_iff.mp List.mem_cons_self
    have hm := min_mem d ds
    have h1 := minD_le ds d e he
    have h2 : dle e (minD d ds) = true := by
      rcases List.mem_cons.mp (p.mem_iff.mpr hm) with q | q
      · rw [← q]; exact dle_refl _
      · exact (List.pairwise_cons.mp pw).1 _ q
    exact ⟨rest, by rw [eq_of_le (hp e he) (hp _ hm) (hal e he _ hm) h2 h1]⟩
theorem rank_min {B : List (List Int × Int)} {Ts : List (List Int)} {T : List Int} {e : Int × Int × List Int} {es : List (Int × Int × List Int)} (h : (Ts.filter fun R => sub T R).map (fun R => ((cntT B R : Int), (R.length : Int), R)) = e :: es) : ∃ r, minD (triD e) (es.map triD) = triD r ∧ r.2.2 = bestR B Ts T ∧ r.1 = (cntT B (bestR B Ts T) : Int) := by
  obtain ⟨rest, hr⟩ := min_head (d := triD e) (ds := es.map triD) (fun x hx => by
    obtain ⟨y, _, rfl⟩ := List.mem_map.mp (show x ∈ (e :: es).map triD from hx)
    exact pure_tri y) (show AllAlike ((e :: es).map triD) from AllAlike.of alike_tri)
  have h1 : (rankL B Ts T).map triD = minD (triD e) (es.map triD) :: rest := by
    unfold rankL
    rw [h, srt3_map]
    exact hr
  cases hk : rankL B Ts T with
  | nil => rw [hk] at h1; cases h1
  | cons r rs =>
    rw [hk] at h1
    have h2 : triD r = minD (triD e) (es.map triD) := (List.cons.inj h1).1
    have hb : r.2.2 = bestR B Ts T := by unfold bestR; rw [hk]
    have hm := rank_mem (B := B) (Ts := Ts) (T := T) (e := r) (by rw [hk]; exact List.mem_cons_self)
    exact ⟨r, h2.symm, hb, by rw [hm.2.2.1, hb]⟩
theorem best_mem {B : List (List Int × Int)} {Ts : List (List Int)} {T : List Int} (h : ∃ R ∈ Ts, sub T R = true) : bestR B Ts T ∈ Ts := by
  obtain ⟨x, rest, hx, hxb, hxT, hxs⟩ := rank_head (B := B) h
  rw [hxb] at hxT
  exact hxT
section
variable {P : Program} {w : World} {K : PySem.W.Frag} {mg : Str → Option Value} {n : Nm}
theorem len_all_tables {vs : List V} {H : Hp} {Q : VK} {E : XK} (h : sp_all_tables P w K n vs H Q E) : vs.length = 1 := by
  obtain ⟨_, rfl, _⟩ := h
  rfl
theorem len_sizes_of {vs : List V} {H : Hp} {Q : VK} {E : XK} (h : sp_sizes_of P w K n vs H Q E) : vs.length = 1 := by
  obtain ⟨_, rfl, _⟩ := h
  rfl
theorem len_sizes {vs : List V} {H : Hp} {Q : VK} {E : XK} (h : sp_sizes P w K n vs H Q E) : vs.length = 1 := by
  obtain ⟨_, rfl, _⟩ := h
  rfl
theorem len_best_road {vs : List V} {H : Hp} {Q : VK} {E : XK} (h : sp_best_road P w K n vs H Q E) : vs.length = 3 := by
  obtain ⟨_, _, _, _, _, _, _, rfl, _⟩ := h
  rfl
theorem len_touched_by {vs : List V} {H : Hp} {Q : VK} {E : XK} (h : sp_touched_by P w K n vs H Q E) : vs.length = 3 := by
  obtain ⟨_, _, _, _, _, _, _, rfl, _⟩ := h
  rfl
theorem len_touched {vs : List V} {H : Hp} {Q : VK} {E : XK} (h : sp_touched P w K n vs H Q E) : vs.length = 3 := by
  obtain ⟨_, _, _, _, _, rfl, _⟩ := h
  rfl
theorem len_groups_of {vs : List V} {H : Hp} {Q : VK} {E : XK} (h : sp_groups_of P w K n vs H Q E) : vs.length = 1 := by
  obtain ⟨_, _, rfl, _⟩ := h
  rfl
theorem len_chosen {vs : List V} {H : Hp} {Q : VK} {E : XK} (h : sp_chosen P w K n vs H Q E) : vs.length = 3 := by
  obtain ⟨_, _, _, _, rfl, _⟩ := h
  rfl
/-! ### words -/
/-- for x in a list or a tuple; only new things are made -/
theorem s_forE {σ : L2.St} {H : Hp} {D : Ends} {tl : TE} {g : TG} {body : TS} {ds : List PyData} (h : EvP tl σ H (IsSq K ds))
    (k : ∀ H2, Ex H H2 → ∃ Pv : Nat → L2.St → Hp → Prop, Pv 0 σ H2 ∧ (∀ i σ' H', Pv i σ' H' → Ex H2 H') ∧
      (∀ i d v σ' H', ds[i]? = some d → IsD H' v d → Pv i σ' H' → ∀ N : L2.St → Hp → Prop, (∀ σ3 H3, Pv (i + 1) σ3 H3 → N σ3 H3) → g v σ' H' fun σ2 H2 => body { D with nx := N, ct := N, bk := D.nx } σ2 H2) ∧
      ∀ σ' H', Pv ds.length σ' H' → D.nx σ' H') : tFor (iAny P w K tl) g body D σ H := h H (Ex.refl _) _ fun v H2 e2 ⟨a, xs, ev, hq, hx⟩ => by
  obtain ⟨Pv, h0, hex, hs, hd⟩ := k H2 e2
  have hlen := hx.length
  have step : ∀ i x σ' H', xs[i]? = some x → Pv i σ' H' → g x σ' H' fun σ2 H2 => body { D with nx := Pv (i + 1), ct := Pv (i + 1), bk := D.nx } σ2 H2 := fun i x σ' H' hi p => by
    obtain ⟨d, h1, h2⟩ := IsDs.get hx hi
    exact hs i d x σ' H' h1 (h2.mono (Tp.of (hex i σ' H' p))) p _ fun _ _ q => q
  rcases hq with hq' | hq'
  · exact .inl ⟨a, ev, ⟨xs, hq'⟩, for_list (K := K) (a := a) (xs := xs) Pv h0 (fun i σ' H' _ p => Evl.ex_l (hex i σ' H' p) hq') step fun σ' H' p => hd σ' H' (by rw [← hlen]; exact p)⟩
  · exact .inr (.inl ⟨a, ev, ⟨xs, hq'⟩, for_tup (K := K) (a := a) (xs := xs) Pv h0 (fun i σ' H' _ p => Evl.ex_t (hex i σ' H' p) hq') step fun σ' H' p => hd σ' H' (by rw [← hlen]; exact p)⟩)
theorem ev_vInt {te : TE} {σ : L2.St} {H : Hp} {i : Int} (h : EvP te σ H (fun H v => vInt H v i)) : EvP te σ H (Is (.int i)) := h.imp fun H v e => by
  have e : v = .int i := e
  subst e
  exact IsD.int i
theorem ev_sizeAt {σ : L2.St} {H : Hp} {td tk : TE} {d : Addr} {m : List (List Int × Int)} {T : List Int} {i : Int} (hd : EvP td σ H (IsR (.ref d))) (hk : EvP tk σ H (Is (dT T))) (h : DAt P w encT vInt H d m) (hg : getG m T = some i) : EvP (tOp (rIxU P w K) td tk) σ H (Is (.int i)) :=
  ev_vInt (ev_ixD mv_int hd (ev_K hk) h.rd hg)
theorem ev_goesC {σ : L2.St} {H : Hp} {tr tt : TE} {R T : List Int} (hr : EvP tr σ H (Is (dT R))) (ht : EvP tt σ H (Is (dT T))) (hl : T.length ≤ 1000) : EvP (tCall (sp_goes P w K n) [] E0 (tCons tr (tCons tt tNil))) σ H (Is (.bool (sub T R))) :=
  ev_call (ps := [Is (dT R), Is (dT T)]) (eas_cons hr (eas_cons ht eas_nil)) fun vs H1 e1 hv Q k => by
    obtain ⟨u1, u2, rfl, p1, p2⟩ := als2 hv
    exact ⟨R, T, u1, u2, rfl, p1, p2, hl, fun H2 e2 => k _ H2 e2 (IsD.bl _)⟩
theorem evf_allC {σ : L2.St} {H : Hp} {te : TE} {N : Nat} (h : EvP te σ H (Is (.int N))) (hN : N ≤ 4) : EvF (tCall (sp_all_tables P w K n) [] E0 (tCons te tNil)) σ H ((allT N).map dT) :=
  evf_call (ps := [Is (.int N)]) (eas_cons h eas_nil) fun vs H1 e1 hv Q q => by
    obtain ⟨u, rfl, p1⟩ := als1 hv
    have p1 := isInt_get p1
    subst p1
    exact ⟨N, rfl, hN, q⟩
theorem ev_minDt {σ : L2.St} {H : Hp} {te : TE} {d : PyData} {ds : List PyData} (h : EvP te σ H (IsL K (d :: ds))) (h1 : AllAlike (d :: ds)) (h2 : ∀ e ∈ d :: ds, e ≠ .none) (h3 : ∀ e ∈ d :: ds, e.depth ≤ 50 ∧ e.canLay0 = true) : EvP (tCB (rMinU K) (tCons te tNil)) σ H (Is (minD d ds)) := fun H1 e Q k =>
  h H1 e _ fun v H2 e2 ⟨a, xs, ev, hl, hs⟩ => by
    subst ev
    exact .inr ⟨a, xs, d, ds, rfl, hl, hs, h1, h2, h3, fun v hv => k v H2 e2 hv⟩
theorem ev_minI {σ : L2.St} {H : Hp} {te : TE} {ns : List Int} {m : Int} (h : EvP te σ H (IsL K (dI ns))) (hm : m ∈ ns) (hle : ∀ y ∈ ns, m ≤ y) : EvP (tCB (rMinU K) (tCons te tNil)) σ H (Is (.int m)) := fun H1 e Q k =>
  h H1 e _ fun v H2 e2 ⟨a, xs, ev, hl, hs⟩ => by
    subst ev
    have := ints_of_isDs hs
    subst this
    refine .inl ⟨a, ns, rfl, hl, List.length_pos_of_mem hm, fun y h1 h2 => ?_⟩
    have a1 := hle y h1
    have a2 := h2 m hm
    have : y = m := by omega
    subst this
    exact k _ H2 e2 (IsD.int _)
/-- sorted(d) of a dict of tables -/
theorem evf_sortKD {α : Type} {val : Hp → V → α → Prop} (mv : MnV val) {σ : L2.St} {H : Hp} {td : TE} {d : Addr} {m : List (List Int × α)} (hd : EvP td σ H (IsR (.ref d))) (h : DAt P w encT val H d m) (hz : m.length ≤ 100000) : EvF (tCB (rSortKD P w) (tCons td tNil)) σ H (((m.map (·.1)).map dT).mergeSort dle) := fun H1 e Q k =>
  hd H1 e _ fun v H2 e2 hv => by
    have hv : v = .ref d := hv
    subst hv
    obtain ⟨rows, h1, h2⟩ := (h.ex mv e).ex mv e2
    have hlen := h2.len
    have hds : IsDs H2 (rows.map fun r => V.ref r.2.1) ((m.map (·.1)).map dT) := by
      clear h1 hlen hd h
      revert h2
      generalize rows = rs
      intro h2
      unfold DD at h2
      clear hz k
      induction h2 with
      | nil => exact .nil
      | cons q t ih =>
        refine .cons ?_ ih
        have := q.2.1.1
        rw [q.1, data_T] at this
        exact this
    have em : (m.map (·.1)).map dT = ((m.map (·.1)).map fun T => T.map PyData.int).map PyData.tuple := by
      rw [List.map_map (f := fun T : List Int => T.map PyData.int)]; rfl
    rw [em] at hds
    refine ⟨d, rows, _, rfl, .inl h1, by omega, hds, by rw [← em]; exact AllAlike.of alike_T, fun x hx => ?_, fun ys p hy hp => ?_⟩
    · rw [← em] at hx
      obtain ⟨T, _, rfl⟩ := List.mem_map.mp hx
      have := depth_T' T
      omega
    · rw [← em] at hy
      exact k p ys _ (Evl.fresh_back e2 hp) (e2.trans (Ex.new hp)) upd_same (hy.mono (Tp.of (Ex.new hp)))
/-! ### all tables -/
theorem pure_all_tables {vs : List V} {H : Hp} {Q : VK} {E : XK} (T : Txt K mg n) (h : sp_all_tables P w K n vs H Q E) : t_all_tables P w K n E0 { nx := fun _ H' => Q .non H', rt := Q } (start ["edges", "found", "edge", "table"] vs) H :=
  pure_law_all (E := E) T h
/-! ### sizes -/
theorem ev_reck {σ : L2.St} {H : Hp} {tr td tt : TE} {d : Addr} {R T : List Int} {m : List (List Int × (Int × Int))} {B : List (List Int × Int)} (hr : EvP tr σ H (Is (dT R))) (hd : EvP td σ H (IsR (.ref d))) (ht : EvP tt σ H (Is (dT T))) (hm : DAt P w encT vCS H d m) (hR : Right m (bag B R)) (hs : sub T R = true) (h1 : R.length ≤ 1000) (h2 : T.length ≤ 1000) (h3 : B.length ≤ 1000) :
    EvP (tCall (sp_reckoned P w K n) [] E0 (tCons tr (tCons td (tCons tt tNil)))) σ H (fun H' v => ∃ f m', v = .ref f ∧ DAt P w encT vCS H' f m' ∧ Right m' (bag B T)) :=
  ev_call (ps := [Is (dT R), IsR (.ref d), Is (dT T)]) (eas_cons hr (eas_cons hd (eas_cons ht eas_nil))) fun vs H1 e1 hv Q k => by
    obtain ⟨u1, u2, u3, rfl, p1, p2, p3⟩ := als3 hv
    have p2 : u2 = .ref d := p2
    subst p2
    exact ⟨u1, u3, d, R, T, m, rfl, p1, p3, hm.ex mv_cs e1, hR.nd, hR.klen, hs, h1, h2, Nat.le_trans hR.blen (by omega), fun f H2 nf e2 hf => k _ H2 e2 ⟨f, _, rfl, hf, right_reck hR hs⟩⟩
theorem pure_sizes_of {vs : List V} {H : Hp} {Q : VK} {E : XK} (T : Txt K mg n) (h : sp_sizes_of P w K n vs H Q E) : t_sizes_of P w K n E0 { nx := fun _ H' => Q .non H', rt := Q } (start ["cube", "found", "table"] vs) H := by
  obtain ⟨S, rfl, hc, k⟩ := h
  have hn4 := hc.sk.ok.n4
  have hBl := hc.sk.ok.lenB
  refine fun d hd0 => ?_
  have e1 : Ex H (upd H d (KDO P w d [])) := Ex.new hd0
  have hd1 : DAt P w encT vInt (upd H d (KDO P w d [])) d [] := dAt_new _ _ _
  show tSeq _ _ _ [some (.ref S.p), some (.ref d), none] _
  generalize upd H d (KDO P w d []) = H1 at e1 hd1
  have c1 := hc.ex e1
  have hall := evf_allC (P := P) (w := w) (K := K) (n := n) (te := tFld K (tVar 0) "many") (σ := [some (.ref S.p), some (.ref d), none]) (ev_many T (S := S) (ev_ref rfl) c1.sk) hn4
  refine s_seq (s_forF hall fun a xs H2 na e2 ha hx => ?_)
  have hd2 := hd1.ex mv_int e2
  have nad : a ≠ d := fun z => by
    obtain ⟨rows, q, _⟩ := hd1
    rw [← z, na] at q; cases q
  have back : ∀ H', Fr [d] H2 H' → Ex H H' := fun H' fr b o q => fr.1 _ _ (e2 _ _ (e1 _ _ q)) (by simpa using ne_of_none q hd0)
  refine ⟨fun j σ' H' => ∃ x2, σ' = [some (.ref S.p), some (.ref d), x2] ∧ Fr [d] H2 H' ∧ DAt P w encT vInt H' d (((allT S.n).take j).map fun T => (T, (cntT S.B T : Int))), ⟨_, rfl, Fr.refl, hd2⟩, fun _ _ H' ⟨_, _, fr, _⟩ => fr.1 _ _ ha (by simpa using nad), fun j x σ' H' hj ⟨x2, hσ, fr, hD⟩ N kn => ?_, fun σ' H' ⟨x2, hσ, fr, hD⟩ => ?_⟩
  · subst hσ
    obtain ⟨dd, hd1', hd2'⟩ := IsDs.get hx hj
    rw [List.getElem?_map] at hd1'
    cases hLj : (allT S.n)[j]? with
    | none => rw [hLj] at hd1'; cases hd1'
    | some L =>
      rw [hLj] at hd1'
      cases hd1'
      have hL : Tab S.n L := allT_mem.mp (List.mem_of_getElem? hLj)
      have hL4 := hL.len hn4
      have c' := hc.ex (back H' fr)
      have hx' := hd2'.mono fr.2
      obtain ⟨dw, hdw, hdm⟩ := c'.sk.gets c'.sk.ok.whole
      obtain ⟨mw, hmw, hRw⟩ := c'.con _ hdm
      show tAsg _ _ _ [some (.ref S.p), some (.ref d), some x] H'
      have gw : EvP (tFld K (tVar 0) "whole") [some (.ref S.p), some (.ref d), some x] H' (Is (dT (rng S.n))) := ev_whole T (S := S) (ev_ref rfl) c'.sk
      have gr := ev_reck (P := P) (w := w) (K := K) (n := n) (σ := [some (.ref S.p), some (.ref d), some x]) (tt := tVar 2) gw (ev_cont T (te := tVar 0) (S := S) (ev_ref rfl) gw c'.sk c'.sk.ok.whole hdw) (ev_var (v := x) rfl hx') hmw hRw (sub_rng hL) (by rw [rng_len]; omega) (by omega) hBl
      have gl : EvP (tCB (rLenA P w K) (tCons (tCall (sp_reckoned P w K n) [] E0 (tCons (tFld K (tVar 0) "whole") (tCons (tOp (rIxU P w K) (tFld K (tVar 0) "known") (tFld K (tVar 0) "whole")) (tCons (tVar 2) tNil)))) tNil)) [some (.ref S.p), some (.ref d), some x] H' (Is (.int (cntT S.B L : Nat))) := fun H3 e3 Q' k' =>
        gr H3 e3 _ fun v H4 e4 ⟨f, m', ev, hf, hR'⟩ => by
          have := ev_lenD (P := P) (w := w) (K := K) mv_cs (σ := [some v]) (H := H4) (td := tVar 0) (by rw [ev]; exact ev_ref rfl) hf.rd
          rw [hR'.cnt] at this
          obtain ⟨v', hv', q⟩ := this H4 (Ex.refl _) Q' fun v H5 e5 h5 => k' v H5 (e4.trans e5) h5
          cases hv'
          exact q
      refine s_setD mv_int (d := d) (k := L) (x := (cntT S.B L : Int)) gl (ev_ref rfl) (ev_K (ev_var (v := x) rfl hx')) (fun _ _ h => isInt_get h) hD (by rw [List.length_map]; have := allT_len hn4; rw [List.length_take]; omega) fun H3 f3 hd3 => ?_
      have hnew : L ∉ (((allT S.n).take j).map fun T => (T, (cntT S.B T : Int))).map (·.1) := by
        rw [List.map_map]
        intro z
        obtain ⟨M, hM, e⟩ := List.mem_map.mp z
        have e : M = L := e
        subst e
        have nd := allT_nd hn4
        rw [split_at hLj] at nd
        exact (List.nodup_append.mp nd).2.2 M hM M List.mem_cons_self rfl
      rw [putG_app hnew] at hd3
      refine kn _ _ ⟨_, rfl, fr.trans f3, ?_⟩
      rw [List.take_add_one, hLj, List.map_append]
      exact hd3
  · subst hσ
    have hl := hx.length
    rw [List.length_map] at hl
    rw [hl, List.take_length] at hD
    exact ⟨.ref d, rfl, k d H' hd0 (back H' fr) hD⟩
theorem ev_sizesOf {σ : L2.St} {H : Hp} {te : TE} {S : CS} (hp : EvP te σ H (IsR (.ref S.p))) (hc : CubeAt P w n.cube H S) : EvP (tCall (sp_sizes_of P w K n) [] E0 (tCons te tNil)) σ H (fun H' v => ∃ d, v = .ref d ∧ DAt P w encT vInt H' d (sizL S.B S.n)) :=
  ev_call (ps := [IsR (.ref S.p)]) (eas_cons hp eas_nil) fun vs H1 e1 hv Q k => by
    obtain ⟨u, rfl, p1⟩ := als1 hv
    have p1 : u = .ref S.p := p1
    subst p1
    exact ⟨S, rfl, hc.ex e1, fun d H2 nd e2 hd => k _ H2 e2 ⟨d, rfl, hd⟩⟩
theorem siz_get {B : List (List Int × Int)} {N : Nat} {T : List Int} (hN : N ≤ 4) (h : Tab N T) : getG (sizL B N) T = some (cntT B T : Int) := by
  refine getG_of_mem ?_ (List.mem_map.mpr ⟨T, allT_mem.mpr h, rfl⟩)
  unfold sizL
  rw [List.map_map]
  show ((allT N).map fun T => T).Nodup
  rw [List.map_id']
  exact allT_nd hN
theorem siz_len (B : List (List Int × Int)) {N : Nat} (hN : N ≤ 4) : (sizL B N).length ≤ 16 := by
  unfold sizL
  rw [List.length_map]
  exact allT_len hN
theorem pure_sizes {vs : List V} {H : Hp} {Q : VK} {E : XK} (T : Txt K mg n) (h : sp_sizes P w K n vs H Q E) : t_sizes P w K n E0 { nx := fun _ H' => Q .non H', rt := Q } (start ["cube", "known", "table"] vs) H := by
  obtain ⟨S, rfl, hc, k⟩ := h
  have hn4 := hc.sk.ok.n4
  refine s_asg (ev_sizesOf (S := S) (ev_ref rfl) hc) fun v H1 e1 ⟨d, ev, hd⟩ => ?_
  subst ev
  show tRet _ _ [some (.ref S.p), some (.ref d), none] H1
  have h1 := evf_sortKD (P := P) (w := w) mv_int (σ := [some (.ref S.p), some (.ref d), none]) (td := tVar 1) (ev_ref rfl) hd (by have := siz_len S.B hn4; omega)
  have e2 : ((sizL S.B S.n).map (·.1)) = allT S.n := by
    unfold sizL
    rw [List.map_map]
    show (allT S.n).map (fun T => T) = _
    rw [List.map_id']
  have e3 : ((allT S.n).map dT).mergeSort dle = (allT S.n).map dT := by
    rw [allT_map]
    exact sort_perm (List.mergeSort_perm _ _) (fun d hd => by
      obtain ⟨L, _, rfl⟩ := List.mem_map.mp ((List.mergeSort_perm _ _).mem_iff.mp hd)
      exact pure_T L) (AllAlike.perm (List.mergeSort_perm _ _).symm (AllAlike.of alike_T))
  rw [e2, e3] at h1
  have h3 := evf_lc (P := P) (w := w) (K := K) (g := gName 2) (tt := tYes) (te := tTupF (tCons (tVar 2) (tCons (tOp (rIxU P w K) (tVar 1) (tVar 2)) tNil))) (vs := [2]) (σ := [some (.ref S.p), some (.ref d), none]) (H := H1) dT (fun _ => true) (sizD S.B) (allT S.n) (h1.l (K := K)).sq (line1000 (by have := allT_len hn4; omega)) fun L hL v H' e hv => turn_of evt_yes fun _ =>
    ev_tup (eds_cons (ev_var (p := Is (dT L)) (v := v) rfl hv) (eds_cons (ev_sizeAt (d := d) (T := L) (ev_ref rfl) (ev_var (v := v) rfl hv) (hd.ex mv_int e) (siz_get hn4 (allT_mem.mp hL))) eds_nil)) (by simp)
  rw [filter_all] at h3
  exact s_retF h3 fun c zs H3 nc e3 hcc hz => k c zs H3 (Evl.fresh_back e1 nc) (e1.trans e3) hcc hz
/-! ### the best road -/
theorem triD_sh (e : Int × Int × List Int) : (triD e).depth ≤ 50 ∧ (triD e).canLay0 = true := by
  refine ⟨depth_tri e, ?_⟩
  have : Sh (triD e) := (sh_tupD (k := 1) (fun d hd => by
    rcases List.mem_cons.mp hd with h | h
    · rw [h]; exact sh_up (sh_intD _) (by omega)
    · rcases List.mem_cons.mp h with h | h
      · rw [h]; exact sh_up (sh_intD _) (by omega)
      · rw [List.mem_singleton.mp h]; exact sh_dT _) (by omega)).1
  exact SeqAt.canLay_of_shaped this
theorem pure_best_road {vs : List V} {H : Hp} {Q : VK} {E : XK} (T : Txt K mg n) (h : sp_best_road P w K n vs H Q E) : t_best_road P w K n E0 { nx := fun _ H' => Q .non H', rt := Q } (start ["known", "some", "table", "road"] vs) H := by
  obtain ⟨d, s, t, m, B, Ts, L, rfl, hd, hs, ht, hz, hL, hg, hex, k⟩ := h
  have h1 := evf_lc (P := P) (w := w) (K := K) (g := gName 3) (tt := tB (tCall (sp_goes P w K n) [] E0 (tCons (tVar 3) (tCons (tVar 2) tNil)))) (te := tTupF (tCons (tOp (rIxU P w K) (tVar 0) (tVar 3)) (tCons (tCB (rLenA P w K) (tCons (tVar 3) tNil)) (tCons (tVar 3) tNil)))) (vs := [3])
    (σ := [some (.ref d), some s, some t, none]) (H := H) (tl := tVar 1) dT (fun R => sub L R) (fun R => triD ((cntT B R : Int), (R.length : Int), R)) Ts (ev_var (p := IsL K _) (v := s) rfl hs).sq (line1000 hz) fun R hR v H' e hv => turn_of (evt_b (ev_goesC (ev_var (v := v) rfl hv) (ev_var (v := t) rfl (ht.mono (Tp.of e))) hL)) fun _ => by
      have gl := ev_len (P := P) (w := w) (K := K) (σ := ((wipe [some (.ref d), some s, some t, none] [3]).set 3 (some v))) (H := H') (a := tVar 3) ((ev_var (p := Is (dT R)) (v := v) rfl hv).tq)
      rw [List.length_map] at gl
      exact ev_tup (eds_cons (ev_sizeAt (d := d) (T := R) (ev_ref rfl) (ev_var (v := v) rfl hv) (hd.ex mv_int e) (hg R hR)) (eds_cons gl (eds_cons (ev_var (p := Is (dT R)) (v := v) rfl hv) eds_nil))) (by simp)
  have em : (Ts.filter fun R => sub L R).map (fun R => triD ((cntT B R : Int), (R.length : Int), R)) = ((Ts.filter fun R => sub L R).map fun R => ((cntT B R : Int), (R.length : Int), R)).map triD := by rw [List.map_map]; rfl
  rw [em] at h1
  cases hc : (Ts.filter fun R => sub L R).map (fun R => ((cntT B R : Int), (R.length : Int), R)) with
  | nil =>
    obtain ⟨R, hR, hRs⟩ := hex
    have : R ∈ Ts.filter fun R => sub L R := List.mem_filter.mpr ⟨hR, hRs⟩
    rw [List.map_eq_nil_iff.mp hc] at this
    cases this
  | cons e es =>
    rw [hc, List.map_cons] at h1
    obtain ⟨r, hr1, hr2, hr3⟩ := rank_min hc
    have h2 := ev_minDt (h1.l (K := K)) (show AllAlike ((e :: es).map triD) from AllAlike.of alike_tri) (fun x hx => by
      obtain ⟨y, _, rfl⟩ := List.mem_map.mp (show x ∈ (e :: es).map triD from hx)
      exact fun z => by cases z) (fun x hx => by
      obtain ⟨y, _, rfl⟩ := List.mem_map.mp (show x ∈ (e :: es).map triD from hx)
      exact triD_sh y)
    rw [hr1] at h2
    show tRet _ _ [some (.ref d), some s, some t, none] H
    refine s_ret (p := Is (dT (bestR B Ts L))) (ev_at (i := 2) (ds := [.int r.1, .int r.2.1, dT r.2.2]) h2 (by rw [← hr2]; rfl)) fun v H1 e1 hv => k v H1 e1 hv
theorem ev_bestRoad {σ : L2.St} {H : Hp} {td ts tt : TE} {d : Addr} {m : List (List Int × Int)} {B : List (List Int × Int)} {Ts : List (List Int)} {L : List Int} (hd : EvP td σ H (IsR (.ref d))) (hs : EvP ts σ H (IsL K (Ts.map dT))) (ht : EvP tt σ H (Is (dT L))) (hD : DAt P w encT vInt H d m) (hz : Ts.length ≤ 1000) (hL : L.length ≤ 1000) (hg : ∀ R ∈ Ts, getG m R = some (cntT B R : Int)) (hex : ∃ R ∈ Ts, sub L R = true) :
    EvP (tCall (sp_best_road P w K n) [] E0 (tCons td (tCons ts (tCons tt tNil)))) σ H (Is (dT (bestR B Ts L))) :=
  ev_call (ps := [IsR (.ref d), IsL K (Ts.map dT), Is (dT L)]) (eas_cons hd (eas_cons hs (eas_cons ht eas_nil))) fun vs H1 e1 hv Q k => by
    obtain ⟨u1, u2, u3, rfl, p1, p2, p3⟩ := als3 hv
    have p1 : u1 = .ref d := p1
    subst p1
    exact ⟨d, u2, u3, m, B, Ts, L, rfl, hD.ex mv_int e1, p2, p3, hz, hL, hg, hex, fun v H2 e2 h2 => k v H2 e2 h2⟩
theorem pure_touched_by {vs : List V} {H : Hp} {Q : VK} {E : XK} (T : Txt K mg n) (h : sp_touched_by P w K n vs H Q E) : t_touched_by P w K n E0 { nx := fun _ H' => Q .non H', rt := Q } (start ["known", "kept", "questions", "table"] vs) H := by
  obtain ⟨d, s, q, m, B, Ts, Us, rfl, hd, hs, hq, hz, hu, hU, hg, k⟩ := h
  have h1 := evf_lc (P := P) (w := w) (K := K) (g := gName 3) (tt := tYes) (te := tOp (rIxU P w K) (tVar 0) (tCall (sp_best_road P w K n) [] E0 (tCons (tVar 0) (tCons (tVar 1) (tCons (tVar 3) tNil))))) (vs := [3])
    (σ := [some (.ref d), some s, some q, none]) (H := H) (tl := tVar 2) dT (fun _ => true) (fun U => .int (cntT B (bestR B Ts U) : Nat)) Us (ev_var (p := IsSq K _) (v := q) rfl hq) (line1000 hu) fun U hU' v H' e hv => turn_of evt_yes fun _ =>
      ev_sizeAt (d := d) (ev_ref rfl) (ev_bestRoad (d := d) (B := B) (Ts := Ts) (ev_ref rfl) (ev_var (v := s) rfl (Mn.mn e hs)) (ev_var (v := v) rfl hv) (hd.ex mv_int e) hz (hU U hU').1 hg (hU U hU').2) (hd.ex mv_int e) (hg _ (best_mem (hU U hU').2))
  rw [filter_all, show Us.map (fun U => PyData.int (cntT B (bestR B Ts U) : Nat)) = dI (Us.map fun U => (cntT B (bestR B Ts U) : Int)) by show _ = (Us.map fun U => (cntT B (bestR B Ts U) : Int)).map PyData.int; rw [List.map_map]; rfl] at h1
  refine s_ret (ev_sum (h1.l (K := K))) fun v H1 e1 hv => ?_
  have := isInt_get hv
  subst this
  exact k H1 e1
theorem ev_touchedBy {σ : L2.St} {H : Hp} {td ts tq : TE} {d : Addr} {m : List (List Int × Int)} {B : List (List Int × Int)} {Ts Us : List (List Int)} (hd : EvP td σ H (fun H' v => v = .ref d ∧ DAt P w encT vInt H' d m)) (hs : EvP ts σ H (IsL K (Ts.map dT))) (hq : EvP tq σ H (IsSq K (Us.map dT))) (hz : Ts.length ≤ 1000) (hu : Us.length ≤ 1000) (hU : ∀ U ∈ Us, U.length ≤ 1000 ∧ ∃ R ∈ Ts, sub U R = true) (hg : ∀ R ∈ Ts, getG m R = some (cntT B R : Int)) :
    EvP (tCall (sp_touched_by P w K n) [] E0 (tCons td (tCons ts (tCons tq tNil)))) σ H (Is (.int (touZ B Ts Us))) := fun H1 e Q k =>
  hd H1 e _ fun u1 H2 e2 ⟨p1, hD⟩ => hs H2 (e.trans e2) _ fun u2 H3 e3 p2 => hq H3 ((e.trans e2).trans e3) _ fun u3 H4 e4 p3 => by
    subst p1
    show sp_touched_by P w K n ([.ref d, u2, u3] ++ []) H4 Q E0
    rw [List.append_nil]
    exact ⟨d, u2, u3, m, B, Ts, Us, rfl, (hD.ex mv_int e3).ex mv_int e4, Mn.mn e4 p2, p3, hz, hu, hU, hg, fun H5 e5 => k _ H5 (((e2.trans e3).trans e4).trans e5) (IsD.int _)⟩
/-- a call of need_table -/
theorem d_need {σ : L2.St} {H : Hp} {te tk : TE} {D : Ends} {S : CS} {L : List Int} (T : Txt K mg n) (hp : EvP te σ H (IsR (.ref S.p))) (ht : EvP tk σ H (Is (dT L))) (h : CubeAt P w n.cube H S) (hL : Tab S.n L) (k : ∀ H', Ex H H' → D.nx σ H') : tDrop (tCall (sp_need_table P w K n) [] E0 (tCons (tFld K te "many") (tCons tk tNil))) D σ H :=
  s_drop (p := IsR .non) (ev_call (ps := [Is (.int S.n), Is (dT L)]) (eas_cons (ev_many T hp h.sk) (eas_cons ht eas_nil)) fun vs H2 e2 hv Q q => by
    obtain ⟨v, u, rfl, q1, q2⟩ := als2 hv
    have q1 := isInt_get q1
    subst q1
    exact ⟨S.n, L, u, rfl, q2, hL, by have := hL.len h.sk.ok.n4; omega, fun H3 e3 => q _ H3 e3 rfl⟩) fun _ H2 e2 _ => k H2 e2
theorem rng_tab {S : CS} (h : CubeOk S) : Tab S.n (rng S.n) := tab_rng S.n
theorem pure_touched {vs : List V} {H : Hp} {Q : VK} {E : XK} (T : Txt K mg n) (h : sp_touched P w K n vs H Q E) : t_touched P w K n E0 { nx := fun _ H' => Q .non H', rt := Q } (start ["cube", "tables", "questions", "table"] vs) H := by
  obtain ⟨S, t, q, Ts, Us, rfl, hc, ht, hq, hTs, hUs, hz, hu, k⟩ := h
  have hn4 := hc.sk.ok.n4
  have hcat := evf_cat (K := K) (σ := [some (.ref S.p), some t, some q, none]) (H := H) (a := tCB (rListOf K) (tCons (tVar 1) tNil)) (b := tCB (rListOf K) (tCons (tVar 2) tNil)) (evf_listOf (ev_var (v := t) rfl ht)).m (evf_listOf (ev_var (v := q) rfl hq)) (by rw [List.length_map, List.length_map]; omega)
  rw [← List.map_append] at hcat
  refine s_seq (s_forE (hcat.l (K := K)).sq fun H2 e2 => ⟨fun j σ' H' => ∃ x3, σ' = [some (.ref S.p), some t, some q, x3] ∧ Ex H2 H', ⟨_, rfl, Ex.refl _⟩, fun _ _ _ ⟨_, _, e⟩ => e, fun j d v σ' H' hj hv ⟨x3, hσ, e3⟩ N kn => ?_, fun σ' H' ⟨x3, hσ, e3⟩ => ?_⟩)
  · subst hσ
    rw [List.getElem?_map] at hj
    cases hL : (Ts ++ Us)[j]? with
    | none => rw [hL] at hj; cases hj
    | some L =>
      rw [hL] at hj
      cases hj
      have hLt : Tab S.n L := by
        rcases List.mem_append.mp (List.mem_of_getElem? hL) with z | z
        · exact hTs L z
        · exact hUs L z
      show tDrop _ _ [some (.ref S.p), some t, some q, some v] H'
      exact d_need T (S := S) (L := L) (ev_ref rfl) (ev_var (v := v) rfl hv) (hc.ex (e2.trans e3)) hLt fun H4 e4 => kn _ _ ⟨_, rfl, e3.trans e4⟩
  · subst hσ
    have e23 := e2.trans e3
    have c3 := hc.ex e23
    have hcat2 := evf_cat (K := K) (σ := [some (.ref S.p), some t, some q, x3]) (H := H') (a := tCB (rListOf K) (tCons (tVar 1) tNil)) (b := tLst (tCons (tFld K (tVar 0) "whole") tNil)) (evf_listOf (ev_var (v := t) rfl (Mn.mn e23 ht))).m (evf_lst (ds := [dT (rng S.n)]) (eds_cons (ev_whole T (S := S) (ev_ref rfl) c3.sk) eds_nil) (by simp)) (by rw [List.length_map, List.length_singleton]; omega)
    rw [show Ts.map dT ++ [dT (rng S.n)] = (Ts ++ [rng S.n]).map dT by rw [List.map_append]; rfl] at hcat2
    refine ev_sizesOf (P := P) (w := w) (K := K) (S := S) (σ := [some (.ref S.p), some t, some q, x3]) (H := H') (te := tVar 0) (ev_ref rfl) c3 H' (Ex.refl _) _ fun v0 H5 e5 ⟨d, ed, hd⟩ => ?_
    subst ed
    have hs5 := (hcat2.l (K := K)).mono e5
    have hq5 : EvP (tVar 2) [some (.ref S.p), some t, some q, x3] H5 (IsSq K (Us.map dT)) := ev_var (v := q) rfl (Mn.mn (e23.trans e5) hq)
    refine hs5 H5 (Ex.refl _) _ fun u2 H6 e6 p2 => hq5 H6 e6 _ fun u3 H7 e7 p3 => ?_
    show sp_touched_by P w K n ([.ref d, u2, u3] ++ []) H7 Q E0
    rw [List.append_nil]
    have hall : ∀ R ∈ Ts ++ [rng S.n], Tab S.n R := fun R hR => by
      rcases List.mem_append.mp hR with z | z
      · exact hTs R z
      · rw [List.mem_singleton.mp z]; exact tab_rng _
    exact ⟨d, u2, u3, sizL S.B S.n, S.B, Ts ++ [rng S.n], Us, rfl, (hd.ex mv_int e6).ex mv_int e7, Mn.mn e7 p2, p3, by rw [List.length_append, List.length_singleton]; omega, by omega, fun U hU => ⟨by have := (hUs U hU).len hn4; omega, rng S.n, List.mem_append_right _ (List.mem_singleton.mpr rfl), sub_rng (hUs U hU)⟩, fun R hR => siz_get hn4 (hall R hR),
      fun H8 e8 => k H8 ((((e23.trans e5).trans e6).trans e7).trans e8)⟩
/-! ### groups -/
theorem groL_snoc (Ts : List (List Int)) (i : Nat) (T : List Int) (h : Ts[i]? = some T) : groL (Ts.take (i + 1)) = groN (groL (Ts.take i)) T := by
  unfold groL
  rw [List.take_add_one, h, List.foldl_append]
  rfl
theorem groL_len : ∀ Ts : List (List Int), (groL Ts).length = 2 ^ Ts.length := by
  have : ∀ (Ts : List (List Int)) (f : List (List (List Int))), (Ts.foldl groN f).length = f.length * 2 ^ Ts.length := by
    intro Ts
    induction Ts with
    | nil => intro f; simp
    | cons T Ts ih =>
      intro f
      rw [List.foldl_cons, ih]
      unfold groN
      rw [List.length_append, List.length_map, List.length_cons, Nat.pow_succ, ← Nat.two_mul, Nat.mul_comm 2, Nat.mul_assoc, Nat.mul_comm 2]
  intro Ts
  unfold groL
  rw [this]
  simp
theorem groL_small {Ts : List (List Int)} (h : Ts.length ≤ 7) : (groL Ts).length ≤ 128 := by
  rw [groL_len]
  exact Nat.le_trans (Nat.pow_le_pow_right (by omega) h) (by decide)
theorem groL_glen : ∀ (Ts : List (List Int)), ∀ g ∈ groL Ts, g.length ≤ Ts.length := by
  have : ∀ (Ts : List (List Int)) (f : List (List (List Int))) (b : Nat), (∀ g ∈ f, g.length ≤ b) → ∀ g ∈ Ts.foldl groN f, g.length ≤ b + Ts.length := by
    intro Ts
    induction Ts with
    | nil => intro f b h g hg; exact h g hg
    | cons T Ts ih =>
      intro f b h g hg
      rw [List.foldl_cons] at hg
      have := ih (groN f T) (b + 1) (fun g hg => by
        rcases List.mem_append.mp hg with z | z
        · have := h g z; omega
        · obtain ⟨g', hg', rfl⟩ := List.mem_map.mp z
          have := h g' hg'
          rw [List.length_append, List.length_singleton]; omega) g hg
      rw [List.length_cons]; omega
  intro Ts g hg
  have := this Ts [[]] 0 (fun g hg => by rw [List.mem_singleton.mp hg]; exact Nat.le_refl _) g hg
  omega
theorem groL_sub : ∀ (Ts : List (List Int)), ∀ g ∈ groL Ts, ∀ T ∈ g, T ∈ Ts := by
  have : ∀ (Ts : List (List Int)) (f : List (List (List Int))) (X : List (List Int)), (∀ g ∈ f, ∀ T ∈ g, T ∈ X) → ∀ g ∈ Ts.foldl groN f, ∀ T ∈ g, T ∈ X ++ Ts := by
    intro Ts
    induction Ts with
    | nil => intro f X h g hg T hT; exact List.mem_append_left _ (h g hg T hT)
    | cons U Ts ih =>
      intro f X h g hg T hT
      rw [List.foldl_cons] at hg
      have := ih (groN f U) (X ++ [U]) (fun g hg T hT => by
        rcases List.mem_append.mp hg with z | z
        · exact List.mem_append_left _ (h g z T hT)
        · obtain ⟨g', hg', rfl⟩ := List.mem_map.mp z
          rcases List.mem_append.mp hT with y | y
          · exact List.mem_append_left _ (h g' hg' T y)
          · exact List.mem_append_right _ y) g hg T hT
      simpa using this
  intro Ts g hg T hT
  have := this Ts [[]] [] (fun g hg T hT => by rw [List.mem_singleton.mp hg] at hT; cases hT) g hg T hT
  simpa using this
theorem grp_snoc (g : List (List Int)) (T : List Int) : PyData.tuple (g.map dT ++ [dT T]) = grpD (g ++ [T]) := by unfold grpD; rw [List.map_append]; rfl
theorem alike_grps : ∀ (a b : List (List Int)), alikeAll (a.map dT) (b.map dT) = true
  | [], [] => by simp [alikeAll]
  | [], _ :: _ => by simp [alikeAll]
  | _ :: _, [] => by simp [alikeAll]
  | x :: a, y :: b => by
    rw [List.map_cons, List.map_cons, alikeAll, alike_T, alike_grps a b]; rfl
theorem alike_grp (a b : List (List Int)) : alike (grpD a) (grpD b) = true := by
  unfold grpD
  rw [alike]
  exact alike_grps a b
theorem sh_grp (g : List (List Int)) : Sh (grpD g) ∧ (grpD g).depth ≤ 2 := sh_tupD (k := 1) (fun d hd => by
  obtain ⟨T, _, rfl⟩ := List.mem_map.mp hd
  exact sh_dT T) (by omega)
theorem srtG_map (L : List (List (List Int))) : (srtG L).map grpD = (L.map grpD).mergeSort dle := sort_maps grpD fun a _ b _ => rfl
theorem pure_groups_of {vs : List V} {H : Hp} {Q : VK} {E : XK} (T : Txt K mg n) (h : sp_groups_of P w K n vs H Q E) : t_groups_of P w K n E0 { nx := fun _ H' => Q .non H', rt := Q } (start ["tables", "found", "table", "group"] vs) H := by
  obtain ⟨t, Ts, rfl, ht, hz, k⟩ := h
  refine s_asgF (evf_lst (ds := [grpD []]) (eds_cons (ev_tup (ds := []) eds_nil (by simp)) eds_nil) (by simp)) fun a xs H1 na e1 ha hx => ?_
  show tSeq _ _ _ [some t, some (.ref a), none, none] H1
  refine s_seq (s_forE (ev_var (p := IsL K _) (v := t) rfl (Mn.mn e1 ht)).sq fun H2 e2 => ⟨fun j σ' H' => ∃ a xs x2, σ' = [some t, some (.ref a), x2, none] ∧ Ex H2 H' ∧ H a = none ∧ H' a = some (.lst xs) ∧ IsDs H' xs ((groL (Ts.take j)).map grpD), ⟨a, xs, _, rfl, Ex.refl _, na, e2 _ _ ha, hx.mono (Tp.of e2)⟩, fun _ _ _ ⟨_, _, _, _, e, _⟩ => e, fun j d v σ' H' hj hv ⟨b, ys, x2, hσ, e3, nb, hb, hy⟩ N kn => ?_, fun σ' H' ⟨b, ys, x2, hσ, e3, nb, hb, hy⟩ => ?_⟩)
  · subst hσ
    rw [List.getElem?_map] at hj
    cases hL : Ts[j]? with
    | none => rw [hL] at hj; cases hj
    | some L =>
      rw [hL] at hj
      cases hj
      have hjl : j < Ts.length := (List.getElem?_eq_some_iff.mp hL).1
      have htl : (Ts.take j).length ≤ 7 := by rw [List.length_take]; omega
      show tAsg _ _ _ [some t, some (.ref b), some v, none] H'
      have h2 := evf_lc (P := P) (w := w) (K := K) (g := gName 3) (tt := tYes) (te := tOp (rPlus K) (tVar 3) (tTupF (tCons (tVar 2) tNil))) (vs := [3]) (σ := [some t, some (.ref b), some v, none]) (H := H') (tl := tVar 1) grpD (fun _ => true) (fun g => grpD (g ++ [L])) (groL (Ts.take j)) ((ev_var (p := IsL K _) rfl (isL_at hb hy)).sq) (line1000 (by have := groL_small htl; omega)) fun g hg u H3 e4 hu => turn_of evt_yes fun _ => by
        have hgl := groL_glen _ g hg
        have := ev_cat (K := K) (ds := g.map dT) (es := [dT L]) (a := tVar 3) (b := tTupF (tCons (tVar 2) tNil)) (σ := ((wipe [some t, some (.ref b), some v, none] [3]).set 3 (some u))) (H := H3) (ev_var (v := u) rfl hu) (ev_tup (eds_cons (ev_var (p := Is (dT L)) (v := v) rfl (hv.mono (Tp.of e4))) eds_nil) (by simp)) (by rw [List.length_map, List.length_singleton]; omega)
        rw [grp_snoc] at this
        exact this
      rw [filter_all] at h2
      have h3 := evf_cat (K := K) (a := tVar 1) (ev_var (p := IsM _) rfl (m_at hb hy)) h2 (by rw [List.length_map, List.length_map]; have := groL_small htl; omega)
      refine h3 H' (Ex.refl _) _ fun c zs H3 nc e4 hc hzs => kn _ _ ⟨c, zs, _, rfl, e3.trans e4, Evl.fresh_back ((e1.trans e2).trans e3) nc, hc, ?_⟩
      rw [groL_snoc Ts j L hL]
      unfold groN
      rw [List.map_append, List.map_map]
      exact hzs
  · subst hσ
    rw [List.length_map, List.take_length] at hy
    have em : (groL Ts).map grpD = ((groL Ts).map fun g => g.map dT).map PyData.tuple := by rw [List.map_map]; rfl
    have hl : EvP (tVar 1) [some t, some (.ref b), x2, none] H' (IsL K ((groL Ts).map grpD)) := ev_var (p := IsL K _) rfl (isL_at hb hy)
    rw [em] at hl
    have h4 := evf_sortedT (w := w) hl (by rw [← em]; exact AllAlike.of alike_grp) (fun d hd => by
      rw [← em] at hd
      obtain ⟨g, _, rfl⟩ := List.mem_map.mp hd
      have := (sh_grp g).2
      omega)
    rw [← em, ← srtG_map] at h4
    exact s_retF h4 fun c zs H3 nc e4 hc hzs => k c zs H3 (Evl.fresh_back ((e1.trans e2).trans e3) nc) (((e1.trans e2).trans e3).trans e4) hc hzs
end
end KC
end

section
set_option Elab.async false
set_option linter.all false
set_option autoImplicit false
set_option maxRecDepth 100000
set_option maxHeartbeats 4000000
/-! What to keep in a room. -/
namespace KC
open PySem L2 PySem.W PyProof.Rows
open Evl (Ex EvT)
abbrev Cand := Int × Int × List (List Int)
/-! ### plain -/
theorem bestC_snoc (L : List Cand) (c : Cand) : bestC (L ++ [c]) = better (bestC L) c := by unfold bestC; rw [List.foldl_append]; rfl
theorem better_some (x c : Cand) : better (some x) c = if dataLt (cosD c) (cosD x) = true then some c else some x := rfl
theorem fold_some : ∀ (L : List Cand) (x : Cand), ∃ c, L.foldl better (some x) = some c ∧ c ∈ x :: L ∧ ∀ e ∈ x :: L, dle (cosD c) (cosD e) = true
  | [], x => ⟨x, rfl, List.mem_cons_self, fun e he => by rw [List.mem_singleton.mp he]; exact dle_refl _⟩
  | y :: L, x => by
    rw [List.foldl_cons, better_some]
    by_cases z : dataLt (cosD y) (cosD x) = true
    · rw [if_pos z]
      obtain ⟨c, h1, h2, h3⟩ := fold_some L y
      refine ⟨c, h1, List.mem_cons_of_mem _ h2, fun e he => ?_⟩
      rcases List.mem_cons.mp he with q | q
      · rw [q]; exact dle_total.trans _ _ _ (h3 y List.mem_cons_self) (dle_of_lt z)
      · exact h3 e q
    · rw [if_neg z]
      obtain ⟨c, h1, h2, h3⟩ := fold_some L x
      refine ⟨c, h1, ?_, fun e he => ?_⟩
      · rcases List.mem_cons.mp h2 with q | q
        · rw [q]; exact List.mem_cons_self
        · exact List.mem_cons_of_mem _ (List.mem_cons_of_mem _ q)
      · rcases List.mem_cons.mp he with q | q
        · rw [q]; exact h3 x List.mem_cons_self
        · rcases List.mem_cons.mp q with q | q
          · rw [q]; exact dle_total.trans _ _ _ (h3 x List.mem_cons_self) (dle_of_nlt z)
          · exact h3 e (List.mem_cons_of_mem _ q)
theorem bestC_ok (L : List Cand) : (bestC L = none ↔ L = []) ∧ ∀ c, bestC L = some c → c ∈ L ∧ ∀ e ∈ L, dle (cosD c) (cosD e) = true := by
  cases L with
  | nil => exact ⟨⟨fun _ => rfl, fun _ => rfl⟩, fun c h => by cases h⟩
  | cons x L =>
    obtain ⟨c, h1, h2, h3⟩ := fold_some L x
    have h1 : bestC (x :: L) = some c := h1
    rw [h1]
    refine ⟨⟨fun h => (by cases h), fun h => (by cases h)⟩, fun c' h => ?_⟩
    cases h
    exact ⟨h2, h3⟩
theorem pure_tabs (g : List (List Int)) : pureAll (g.map dT) = true := by
  induction g with
  | nil => rw [List.map_nil, pureAll]
  | cons x g ih => rw [List.map_cons, pureAll, pure_T, ih]; rfl
def cosT (c : Cand) : PyData := .tuple [.int c.1, .int c.2.1, .tuple (c.2.2.map dT)]
theorem cos_toks (c : Cand) : keyToks (cosD c) = keyToks (cosT c) := by
  unfold cosD cosT
  rw [keyToks, keyToks, keyToksAll, keyToksAll, keyToksAll, keyToksAll, keyToksAll, keyToksAll, keyToksAll, keyToksAll, keyToks, keyToks, keyToks, keyToks]
theorem pure_cos (c : Cand) : pureD (cosT c) = true := by
  unfold cosT
  rw [pureD, pureAll, pureAll, pureAll, pureAll, pureD, pureD, pureD, pure_tabs]; rfl
theorem alike_cosT (a b : Cand) : alike (cosT a) (cosT b) = true := by
  unfold cosT
  rw [alike, alikeAll, alikeAll, alikeAll, alikeAll, alike, alike, alike, alike_grps]; rfl
theorem dle_cos {a b : Cand} (h : dle (cosD a) (cosD b) = true) : dle (cosT a) (cosT b) = true := by
  have h : (!(PyProof.Rows.lexLt itemOrd (keyToks (cosD b)) (keyToks (cosD a)))) = true := h
  rw [cos_toks, cos_toks] at h
  exact h
theorem alike_cos (a b : Cand) : alike (cosD a) (cosD b) = true := by
  unfold cosD
  rw [alike, alikeAll, alikeAll, alikeAll, alikeAll, alike, alike, alike, alike_grps]; rfl
theorem cos_inj {a b : Cand} (h : cosT a = cosT b) : a = b := by
  unfold cosT at h
  injection h with h
  injection h with h1 h
  injection h with h2 h
  injection h with h3 h
  injection h1 with h1
  injection h2 with h2
  injection h3 with h3
  have h3 := map_inj (fun _ _ => dT_inj) h3
  exact Prod.ext h1 (Prod.ext h2 h3)
theorem bestC_perm {L M : List Cand} (p : L.Perm M) : bestC L = bestC M := by
  cases hl : bestC L with
  | none =>
    have := (bestC_ok L).1.mp hl
    subst this
    rw [List.Perm.nil_eq p] at *
    exact hl.symm
  | some a =>
    cases hm : bestC M with
    | none =>
      have := (bestC_ok M).1.mp hm
      subst this
      have : L = [] := List.Perm.eq_nil p
      subst this
      cases hl
    | some b =>
      obtain ⟨a1, a2⟩ := (bestC_ok L).2 a hl
      obtain ⟨b1, b2⟩ := (bestC_ok M).2 b hm
      have h1 := a2 b (p.mem_iff.mpr b1)
      have h2 := b2 a (p.mem_iff.mp a1)
      rw [cos_inj (eq_of_le (pure_cos a) (pure_cos b) (alike_cosT a b) (dle_cos h1) (dle_cos h2))]
theorem candL_snoc (B : List (List Int × Int)) (n : Nat) (Us : List (List Int)) (room : Int) (L : List (List (List Int))) {i : Nat} {g : List (List Int)} (h : L[i]? = some g) : candL B n Us room (L.take (i + 1)) = candL B n Us room (L.take i) ++ (if decide (rowZ B g ≤ room) = true then [cosC B n Us g] else []) := by
  unfold candL
  rw [filter_take_one _ L h, List.map_append]
  congr 1
  by_cases z : decide (rowZ B g ≤ room) = true
  · rw [if_pos z, if_pos z]; rfl
  · rw [if_neg z, if_neg z]; rfl
theorem candL_perm {B : List (List Int × Int)} {n : Nat} {Us : List (List Int)} {room : Int} {L M : List (List (List Int))} (p : L.Perm M) : (candL B n Us room L).Perm (candL B n Us room M) := (p.filter _).map _
theorem groL_nil_mem (Ts : List (List Int)) : [] ∈ groL Ts := by
  have : ∀ (Ts : List (List Int)) (f : List (List (List Int))), [] ∈ f → [] ∈ Ts.foldl groN f := by
    intro Ts
    induction Ts with
    | nil => intro f h; exact h
    | cons T Ts ih =>
      intro f h
      rw [List.foldl_cons]
      exact ih _ (List.mem_append_left _ h)
  exact this Ts [[]] (List.mem_singleton.mpr rfl)
theorem cand_some {B : List (List Int × Int)} {n : Nat} {Us : List (List Int)} {room : Int} {L : List (List (List Int))} (h : [] ∈ L) (h0 : 0 ≤ room) : ∃ c, bestC (candL B n Us room L) = some c := by
  cases hb : bestC (candL B n Us room L) with
  | some c => exact ⟨c, rfl⟩
  | none =>
    have := (bestC_ok _).1.mp hb
    have hm : cosC B n Us [] ∈ candL B n Us room L := List.mem_map.mpr ⟨[], List.mem_filter.mpr ⟨h, decide_eq_true (by show (0 : Int) ≤ room; exact h0)⟩, rfl⟩
    rw [this] at hm
    cases hm
theorem tabsIn_len {n : Nat} (h1 : n ≤ 3) : (tabsIn n).length ≤ 7 := by
  have p := List.filter_append_perm (fun T : List Int => decide (T = rng n)) (allT n)
  have l := p.length_eq
  rw [List.length_append] at l
  have hm : rng n ∈ (allT n).filter fun T => decide (T = rng n) := List.mem_filter.mpr ⟨allT_mem.mpr (tab_rng n), decide_eq_true rfl⟩
  have hp := List.length_pos_of_mem hm
  have h8 : (allT n).length ≤ 8 := by
    unfold allT srtT
    rw [List.length_mergeSort]
    have : n = 0 ∨ n = 1 ∨ n = 2 ∨ n = 3 := by omega
    rcases this with e | e | e | e <;> subst e <;> decide
  unfold tabsIn
  omega
theorem tabsIn_tab {n : Nat} {T : List Int} (h : T ∈ tabsIn n) : Tab n T := allT_mem.mp (List.mem_filter.mp h).1
theorem srtG_perm (L : List (List (List Int))) : (srtG L).Perm L := List.mergeSort_perm _ _
theorem group_tab {n : Nat} {g : List (List Int)} (h : g ∈ srtG (groL (tabsIn n))) : ∀ T ∈ g, Tab n T := fun T hT => tabsIn_tab (groL_sub _ g ((srtG_perm _).mem_iff.mp h) T hT)
/-! ### a cost, as it lies -/
def CostAt (H0 : Hp) (c : Cand) : PV := fun H v => ∃ p l xs, v = .ref p ∧ H0 p = none ∧ H0 l = none ∧ TupAt H p [.int c.1, .int c.2.1, .ref l] ∧ H l = some (.lst xs) ∧ IsDs H xs (c.2.2.map dT)
instance (H0 : Hp) (c : Cand) : Mn (CostAt H0 c) := ⟨fun e ⟨p, l, xs, h1, h2, h3, h4, h5, h6⟩ => ⟨p, l, xs, h1, h2, h3, h4.mono (Tp.of e), e _ _ h5, h6.mono (Tp.of e)⟩⟩
def BestAt (H0 : Hp) : Option Cand → PV
  | none => IsR .non
  | some c => CostAt H0 c
instance (H0 : Hp) (b : Option Cand) : Mn (BestAt H0 b) := ⟨fun e h => by
  cases b with
  | none => exact h
  | some c => exact Mn.mn (p := CostAt H0 c) e h⟩
section
variable {P : Program} {w : World} {K : PySem.W.Frag} {mg : Str → Option Value} {n : Nm}
theorem CostAt.dp {H0 H : Hp} {c : Cand} {v : V} (h : CostAt H0 c H v) : Dp K H v (cosD c) := by
  obtain ⟨p, l, xs, rfl, _, _, ht, hl, hx⟩ := h
  exact .tup ht.sq (.cons (.int _) (.cons (.int _) (.cons (.lst (.inl (.inl hl)) hx.dp) .nil)))
theorem CostAt.dx {H0 H : Hp} {c : Cand} {v : V} (h : CostAt H0 c H v) : IsV K (cosD c) H v := by
  obtain ⟨p, l, xs, rfl, _, _, ht, hl, hx⟩ := h
  exact .tup ht (.cons (.dat (.int _)) (.cons (.dat (.int _)) (.cons (.lst (.inl (.inl hl)) (dxs_of hx)) .nil)))
theorem sh_cos (c : Cand) : Sh (cosD c) ∧ (cosD c).depth ≤ 3 := sh_tupD (k := 2) (fun d hd => by
  rcases List.mem_cons.mp hd with h | h
  · rw [h]; exact sh_up (sh_intD _) (by omega)
  · rcases List.mem_cons.mp h with h | h
    · rw [h]; exact sh_up (sh_intD _) (by omega)
    · rw [List.mem_singleton.mp h]
      exact sh_listD (k := 1) (fun d hd => by
        obtain ⟨T, _, rfl⟩ := List.mem_map.mp hd
        exact sh_dT T) (by omega)) (by omega)
theorem ev_cost {σ : L2.St} {H0 H : Hp} {ta tb tl : TE} {x y : Int} {g : List (List Int)} (ha : EvP ta σ H (Is (.int x))) (hb : EvP tb σ H (Is (.int y))) (hl : EvF tl σ H (g.map dT)) (e0 : Ex H0 H) : EvP (tTupF (tCons ta (tCons tb (tCons tl tNil)))) σ H (CostAt H0 (x, y, g)) := fun H1 e Q k =>
  ha H1 e _ fun u H2 e2 hu => hb H2 (e.trans e2) _ fun v H3 e3 hv => hl H3 ((e.trans e2).trans e3) _ fun l xs H4 nl e4 hl4 hx => by
    have h1 := isInt_get hu
    have h2 := isInt_get hv
    subst h1 h2
    refine ⟨by show 3 ≤ sizeLine; decide, fun p o np hd => ?_⟩
    have e5 : Ex H4 (upd H4 p (.frz o (.tup [.int x, .int y, .ref l]))) := Ex.new np
    have e03 := (((e0.trans e).trans e2).trans e3)
    exact k _ _ (((e2.trans e3).trans e4).trans e5) ⟨p, l, xs, rfl, Evl.fresh_back (e03.trans e4) np, Evl.fresh_back e03 nl, tupAt_new hd, e5 _ _ hl4, hx.mono (Tp.of e5)⟩
/-- the last rows of a turn: is it better? -/
theorem s_try {σ : L2.St} {H0 H : Hp} {D : Ends} {te : TE} {ib ic : Nat} {vb : V} {b : Option Cand} {c : Cand} (hvb : BestAt H0 b H vb) (hc : EvP te σ H (CostAt H0 c)) (hic : ∀ v, (σ.set ic (some v))[ic]? = some (some v)) (hib : ∀ v, (σ.set ic (some v))[ib]? = some (some vb))
    (k1 : ∀ v H', Ex H H' → BestAt H0 (better b c) H' vb → D.nx (σ.set ic (some v)) H') (k2 : ∀ v H', Ex H H' → BestAt H0 (better b c) H' v → D.nx ((σ.set ic (some v)).set ib (some v)) H') :
    tSeq (tAsg te (gName ic)) (tIfS (tOr (tTest (tOp rIsN (tVar ib) (tC .non))) (tTest (tOp (rLtDt K) (tVar ic) (tVar ib)))) (tAsg (tVar ic) (gName ib)) tNext) D σ H := by
  refine s_asg hc fun v H1 e1 hv => ?_
  have hb1 := Mn.mn e1 hvb
  have win : ∀ H2, Ex H1 H2 → BestAt H0 (better b c) H2 v → tAsg (tVar ic) (gName ib) D (σ.set ic (some v)) H2 := fun H2 e2 h2 => ⟨v, hic v, k2 v H2 (e1.trans e2) h2⟩
  cases b with
  | none =>
    have hb1 : vb = .non := hb1
    subst hb1
    refine s_if (b := true) (evt_or (b := true) (c := true) (fun H2 e2 Q q => ⟨.non, hib v, rfl, _, rfl, by rw [decide_eq_true rfl]; exact q H2 (Ex.refl _)⟩) fun z => by cases z) (fun _ H2 e2 => win H2 e2 (Mn.mn e2 hv)) fun z => by cases z
  | some x =>
    have hne : vb ≠ .non := fun z => by
      obtain ⟨p, l, xs, e, _⟩ := hb1
      rw [e] at z; cases z
    have q1 : EvT (tTest (tOp rIsN (tVar ib) (tC .non))) (σ.set ic (some v)) H1 false := fun H2 e2 Q q => ⟨vb, hib v, rfl, _, rfl, by rw [decide_eq_false hne]; exact q H2 (Ex.refl _)⟩
    have q2 : EvT (tTest (tOp (rLtDt K) (tVar ic) (tVar ib))) (σ.set ic (some v)) H1 (dataLt (cosD c) (cosD x)) := fun H2 e2 Q q => ⟨v, hic v, vb, hib v, cosD c, cosD x, CostAt.dp (Mn.mn e2 hv), CostAt.dp (Mn.mn (p := CostAt H0 x) e2 hb1), alike_cos c x, (fun z => by cases z), by have := (sh_cos c).2; omega, _, rfl, q H2 (Ex.refl _)⟩
    refine s_if (evt_or q1 fun _ => q2) (fun z H2 e2 => win H2 e2 ?_) fun z H2 e2 => k1 v H2 (e1.trans e2) ?_
    · have z : dataLt (cosD c) (cosD x) = true := by simpa using z
      rw [better_some, if_pos z]
      exact Mn.mn (p := CostAt H0 c) e2 hv
    · have z : dataLt (cosD c) (cosD x) = false := by simpa using z
      rw [better_some, if_neg (by rw [z]; exact Bool.false_ne_true)]
      exact Mn.mn (p := CostAt H0 x) e2 hb1
theorem rows_data (B : List (List Int × Int)) (g : List (List Int)) : g.map (fun T => PyData.int (cntT B T : Nat)) = dI (g.map fun T => (cntT B T : Int)) := by
  show _ = (g.map fun T => (cntT B T : Int)).map PyData.int
  rw [List.map_map]; rfl
theorem pure_chosen {vs : List V} {H : Hp} {Q : VK} {E : XK} (T : Txt K mg n) (h : sp_chosen P w K n vs H Q E) : t_chosen P w K n E0 { nx := fun _ H' => Q .non H', rt := Q } (start ["cube", "questions", "room", "table", "known", "best", "group", "rows", "cost"] vs) H := by
  obtain ⟨S, q, Us, room, rfl, hc, hq, hUs, hn3, hu, hr0, k⟩ := h
  have hn4 := hc.sk.ok.n4
  have hn1 := hc.sk.ok.n1
  refine s_seq (s_forE (ev_var (p := IsSq K _) (v := q) rfl hq) fun H2 e2 => ⟨fun j σ' H' => ∃ x3, σ' = [some (.ref S.p), some q, some (.int room), x3, none, none, none, none, none] ∧ Ex H2 H', ⟨_, rfl, Ex.refl _⟩, fun _ _ _ ⟨_, _, e⟩ => e, fun j d v σ' H' hj hv ⟨x3, hσ, e3⟩ N kn => ?_, fun σ' H' ⟨x3, hσ, e3⟩ => ?_⟩)
  · subst hσ
    rw [List.getElem?_map] at hj
    cases hL : Us[j]? with
    | none => rw [hL] at hj; cases hj
    | some L =>
      rw [hL] at hj
      cases hj
      show tDrop _ _ [some (.ref S.p), some q, some (.int room), some v, none, none, none, none, none] H'
      exact d_need T (S := S) (L := L) (ev_ref rfl) (ev_var (v := v) rfl hv) (hc.ex (e2.trans e3)) (hUs L (List.mem_of_getElem? hL)) fun H4 e4 => kn _ _ ⟨_, rfl, e3.trans e4⟩
  · subst hσ
    have e23 := e2.trans e3
    have c3 := hc.ex e23
    show tSeq _ _ _ [some (.ref S.p), some q, some (.int room), x3, none, none, none, none, none] H'
    have g1 := evt_test (ev_gt (ev_many T (S := S) (σ := [some (.ref S.p), some q, some (.int room), x3, none, none, none, none, none]) (te := tVar 0) (ev_ref rfl) c3.sk) (ev_int 3))
    have gl := ev_len (P := P) (w := w) (K := K) (σ := [some (.ref S.p), some q, some (.int room), x3, none, none, none, none, none]) (H := H') (a := tVar 1) (ev_var (v := q) rfl (Mn.mn e23 hq))
    rw [List.length_map] at gl
    have g2 := evt_test (ev_gt gl (ev_int 20))
    have g3 : EvT (tTest (tOp rLtI (tVar 2) (tC (.int 0)))) [some (.ref S.p), some q, some (.int room), x3, none, none, none, none, none] H' _ := evt_test (ev_lt (ev_vi (z := room) rfl) (ev_int 0))
    rw [decide_eq_false (by omega)] at g1 g2 g3
    refine s_ifF (evt_or g1 fun _ => evt_or g2 fun _ => g3) fun H4 e4 => ?_
    have e24 := e23.trans e4
    refine s_asg (ev_sizesOf (S := S) (ev_ref rfl) (hc.ex e24)) fun v4 H5 e5 ⟨d, ev4, hd⟩ => ?_
    subst ev4
    show tSeq _ _ _ [some (.ref S.p), some q, some (.int room), x3, some (.ref d), none, none, none, none] H5
    refine s_asg (ev_c .non) fun v5 H6 e6 h5 => ?_
    have h5 : v5 = .non := h5
    subst h5
    show tSeq _ _ _ [some (.ref S.p), some q, some (.int room), x3, some (.ref d), some .non, none, none, none] H6
    have e26 := (e24.trans e5).trans e6
    have c6 := hc.ex e26
    have hd6 := hd.ex mv_int e6
    have ht := evf_lc (P := P) (w := w) (K := K) (g := gName 3) (tt := tTest (tOp (rNeD K) (tVar 3) (tFld K (tVar 0) "whole"))) (te := tVar 3) (vs := [3]) (σ := [some (.ref S.p), some q, some (.int room), x3, some (.ref d), some .non, none, none, none]) (H := H6) dT (fun T => !decide (T = rng S.n)) dT (allT S.n) (((evf_allC (P := P) (w := w) (K := K) (n := n) (te := tFld K (tVar 0) "many") (ev_many T (S := S) (ev_ref rfl) c6.sk) hn4).l (K := K)).sq) (line1000 (by have := allT_len hn4; omega)) fun L hL v H' e hv => turn_id (by show 3 < 9; decide) hv (by
      have := evt_test (ev_ne (K := K) (a := tVar 3) (b := tFld K (tVar 0) "whole") (ev_var (p := Is (dT L)) (σ := ((wipe [some (.ref S.p), some q, some (.int room), x3, some (.ref d), some .non, none, none, none] [3]).set 3 (some v))) (v := v) rfl hv) (ev_whole T (S := S) (ev_ref rfl) (c6.ex e).sk) sh_T sh_T)
      rw [eqv_T] at this
      exact this)
    have hg : EvF (tCall (sp_groups_of P w K n) [] E0 (tCons (tLc (iAny P w K (tCall (sp_all_tables P w K n) [] E0 (tCons (tFld K (tVar 0) "many") tNil))) (gName 3) (tTest (tOp (rNeD K) (tVar 3) (tFld K (tVar 0) "whole"))) (tVar 3) [3]) tNil)) [some (.ref S.p), some q, some (.int room), x3, some (.ref d), some .non, none, none, none] H6 ((srtG (groL (tabsIn S.n))).map grpD) :=
      evf_call (ps := [IsL K ((tabsIn S.n).map dT)]) (eas_cons (ht.l (K := K)) eas_nil) fun vs H7 e7 hv Q' q' => by
        obtain ⟨u, rfl, p1⟩ := als1 hv
        exact ⟨u, tabsIn S.n, rfl, p1, tabsIn_len hn3, q'⟩
    have hGl : (srtG (groL (tabsIn S.n))).length ≤ 128 := by
      unfold srtG
      rw [List.length_mergeSort]
      exact groL_small (tabsIn_len hn3)
    refine s_seq (s_forE (hg.l (K := K)).sq fun H7 e7 => ⟨fun j σ' H' => ∃ x3 v5 x6 x7 x8, σ' = [some (.ref S.p), some q, some (.int room), x3, some (.ref d), some v5, x6, x7, x8] ∧ Ex H7 H' ∧ BestAt H (bestC (candL S.B S.n Us room ((srtG (groL (tabsIn S.n))).take j))) H' v5, ⟨_, _, _, _, _, rfl, Ex.refl _, rfl⟩, fun _ _ _ ⟨_, _, _, _, _, _, e, _⟩ => e, fun j dd v σ' H' hj hv ⟨y3, v5, y6, y7, y8, hσ, e8, hB⟩ N kn => ?_, fun σ' H' ⟨y3, v5, y6, y7, y8, hσ, e8, hB⟩ => ?_⟩)
    · subst hσ
      rw [List.getElem?_map] at hj
      cases hgj : (srtG (groL (tabsIn S.n)))[j]? with
      | none => rw [hgj] at hj; cases hj
      | some g =>
        rw [hgj] at hj
        cases hj
        have hgm := List.mem_of_getElem? hgj
        have hgT := group_tab hgm
        have hgl : g.length ≤ 7 := Nat.le_trans (groL_glen _ g ((srtG_perm _).mem_iff.mp hgm)) (tabsIn_len hn3)
        have eH : Ex H H' := (e26.trans e7).trans e8
        have c8 := hc.ex eH
        have hd8 := (hd6.ex mv_int e7).ex mv_int e8
        show tSeq _ _ _ [some (.ref S.p), some q, some (.int room), y3, some (.ref d), some v5, some v, y7, y8] H'
        have h1 := evf_lc (P := P) (w := w) (K := K) (g := gName 3) (tt := tYes) (te := tOp (rIxU P w K) (tVar 4) (tVar 3)) (vs := [3]) (σ := [some (.ref S.p), some q, some (.int room), y3, some (.ref d), some v5, some v, y7, y8]) (H := H') (tl := tVar 6) dT (fun _ => true) (fun T => .int (cntT S.B T : Nat)) g ((ev_var (p := Is (grpD g)) (v := v) rfl hv).tq) (line1000 (by omega)) fun L hL u H3 e3 hu => turn_of evt_yes fun _ => ev_sizeAt (d := d) (ev_ref rfl) (ev_var (v := u) rfl hu) (hd8.ex mv_int e3) (siz_get hn4 (hgT L hL))
        rw [filter_all, rows_data] at h1
        refine s_asg (ev_sum (h1.l (K := K))) fun v7 H9 e9 h7 => ?_
        have h7 := isInt_get h7
        subst h7
        show tIfS _ _ _ _ [some (.ref S.p), some q, some (.int room), y3, some (.ref d), some v5, some v, some (.int (rowZ S.B g)), y8] H9
        have hle : EvT (tTest (tOp rLeI (tVar 7) (tVar 2))) [some (.ref S.p), some q, some (.int room), y3, some (.ref d), some v5, some v, some (.int (rowZ S.B g)), y8] H9 (decide (rowZ S.B g ≤ room)) := evt_test (ev_le (ev_vi rfl) (ev_vi rfl))
        refine s_if hle (fun hz H10 e10 => ?_) fun hz H10 e10 => ?_
        · have e810 := (e8.trans e9).trans e10
          have eH' := (eH.trans e9).trans e10
          have c10 := hc.ex eH'
          have hv10 := (hv.mono (Tp.of e9)).mono (Tp.of e10)
          have hlist : ∀ H'', Ex H10 H'' → EvF (tCB (rListOf K) (tCons (tVar 6) tNil)) [some (.ref S.p), some q, some (.int room), y3, some (.ref d), some v5, some v, some (.int (rowZ S.B g)), y8] H'' (g.map dT) := fun H'' e'' => evf_listOf ((ev_var (p := Is (grpD g)) (v := v) rfl (hv10.mono (Tp.of e''))).tq)
          have hcat := evf_cat (K := K) (b := tLst (tCons (tFld K (tVar 0) "whole") tNil)) (hlist H10 (Ex.refl _)).m (evf_lst (ds := [dT (rng S.n)]) (eds_cons (ev_whole T (S := S) (ev_ref rfl) c10.sk) eds_nil) (by simp)) (by rw [List.length_map, List.length_singleton]; omega)
          rw [show g.map dT ++ [dT (rng S.n)] = (g ++ [rng S.n]).map dT by rw [List.map_append]; rfl] at hcat
          have htb := ev_touchedBy (P := P) (w := w) (K := K) (n := n) (σ := [some (.ref S.p), some q, some (.int room), y3, some (.ref d), some v5, some v, some (.int (rowZ S.B g)), y8]) (H := H10) (td := tVar 4) (tq := tVar 1) (d := d) (m := sizL S.B S.n) (B := S.B) (Ts := g ++ [rng S.n]) (Us := Us)
            (fun H1 e Q k => ⟨.ref d, rfl, k _ H1 (Ex.refl _) ⟨rfl, ((hd8.ex mv_int e9).ex mv_int e10).ex mv_int e⟩⟩) (hcat.l (K := K)) (ev_var (v := q) rfl (Mn.mn eH' hq)) (by rw [List.length_append, List.length_singleton]; omega) (by omega)
            (fun U hU => ⟨by have := (hUs U hU).len hn4; omega, rng S.n, List.mem_append_right _ (List.mem_singleton.mpr rfl), sub_rng (hUs U hU)⟩) (fun R hR => siz_get hn4 (by
              rcases List.mem_append.mp hR with z | z
              · exact hgT R z
              · rw [List.mem_singleton.mp z]; exact tab_rng _))
          have hcost := ev_cost (H0 := H) htb (ev_vi (i := 7) (z := rowZ S.B g) rfl) (hlist H10 (Ex.refl _)) eH'
          refine s_try (K := K) (H0 := H) (ib := 5) (ic := 8) (vb := v5) (b := bestC (candL S.B S.n Us room ((srtG (groL (tabsIn S.n))).take j))) (c := cosC S.B S.n Us g) (Mn.mn (e9.trans e10) hB) hcost (fun _ => rfl) (fun _ => rfl) (fun u H11 e11 hb => kn _ _ ⟨_, _, _, _, _, rfl, e810.trans e11, ?_⟩) fun u H11 e11 hb => kn _ _ ⟨_, _, _, _, _, rfl, e810.trans e11, ?_⟩
          · rw [candL_snoc _ _ _ _ _ hgj, if_pos hz, bestC_snoc]; exact hb
          · rw [candL_snoc _ _ _ _ _ hgj, if_pos hz, bestC_snoc]; exact hb
        · refine kn _ _ ⟨_, _, _, _, _, rfl, (e8.trans e9).trans e10, ?_⟩
          rw [candL_snoc _ _ _ _ _ hgj, if_neg (by rw [hz]; exact Bool.false_ne_true), List.append_nil]
          exact Mn.mn (e9.trans e10) hB
    · subst hσ
      rw [List.length_map, List.take_length] at hB
      obtain ⟨c, hcb⟩ := cand_some (B := S.B) (n := S.n) (Us := Us) (room := room) ((srtG_perm (groL (tabsIn S.n))).mem_iff.mpr (groL_nil_mem _)) hr0
      rw [hcb] at hB
      obtain ⟨p, l, xs, rfl, np, nl, ht', hl', hx'⟩ := hB
      exact ⟨.ref p, rfl, k c p l xs H' hcb nl np ((e26.trans e7).trans e8) ht' hl' hx'⟩
/-- a call of chosen -/
theorem ev_chosen {σ : L2.St} {H0 H : Hp} {tc tq tr : TE} {S : CS} {Us : List (List Int)} {room : Int} (hp : EvP tc σ H (IsR (.ref S.p))) (hq : EvP tq σ H (IsSq K (Us.map dT))) (hr : EvP tr σ H (Is (.int room))) (hc : CubeAt P w n.cube H S) (hUs : ∀ U ∈ Us, Tab S.n U) (hn3 : S.n ≤ 3) (hu : Us.length ≤ 20) (hr0 : 0 ≤ room) {c : Cand} (hb : bestC (candL S.B S.n Us room (srtG (groL (tabsIn S.n)))) = some c) (e0 : Ex H0 H) :
    EvP (tCall (sp_chosen P w K n) [] E0 (tCons tc (tCons tq (tCons tr tNil)))) σ H (CostAt H0 c) :=
  fun H1 e Q k => (eas_cons hp (eas_cons hq (eas_cons hr eas_nil))) H1 e _ fun vs H2 e2 hv => by
    obtain ⟨u1, u2, u3, rfl, p1, p2, p3⟩ := als3 hv
    have p1 : u1 = .ref S.p := p1
    have p3 := isInt_get p3
    subst p1 p3
    show sp_chosen P w K n ([.ref S.p, u2, .int room] ++ []) H2 Q E0
    rw [List.append_nil]
    refine ⟨S, u2, Us, room, rfl, hc.ex (e.trans e2), p2, hUs, hn3, hu, hr0, fun c' p l xs H3 hb' nl np e3 ht hl hx => ?_⟩
    rw [hb] at hb'
    cases hb'
    have e02 := (e0.trans e).trans e2
    exact k _ H3 (e2.trans e3) ⟨p, l, xs, rfl, Evl.fresh_back e02 np, Evl.fresh_back e02 nl, ht, hl, hx⟩
end
end KC
end

section
set_option Elab.async false
set_option linter.all false
set_option autoImplicit false
set_option maxRecDepth 100000
set_option maxHeartbeats 4000000
/-! Promises of k05's own defs. -/
namespace KC
open PySem L2 PySem.W
open Evl (Ex EvT)
def sp_law_sizes (P : Program) (w : World) (K : PySem.W.Frag) (n : Nm) : Sp := fun vs H Q _ => ∃ M : MS, vs = [.ref M.p] ∧ MAt P w H M ∧ M.rows.length < 64 ∧ ∀ d H', H d = none → Ex H H' → DAt P w encT vInt H' d (sizL M.rows M.n) → Q (.ref d) H'
def sp_law_touched (P : Program) (w : World) (K : PySem.W.Frag) (n : Nm) : Sp := fun vs H Q _ => ∃ (M : MS) (d : Addr) (t q : V) (Ts Us : List (List Int)), vs = [.ref M.p, .ref d, t, q] ∧ MAt P w H M ∧ DAt P w encT vInt H d (sizL M.rows M.n) ∧ IsSq K (Ts.map dT) H t ∧ IsSq K (Us.map dT) H q ∧ (∀ T ∈ Ts, Tab M.n T) ∧ (∀ U ∈ Us, Tab M.n U) ∧ Ts.length ≤ 400 ∧ Us.length ≤ 400 ∧
  ∀ H', Ex H H' → Q (.int (touZ M.rows (Ts ++ [rng M.n]) Us)) H'
def sp_law_tried (P : Program) (w : World) (K : PySem.W.Frag) (n : Nm) : Sp := fun vs H Q _ => ∃ (M : MS) (q : V) (Us : List (List Int)) (room : Int), vs = [.ref M.p, q, .int room] ∧ MAt P w H M ∧ M.rows.length < 64 ∧ IsSq K (Us.map dT) H q ∧ (∀ U ∈ Us, Tab M.n U) ∧ M.n ≤ 3 ∧ Us.length ≤ 20 ∧ 0 ≤ room ∧
  ∀ c v H', bestC (candL M.rows M.n Us room (groL (tabsIn M.n))) = some c → Ex H H' → CostAt H c H' v → Q v H'
end KC
end

section
set_option Elab.async false
set_option linter.all false
set_option autoImplicit false
set_option maxRecDepth 100000
set_option maxHeartbeats 4000000
/-! Readings of k05, printed by gen.py. -/
namespace KC
open PySem L2 PySem.Spec PyProof.Rows
def t_law_sizes (P : Program) (w : World) (K : PySem.W.Frag) (n : Nm) (E : XK) : TS :=
  (tSeq (tAsg (tNewD P w) (gName 1))
    (tSeq (tFor (iAny P w K (tCall (sp_law_all P w K n) [] E (tCons (tDGet (tVar 0) (tC (.str "edges"))) tNil))) (gName 2) (tAsg (tCall (sp_law_size P w K n) [] E (tCons (tVar 0) (tCons (tVar 2) tNil))) (gSub (tVar 1) (tVar 2) (rSetU P w))))
    (tRet (tVar 1))))

def t_law_touched (P : Program) (w : World) (K : PySem.W.Frag) (n : Nm) (E : XK) : TS :=
  (tSeq (tAsg (tOp (rPlus K) (tCB (rListOf K) (tCons (tVar 2) tNil)) (tLst (tCons (tTupRgF (tRg1 (tDGet (tVar 0) (tC (.str "edges"))))) tNil))) (gName 4))
    (tSeq (tAsg (tC (.int 0)) (gName 5))
    (tSeq (tFor (iAny P w K (tVar 3)) (gName 6) (tAsg (tOp (rPlus K) (tVar 5) (tCB (rMinU K) (tCons (tLc (iAny P w K (tVar 4)) (gName 7) (tTest (tOp (rEqU P w K) (tLc (iAny P w K (tVar 6)) (gName 8) (tTest (tOp (rInU P w K true) (tVar 8) (tVar 7))) (tVar 8) [8]) (tLst tNil))) (tOp (rIxU P w K) (tVar 1) (tVar 7)) [7]) tNil))) (gName 5)))
    (tRet (tVar 5)))))

def t_law_tried (P : Program) (w : World) (K : PySem.W.Frag) (n : Nm) (E : XK) : TS :=
  (tSeq (tAsg (tLst (tCons (tTupF tNil) tNil)) (gName 3))
    (tSeq (tFor (iAny P w K (tCall (sp_law_all P w K n) [] E (tCons (tDGet (tVar 0) (tC (.str "edges"))) tNil))) (gName 4) (tIfS (tTest (tOp rLtI (tCB (rLenA P w K) (tCons (tVar 4) tNil)) (tDGet (tVar 0) (tC (.str "edges"))))) (tAsg (tOp (rPlus K) (tVar 3) (tLc (iAny P w K (tVar 3)) (gName 7) tYes (tOp (rPlus K) (tVar 7) (tTupF (tCons (tVar 4) tNil))) [7])) (gName 3)) tNext))
    (tSeq (tAsg (tCall (sp_law_sizes P w K n) [] E (tCons (tVar 0) tNil)) (gName 5))
    (tSeq (tAsg (tC .non) (gName 6))
    (tSeq (tFor (iAny P w K (tVar 3)) (gName 7) (tSeq (tAsg (tCB (rSum K) (tCons (tLc (iAny P w K (tVar 7)) (gName 4) tYes (tOp (rIxU P w K) (tVar 5) (tVar 4)) [4]) tNil)) (gName 8))
    (tIfS (tTest (tOp rLeI (tVar 8) (tVar 2))) (tSeq (tAsg (tTupF (tCons (tCall (sp_law_touched P w K n) [] E (tCons (tVar 0) (tCons (tVar 5) (tCons (tVar 7) (tCons (tVar 1) tNil))))) (tCons (tVar 8) (tCons (tCB (rListOf K) (tCons (tVar 7) tNil)) tNil)))) (gName 9))
    (tIfS (tOr (tTest (tOp rIsN (tVar 6) (tC .non))) (tTest (tOp (rLtDt K) (tVar 9) (tVar 6)))) (tAsg (tVar 9) (gName 6)) tNext)) tNext)))
    (tRet (tVar 6)))))))

def t_law_k05 (P : Program) (w : World) (K : PySem.W.Frag) (n : Nm) (E : XK) : TS :=
  (tSeq (tAsg (tLst (tCons (tVar 0) (tCons (tC (.int 0)) (tCons (tC (.int 0)) tNil)))) (gName 1))
    (tSeq (tAsg (tCall (sp_law_grown P w K n) [] E (tCons (tVar 1) (tCons (tC (.int 3)) (tCons (tC (.int 30)) tNil)))) (gName 2))
    (tSeq (tIfS (tTest (tOp rIsN (tVar 2) (tC .non))) (tRet (tC (.bl false))) tNext)
    (tSeq (tAsg (tVar 2) (gTup K 2 (gCons (gName 3) (gCons (gName 4) gNil))))
    (tSeq (tFor (iRng1 (tCons (tC (.int 2)) tNil)) (gName 5) (tSeq (tAsg (tLc (iRng1 (tCons (tCall (sp_law_taken P w K n) [] E (tCons (tVar 1) (tCons (tOp (rIxU P w K) (tLst (tCons (tC (.int 5)) (tCons (tC (.int 21)) tNil))) (tOp rDivI (tCall (sp_law_taken P w K n) [] E (tCons (tVar 1) (tCons (tC (.int 4)) tNil))) (tC (.int 3)))) tNil))) tNil)) (gName 11) tYes (tCall (sp_law_table P w K n) [] E (tCons (tVar 1) (tCons (tVar 4) tNil))) [11]) (gName 6))
    (tSeq (tAsg (tOp (rIxU P w K) (tLst (tCons (tCall (sp_law_taken P w K n) [] E (tCons (tVar 1) (tCons (tC (.int 30)) tNil))) (tCons (tC (.int 0)) (tCons (tOp rPowI (tC (.int 10)) (tC (.int 6))) tNil)))) (tCall (sp_law_taken P w K n) [] E (tCons (tVar 1) (tCons (tC (.int 3)) tNil)))) (gName 7))
    (tSeq (tAsg (tCB (rListOf K) (tCons (tVar 6) tNil)) (gName 8))
    (tSeq (tAsg (tCall (sp_chosen P w K n) [] E (tCons (tVar 3) (tCons (tVar 8) (tCons (tVar 7) tNil)))) (gName 9))
    (tSeq (tIfS (tOr (tNot (tB (tCall (sp_law_alike P w K n) [] E (tCons (tVar 9) (tCons (tCall (sp_law_tried P w K n) [] E (tCons (tVar 4) (tCons (tVar 6) (tCons (tVar 7) tNil)))) tNil))))) (tTest (tOp (rNeD K) (tVar 8) (tVar 6)))) (tRet (tC (.bl false))) tNext)
    (tSeq (tIfS (tNot (tB (tCall (sp_law_alike P w K n) [] E (tCons (tCall (sp_touched P w K n) [] E (tCons (tVar 3) (tCons (tCB (rListOf K) (tCons (tOp (rIxU P w K) (tVar 9) (tC (.int 2))) tNil)) (tCons (tVar 8) tNil)))) (tCons (tOp (rIxU P w K) (tVar 9) (tC (.int 0))) tNil))))) (tRet (tC (.bl false))) tNext)
    (tSeq (tAsg (tLc (iRng1 (tCons (tCall (sp_law_taken P w K n) [] E (tCons (tVar 1) (tCons (tC (.int 4)) tNil))) tNil)) (gName 11) tYes (tCall (sp_law_table P w K n) [] E (tCons (tVar 1) (tCons (tVar 4) tNil))) [11]) (gName 10))
    (tSeq (tIfS (tNot (tB (tCall (sp_law_alike P w K n) [] E (tCons (tCall (sp_touched P w K n) [] E (tCons (tVar 3) (tCons (tVar 10) (tCons (tVar 8) tNil)))) (tCons (tCall (sp_law_touched P w K n) [] E (tCons (tVar 4) (tCons (tCall (sp_law_sizes P w K n) [] E (tCons (tVar 4) tNil)) (tCons (tVar 10) (tCons (tVar 6) tNil))))) tNil))))) (tRet (tC (.bl false))) tNext)
    (tDrop (tBG P w K "list" rAppend (tOp (rIxU P w K) (tVar 9) (tC (.int 2))) (tCons (tC (.int 7)) tNil))))))))))))
    (tRet (tCall (sp_law_right P w K n) [] E (tCons (tVar 3) (tCons (tVar 4) tNil)))))))))

end KC
end

section
set_option Elab.async false
set_option linter.all false
set_option autoImplicit false
set_option maxRecDepth 100000
set_option maxHeartbeats 4000000
/-! The law k05. -/
namespace KC
open PySem L2 PySem.W PyProof.Rows
open Evl (Ex EvT)
/-! ### plain -/
theorem tab_lt {N : Nat} {L : List Int} (h : Tab N L) (hw : L ≠ rng N) : L.length < N := by
  have nd : L.Nodup := List.Pairwise.imp (fun {a b} q z => by omega) h.1
  have hsub : ∀ x ∈ L, x ∈ rng N := sub_mem (sub_rng h)
  have hl := nd_len nd hsub
  rw [rng_len] at hl
  by_cases z : L.length = N
  · exfalso
    refine hw (asc_unique h.1 (tab_rng N).1 fun k => ⟨hsub k, fun hk => ?_⟩)
    by_cases y : k ∈ L
    · exact y
    · have := nd_len (l := k :: L) (m := rng N) (List.nodup_cons.mpr ⟨y, nd⟩) fun x hx => by
        rcases List.mem_cons.mp hx with e | hx
        · rw [e]; exact hk
        · exact hsub x hx
      rw [List.length_cons, rng_len] at this
      omega
  · omega
theorem tab_ltB {N : Nat} {L : List Int} (h : Tab N L) : decide ((L.length : Int) < (N : Int)) = !decide (L = rng N) := by
  by_cases z : L = rng N
  · subst z
    rw [rng_len, decide_eq_true rfl, decide_eq_false (by omega)]; rfl
  · have := tab_lt h z
    rw [decide_eq_false z, decide_eq_true (by omega)]; rfl
theorem dle_tri {a b : Int × Int × List Int} (h : dle (triD a) (triD b) = true) : a.1 ≤ b.1 := by
  have h1 : (!(PyProof.Rows.lexLt itemOrd (keyToks (triD b)) (keyToks (triD a)))) = true := h
  rw [Bool.not_eq_true'] at h1
  have e : ∀ c : Int × Int × List Int, keyToks (triD c) = .inl 1 :: .inl c.1 :: keyToksAll [.int c.2.1, dT c.2.2] := fun c => by
    show keyToks (.tuple [.int c.1, .int c.2.1, dT c.2.2]) = _
    rw [keyToks, keyToksAll, keyToks]; rfl
  rw [e, e] at h1
  by_cases z : a.1 ≤ b.1
  · exact z
  · exfalso
    have z1 : b.1 < a.1 := by omega
    simp [PyProof.Rows.lexLt, itemLt, z1] at h1
theorem best_least {B : List (List Int × Int)} {Ts : List (List Int)} {T R : List Int} (hR : R ∈ Ts) (hs : sub T R = true) : cntT B (bestR B Ts T) ≤ cntT B R := by
  obtain ⟨x, rest, hx, hxb, _, _⟩ := rank_head (B := B) ⟨R, hR, hs⟩
  have hm : ((cntT B R : Int), (R.length : Int), R) ∈ rankL B Ts T := by
    unfold rankL srt3
    exact (List.mergeSort_perm _ _).mem_iff.mpr (List.mem_map.mpr ⟨R, List.mem_filter.mpr ⟨hR, hs⟩, rfl⟩)
  have hx1 := (rank_mem (B := B) (Ts := Ts) (T := T) (e := x) (by rw [hx]; exact List.mem_cons_self)).2.2.1
  have pw : ((rankL B Ts T).map triD).Pairwise (fun a b => dle a b = true) := by
    unfold rankL
    rw [srt3_map]
    exact sort_pairwise dle_total _
  rw [hx, List.map_cons, List.pairwise_cons] at pw
  rw [hx] at hm
  rw [hxb] at hx1
  rcases List.mem_cons.mp hm with q | q
  · rw [← q] at hx1
    have : (cntT B R : Int) = (cntT B (bestR B Ts T) : Int) := hx1
    omega
  · have := dle_tri (pw.1 _ (List.mem_map.mpr ⟨_, q, rfl⟩))
    rw [hx1] at this
    have : (cntT B (bestR B Ts T) : Int) ≤ (cntT B R : Int) := this
    omega
theorem touZ_snoc (B : List (List Int × Int)) (Ts Us : List (List Int)) {i : Nat} {U : List Int} (h : Us[i]? = some U) : touZ B Ts (Us.take (i + 1)) = touZ B Ts (Us.take i) + (cntT B (bestR B Ts U) : Int) := by
  unfold touZ
  rw [List.take_add_one, h, List.map_append, List.sum_append]
  simp
theorem rowZ_perm {B B' : List (List Int × Int)} (p : B.Perm B') (g : List (List Int)) : rowZ B g = rowZ B' g := by
  unfold rowZ
  rw [show (fun T => (cntT B T : Int)) = fun T => (cntT B' T : Int) from funext fun T => by rw [cntT_perm p]]
theorem touZ_perm {B B' : List (List Int × Int)} (p : B.Perm B') (Ts Us : List (List Int)) : touZ B Ts Us = touZ B' Ts Us := by
  unfold touZ
  rw [show (fun U => (cntT B (bestR B Ts U) : Int)) = fun U => (cntT B' (bestR B' Ts U) : Int) from funext fun U => by rw [bestR_perm p (List.Perm.refl _), cntT_perm p]]
theorem candL_congr {B B' : List (List Int × Int)} (p : B.Perm B') (n : Nat) (Us : List (List Int)) (room : Int) (L : List (List (List Int))) : candL B n Us room L = candL B' n Us room L := by
  unfold candL
  rw [show (fun g => decide (rowZ B g ≤ room)) = fun g => decide (rowZ B' g ≤ room) from funext fun g => by rw [rowZ_perm p], show cosC B n Us = cosC B' n Us from funext fun g => by unfold cosC; rw [rowZ_perm p, touZ_perm p]]
section
variable {P : Program} {w : World} {K : PySem.W.Frag} {mg : Str → Option Value} {n : Nm}
theorem len_law_sizes {vs : List V} {H : Hp} {Q : VK} {E : XK} (h : sp_law_sizes P w K n vs H Q E) : vs.length = 1 := by
  obtain ⟨_, rfl, _⟩ := h
  rfl
theorem len_law_touched {vs : List V} {H : Hp} {Q : VK} {E : XK} (h : sp_law_touched P w K n vs H Q E) : vs.length = 4 := by
  obtain ⟨_, _, _, _, _, _, rfl, _⟩ := h
  rfl
theorem len_law_tried {vs : List V} {H : Hp} {Q : VK} {E : XK} (h : sp_law_tried P w K n vs H Q E) : vs.length = 3 := by
  obtain ⟨_, _, _, _, rfl, _⟩ := h
  rfl
theorem pure_law_sizes {vs : List V} {H : Hp} {Q : VK} {E : XK} (T : Txt K mg n) (h : sp_law_sizes P w K n vs H Q E) : t_law_sizes P w K n E0 { nx := fun _ H' => Q .non H', rt := Q } (start ["_law_m", "_law_known", "_law_table_here"] vs) H := by
  obtain ⟨M, rfl, hM, hr, k⟩ := h
  have hn4 := hM.n4
  refine fun d hd0 => ?_
  have e1 : Ex H (upd H d (KDO P w d [])) := Ex.new hd0
  have hd1 : DAt P w encT vInt (upd H d (KDO P w d [])) d [] := dAt_new _ _ _
  show tSeq _ _ _ [some (.ref M.p), some (.ref d), none] _
  generalize upd H d (KDO P w d []) = H1 at e1 hd1
  have m1 := hM.ex e1
  have hall := evf_all (P := P) (w := w) (K := K) (n := n) (te := tDGet (tVar 0) (tC (.str "edges"))) (σ := [some (.ref M.p), some (.ref d), none]) (ev_medges (M := M) (ev_ref rfl) m1.ob) hn4
  refine s_seq (s_forF hall fun a xs H2 na e2 ha hx => ?_)
  have hd2 := hd1.ex mv_int e2
  have nad : a ≠ d := fun z => by
    obtain ⟨rows, q, _⟩ := hd1
    rw [← z, na] at q; cases q
  have back : ∀ H', Fr [d] H2 H' → Ex H H' := fun H' fr b o q => fr.1 _ _ (e2 _ _ (e1 _ _ q)) (by simpa using ne_of_none q hd0)
  refine ⟨fun j σ' H' => ∃ x2, σ' = [some (.ref M.p), some (.ref d), x2] ∧ Fr [d] H2 H' ∧ DAt P w encT vInt H' d (((allT M.n).take j).map fun T => (T, (cntT M.rows T : Int))), ⟨_, rfl, Fr.refl, hd2⟩, fun _ _ H' ⟨_, _, fr, _⟩ => fr.1 _ _ ha (by simpa using nad), fun j x σ' H' hj ⟨x2, hσ, fr, hD⟩ N kn => ?_, fun σ' H' ⟨x2, hσ, fr, hD⟩ => ?_⟩
  · subst hσ
    obtain ⟨dd, hd1', hd2'⟩ := IsDs.get hx hj
    rw [List.getElem?_map] at hd1'
    cases hLj : (allT M.n)[j]? with
    | none => rw [hLj] at hd1'; cases hd1'
    | some L =>
      rw [hLj] at hd1'
      cases hd1'
      have hL : Tab M.n L := allT_mem.mp (List.mem_of_getElem? hLj)
      have m' := hM.ex (back H' fr)
      have hx' := hd2'.mono fr.2
      show tAsg _ _ _ [some (.ref M.p), some (.ref d), some x] H'
      have gl := ev_size (P := P) (w := w) (K := K) (n := n) (M := M) (L := L) (σ := [some (.ref M.p), some (.ref d), some x]) (tm := tVar 0) (tt := tVar 2) (ev_ref rfl) (ev_var (v := x) rfl hx') m'.mr hL hr
      refine s_setD mv_int (d := d) (k := L) (x := (cntT M.rows L : Int)) gl (ev_ref rfl) (ev_K (ev_var (v := x) rfl hx')) (fun _ _ h => isInt_get h) hD (by rw [List.length_map]; have := allT_len hn4; rw [List.length_take]; omega) fun H3 f3 hd3 => ?_
      have hnew : L ∉ (((allT M.n).take j).map fun T => (T, (cntT M.rows T : Int))).map (·.1) := by
        rw [List.map_map]
        intro z
        obtain ⟨L', hM', e⟩ := List.mem_map.mp z
        have e : L' = L := e
        subst e
        have nd := allT_nd hn4
        rw [split_at hLj] at nd
        exact (List.nodup_append.mp nd).2.2 L' hM' L' List.mem_cons_self rfl
      rw [putG_app hnew] at hd3
      refine kn _ _ ⟨_, rfl, fr.trans f3, ?_⟩
      rw [List.take_add_one, hLj, List.map_append]
      exact hd3
  · subst hσ
    have hl := hx.length
    rw [List.length_map] at hl
    rw [hl, List.take_length] at hD
    exact ⟨.ref d, rfl, k d H' hd0 (back H' fr) hD⟩
theorem ev_lawSizes {σ : L2.St} {H : Hp} {te : TE} {M : MS} (hp : EvP te σ H (IsR (.ref M.p))) (hM : MAt P w H M) (hr : M.rows.length < 64) : EvP (tCall (sp_law_sizes P w K n) [] E0 (tCons te tNil)) σ H (fun H' v => ∃ d, v = .ref d ∧ DAt P w encT vInt H' d (sizL M.rows M.n)) :=
  ev_call (ps := [IsR (.ref M.p)]) (eas_cons hp eas_nil) fun vs H1 e1 hv Q k => by
    obtain ⟨u, rfl, p1⟩ := als1 hv
    have p1 : u = .ref M.p := p1
    subst p1
    exact ⟨M, rfl, hM.ex e1, hr, fun d H2 nd e2 hd => k _ H2 e2 ⟨d, rfl, hd⟩⟩
theorem pure_law_touched {vs : List V} {H : Hp} {Q : VK} {E : XK} (T : Txt K mg n) (h : sp_law_touched P w K n vs H Q E) : t_law_touched P w K n E0 { nx := fun _ H' => Q .non H', rt := Q } (start ["_law_m", "_law_known", "_law_tables", "_law_questions", "_law_some", "_law_found", "_law_table_here", "_law_one", "_law_edge"] vs) H := by
  obtain ⟨M, d, t, q, Ts, Us, rfl, hM, hd, ht, hq, hTs, hUs, hz, hu, k⟩ := h
  have hn4 := hM.n4
  have hcat := evf_cat (K := K) (σ := start ["_law_m", "_law_known", "_law_tables", "_law_questions", "_law_some", "_law_found", "_law_table_here", "_law_one", "_law_edge"] [.ref M.p, .ref d, t, q]) (H := H) (a := tCB (rListOf K) (tCons (tVar 2) tNil)) (b := tLst (tCons (tTupRgF (tRg1 (tDGet (tVar 0) (tC (.str "edges"))))) tNil)) (evf_listOf (ev_var (v := t) rfl ht)).m
    (evf_lst (ds := [dT (rng M.n)]) (eds_cons (ev_tupRg (te := tDGet (tVar 0) (tC (.str "edges"))) (ev_medges (M := M) (ev_ref rfl) hM.ob) (by omega)) eds_nil) (by simp)) (by rw [List.length_map, List.length_singleton]; omega)
  rw [show Ts.map dT ++ [dT (rng M.n)] = (Ts ++ [rng M.n]).map dT by rw [List.map_append]; rfl] at hcat
  refine s_asgF hcat fun a xs H1 na e1 ha hx => ?_
  show tSeq _ _ _ [some (.ref M.p), some (.ref d), some t, some q, some (.ref a), none, none, none, none] H1
  refine s_asg (ev_int 0) fun v5 H2 e2 h5 => ?_
  have h5 := isInt_get h5
  subst h5
  show tSeq _ _ _ [some (.ref M.p), some (.ref d), some t, some q, some (.ref a), some (.int 0), none, none, none] H2
  have e12 := e1.trans e2
  have ha2 := e2 _ _ ha
  have hx2 := hx.mono (Tp.of e2)
  have hall : ∀ R ∈ Ts ++ [rng M.n], Tab M.n R := fun R hR => by
    rcases List.mem_append.mp hR with z | z
    · exact hTs R z
    · rw [List.mem_singleton.mp z]; exact tab_rng _
  refine s_seq (s_forE (ev_var (p := IsSq K _) (v := q) rfl (Mn.mn e12 hq)) fun H3 e3 => ⟨fun j σ' H' => ∃ x6 x7 x8, σ' = [some (.ref M.p), some (.ref d), some t, some q, some (.ref a), some (.int (touZ M.rows (Ts ++ [rng M.n]) (Us.take j))), x6, x7, x8] ∧ Ex H3 H', ⟨_, _, _, rfl, Ex.refl _⟩, fun _ _ _ ⟨_, _, _, _, e⟩ => e, fun j dd v σ' H' hj hv ⟨x6, x7, x8, hσ, e4⟩ N kn => ?_, fun σ' H' ⟨x6, x7, x8, hσ, e4⟩ => ?_⟩)
  · subst hσ
    rw [List.getElem?_map] at hj
    cases hUj : Us[j]? with
    | none => rw [hUj] at hj; cases hj
    | some U =>
      rw [hUj] at hj
      cases hj
      have hUT := hUs U (List.mem_of_getElem? hUj)
      have hU4 := hUT.len hn4
      have eH := (e12.trans e3).trans e4
      have e24 := e3.trans e4
      have hd4 := hd.ex mv_int eH
      show tAsg _ _ _ [some (.ref M.p), some (.ref d), some t, some q, some (.ref a), some (.int (touZ M.rows (Ts ++ [rng M.n]) (Us.take j))), some v, x7, x8] H'
      have h1 := evf_lc (P := P) (w := w) (K := K) (g := gName 7) (tt := tTest (tOp (rEqU P w K) (tLc (iAny P w K (tVar 6)) (gName 8) (tTest (tOp (rInU P w K true) (tVar 8) (tVar 7))) (tVar 8) [8]) (tLst tNil))) (te := tOp (rIxU P w K) (tVar 1) (tVar 7)) (vs := [7]) (σ := [some (.ref M.p), some (.ref d), some t, some q, some (.ref a), some (.int (touZ M.rows (Ts ++ [rng M.n]) (Us.take j))), some v, x7, x8]) (H := H') (tl := tVar 4) dT (fun R => sub U R) (fun R => .int (cntT M.rows R : Nat)) (Ts ++ [rng M.n])
        (ev_var (p := IsL K _) rfl (isL_at (e24 _ _ ha2) (hx2.mono (Tp.of e24)))).sq (line1000 (by rw [List.length_append, List.length_singleton]; omega)) fun R hR u H5 e5 hu => turn_of (evt_test (ev_goes (by show 8 < 9; decide) (ev_var (v := v) rfl (hv.mono (Tp.of e5))) (by omega) fun u' H6 e6 => ev_var (v := u) rfl (hu.mono (Tp.of e6)))) fun _ =>
          ev_sizeAt (d := d) (ev_ref rfl) (ev_var (v := u) rfl hu) (hd4.ex mv_int e5) (siz_get hn4 (hall R hR))
      rw [rows_data] at h1
      have hex : ∃ R ∈ Ts ++ [rng M.n], sub U R = true := ⟨rng M.n, List.mem_append_right _ (List.mem_singleton.mpr rfl), sub_rng hUT⟩
      obtain ⟨x, rest, hx', hxb, hxT, hxs⟩ := rank_head (B := M.rows) hex
      rw [hxb] at hxT hxs
      have hmin := ev_minI (h1.l (K := K)) (m := (cntT M.rows (bestR M.rows (Ts ++ [rng M.n]) U) : Int)) (List.mem_map.mpr ⟨_, List.mem_filter.mpr ⟨hxT, hxs⟩, rfl⟩) fun y hy => by
        obtain ⟨R, hR, rfl⟩ := List.mem_map.mp hy
        have := List.mem_filter.mp hR
        have := best_least (B := M.rows) this.1 this.2
        omega
      refine (ev_add (K := K) (ev_vi (i := 5) (z := touZ M.rows (Ts ++ [rng M.n]) (Us.take j)) rfl) hmin) H' (Ex.refl _) _ fun v6 H6 e6 h6 => ?_
      have h6 := isInt_get h6
      subst h6
      rw [← touZ_snoc _ _ _ hUj]
      exact kn _ _ ⟨_, _, _, rfl, e4.trans e6⟩
  · subst hσ
    rw [List.length_map, List.take_length]
    exact ⟨_, rfl, k H' ((e12.trans e3).trans e4)⟩
theorem ev_lawTouched {σ : L2.St} {H : Hp} {tm td tt tq : TE} {M : MS} {Ts Us : List (List Int)} (hp : EvP tm σ H (IsR (.ref M.p))) (hd : EvP td σ H (fun H' v => ∃ d, v = .ref d ∧ DAt P w encT vInt H' d (sizL M.rows M.n))) (ht : EvP tt σ H (IsSq K (Ts.map dT))) (hq : EvP tq σ H (IsSq K (Us.map dT))) (hM : MAt P w H M) (hTs : ∀ T ∈ Ts, Tab M.n T) (hUs : ∀ U ∈ Us, Tab M.n U) (hz : Ts.length ≤ 400) (hu : Us.length ≤ 400) :
    EvP (tCall (sp_law_touched P w K n) [] E0 (tCons tm (tCons td (tCons tt (tCons tq tNil))))) σ H (Is (.int (touZ M.rows (Ts ++ [rng M.n]) Us))) := fun H1 e Q k =>
  hp H1 e _ fun u0 H2 e2 p0 => hd H2 (e.trans e2) _ fun u1 H3 e3 ⟨d, p1, hD⟩ => ht H3 ((e.trans e2).trans e3) _ fun u2 H4 e4 p2 => hq H4 (((e.trans e2).trans e3).trans e4) _ fun u3 H5 e5 p3 => by
    have p0 : u0 = .ref M.p := p0
    subst p0 p1
    show sp_law_touched P w K n ([.ref M.p, .ref d, u2, u3] ++ []) H5 Q E0
    rw [List.append_nil]
    have e15 := ((e2.trans e3).trans e4).trans e5
    exact ⟨M, d, u2, u3, Ts, Us, rfl, hM.ex (e.trans e15), (hD.ex mv_int e4).ex mv_int e5, Mn.mn e5 p2, p3, hTs, hUs, hz, hu, fun H6 e6 => k _ H6 (e15.trans e6) (IsD.int _)⟩
theorem pure_law_tried {vs : List V} {H : Hp} {Q : VK} {E : XK} (T : Txt K mg n) (h : sp_law_tried P w K n vs H Q E) : t_law_tried P w K n E0 { nx := fun _ H' => Q .non H', rt := Q } (start ["_law_m", "_law_questions", "_law_room", "_law_groups", "_law_table_here", "_law_known", "_law_best_here", "_law_group", "_law_rows", "_law_one"] vs) H := by
  obtain ⟨M, q, Us, room, rfl, hM, hr, hq, hUs, hn3, hu, hr0, k⟩ := h
  have hn4 := hM.n4
  refine s_asgF (evf_lst (ds := [grpD []]) (eds_cons (ev_tup (ds := []) eds_nil (by simp)) eds_nil) (by simp)) fun a xs H1 na e1 ha hx => ?_
  show tSeq _ _ _ [some (.ref M.p), some q, some (.int room), some (.ref a), none, none, none, none, none, none] H1
  have hall := evf_all (P := P) (w := w) (K := K) (n := n) (te := tDGet (tVar 0) (tC (.str "edges"))) (σ := [some (.ref M.p), some q, some (.int room), some (.ref a), none, none, none, none, none, none]) (ev_medges (M := M) (ev_ref rfl) (hM.ex e1).ob) hn4
  have tl : ∀ j, (((allT M.n).take j).filter fun T => !decide (T = rng M.n)).length ≤ 7 := fun j => by
    have h1 := tabsIn_len hn3
    unfold tabsIn at h1
    have : (((allT M.n).take j).filter fun T => !decide (T = rng M.n)).Sublist ((allT M.n).filter fun T => !decide (T = rng M.n)) := (List.take_sublist _ _).filter _
    exact Nat.le_trans this.length_le h1
  refine s_seq (s_forE (hall.l (K := K)).sq fun H2 e2 => ⟨fun j σ' H' => ∃ a xs x4 x7, σ' = [some (.ref M.p), some q, some (.int room), some (.ref a), x4, none, none, x7, none, none] ∧ Ex H2 H' ∧ H' a = some (.lst xs) ∧ IsDs H' xs ((groL (((allT M.n).take j).filter fun T => !decide (T = rng M.n))).map grpD), ⟨a, xs, _, _, rfl, Ex.refl _, e2 _ _ ha, hx.mono (Tp.of e2)⟩, fun _ _ _ ⟨_, _, _, _, _, e, _⟩ => e, fun j d v σ' H' hj hv ⟨b, ys, x4, x7, hσ, e3, hb, hy⟩ N kn => ?_, fun σ' H' ⟨b, ys, x4, x7, hσ, e3, hb, hy⟩ => ?_⟩)
  · subst hσ
    rw [List.getElem?_map] at hj
    cases hL : (allT M.n)[j]? with
    | none => rw [hL] at hj; cases hj
    | some L =>
      rw [hL] at hj
      cases hj
      have hLT := allT_mem.mp (List.mem_of_getElem? hL)
      have m3 := hM.ex ((e1.trans e2).trans e3)
      show tIfS _ _ _ _ [some (.ref M.p), some q, some (.int room), some (.ref b), some v, none, none, x7, none, none] H'
      have gl := ev_len (P := P) (w := w) (K := K) (σ := [some (.ref M.p), some q, some (.int room), some (.ref b), some v, none, none, x7, none, none]) (H := H') (a := tVar 4) ((ev_var (p := Is (dT L)) (v := v) rfl hv).tq)
      rw [List.length_map] at gl
      have hlt := evt_test (ev_lt gl (ev_medges (M := M) (td := tVar 0) (ev_ref rfl) m3.ob))
      rw [tab_ltB hLT] at hlt
      refine s_if hlt (fun hz H4 e4 => ?_) fun hz H4 e4 => ?_
      · have hb4 := e4 _ _ hb
        have hy4 := hy.mono (Tp.of e4)
        have htl := tl j
        have h2 := evf_lc (P := P) (w := w) (K := K) (g := gName 7) (tt := tYes) (te := tOp (rPlus K) (tVar 7) (tTupF (tCons (tVar 4) tNil))) (vs := [7]) (σ := [some (.ref M.p), some q, some (.int room), some (.ref b), some v, none, none, x7, none, none]) (H := H4) (tl := tVar 3) grpD (fun _ => true) (fun g => grpD (g ++ [L])) (groL (((allT M.n).take j).filter fun T => !decide (T = rng M.n))) ((ev_var (p := IsL K _) rfl (isL_at hb4 hy4)).sq) (line1000 (by have := groL_small htl; omega)) fun g hg u H3 e5 hu => turn_of evt_yes fun _ => by
          have hgl := groL_glen _ g hg
          have := ev_cat (K := K) (ds := g.map dT) (es := [dT L]) (a := tVar 7) (b := tTupF (tCons (tVar 4) tNil)) (σ := ((wipe [some (.ref M.p), some q, some (.int room), some (.ref b), some v, none, none, x7, none, none] [7]).set 7 (some u))) (H := H3) (ev_var (v := u) rfl hu) (ev_tup (eds_cons (ev_var (p := Is (dT L)) (v := v) rfl (hv.mono (Tp.of (e4.trans e5)))) eds_nil) (by simp)) (by rw [List.length_map, List.length_singleton]; omega)
          rw [grp_snoc] at this
          exact this
        rw [filter_all] at h2
        have h3 := evf_cat (K := K) (a := tVar 3) (ev_var (p := IsM _) rfl (m_at hb4 hy4)) h2 (by rw [List.length_map, List.length_map]; have := groL_small htl; omega)
        refine h3 H4 (Ex.refl _) _ fun c zs H5 nc e5 hc hzs => kn _ _ ⟨c, zs, _, _, rfl, (e3.trans e4).trans e5, hc, ?_⟩
        rw [filter_take_one _ _ hL, if_pos hz]
        unfold groL
        rw [List.foldl_append]
        show IsDs H5 zs ((groN _ L).map grpD)
        unfold groN
        rw [List.map_append, List.map_map]
        exact hzs
      · refine kn _ _ ⟨b, ys, _, _, rfl, e3.trans e4, e4 _ _ hb, ?_⟩
        rw [filter_take_one _ _ hL, if_neg (by rw [hz]; exact Bool.false_ne_true), List.append_nil]
        exact hy.mono (Tp.of e4)
  · subst hσ
    rw [List.length_map, List.take_length] at hy
    have hy : IsDs H' ys ((groL (tabsIn M.n)).map grpD) := hy
    have eH := (e1.trans e2).trans e3
    show tSeq _ _ _ [some (.ref M.p), some q, some (.int room), some (.ref b), x4, none, none, x7, none, none] H'
    refine s_asg (ev_lawSizes (M := M) (ev_ref rfl) (hM.ex eH) hr) fun v5 H4 e4 ⟨d, ev5, hd⟩ => ?_
    subst ev5
    show tSeq _ _ _ [some (.ref M.p), some q, some (.int room), some (.ref b), x4, some (.ref d), none, x7, none, none] H4
    refine s_asg (ev_c .non) fun v6 H5 e5 h6 => ?_
    have h6 : v6 = .non := h6
    subst h6
    show tSeq _ _ _ [some (.ref M.p), some q, some (.int room), some (.ref b), x4, some (.ref d), some .non, x7, none, none] H5
    have e35 := e4.trans e5
    have hGl : (groL (tabsIn M.n)).length ≤ 128 := groL_small (tabsIn_len hn3)
    have hgT : ∀ g ∈ groL (tabsIn M.n), ∀ T ∈ g, Tab M.n T := fun g hg T hT => tabsIn_tab (groL_sub _ g hg T hT)
    refine s_seq (s_forE (ev_var (p := IsL K _) rfl (isL_at (e35 _ _ hb) (hy.mono (Tp.of e35)))).sq fun H7 e7 => ⟨fun j σ' H' => ∃ x4 v6 x7 x8 x9, σ' = [some (.ref M.p), some q, some (.int room), some (.ref b), x4, some (.ref d), some v6, x7, x8, x9] ∧ Ex H7 H' ∧ BestAt H (bestC (candL M.rows M.n Us room ((groL (tabsIn M.n)).take j))) H' v6, ⟨_, _, _, _, _, rfl, Ex.refl _, rfl⟩, fun _ _ _ ⟨_, _, _, _, _, _, e, _⟩ => e, fun j dd v σ' H' hj hv ⟨y4, v6, y7, y8, y9, hσ, e8, hB⟩ N kn => ?_, fun σ' H' ⟨y4, v6, y7, y8, y9, hσ, e8, hB⟩ => ?_⟩)
    · subst hσ
      rw [List.getElem?_map] at hj
      cases hgj : (groL (tabsIn M.n))[j]? with
      | none => rw [hgj] at hj; cases hj
      | some g =>
        rw [hgj] at hj
        cases hj
        have hgm := List.mem_of_getElem? hgj
        have hgT' := hgT g hgm
        have hgl : g.length ≤ 7 := Nat.le_trans (groL_glen _ g hgm) (tabsIn_len hn3)
        have eH' : Ex H H' := ((eH.trans e35).trans e7).trans e8
        have m8 := hM.ex eH'
        have hd8 := ((hd.ex mv_int e5).ex mv_int e7).ex mv_int e8
        show tSeq _ _ _ [some (.ref M.p), some q, some (.int room), some (.ref b), y4, some (.ref d), some v6, some v, y8, y9] H'
        have h1 := evf_lc (P := P) (w := w) (K := K) (g := gName 4) (tt := tYes) (te := tOp (rIxU P w K) (tVar 5) (tVar 4)) (vs := [4]) (σ := [some (.ref M.p), some q, some (.int room), some (.ref b), y4, some (.ref d), some v6, some v, y8, y9]) (H := H') (tl := tVar 7) dT (fun _ => true) (fun T => .int (cntT M.rows T : Nat)) g ((ev_var (p := Is (grpD g)) (v := v) rfl hv).tq) (line1000 (by omega)) fun L hL u H3 e3 hu => turn_of evt_yes fun _ => ev_sizeAt (d := d) (ev_ref rfl) (ev_var (v := u) rfl hu) (hd8.ex mv_int e3) (siz_get hn4 (hgT' L hL))
        rw [filter_all, rows_data] at h1
        refine s_asg (ev_sum (h1.l (K := K))) fun v8 H9 e9 h8 => ?_
        have h8 := isInt_get h8
        subst h8
        show tIfS _ _ _ _ [some (.ref M.p), some q, some (.int room), some (.ref b), y4, some (.ref d), some v6, some v, some (.int (rowZ M.rows g)), y9] H9
        have hle : EvT (tTest (tOp rLeI (tVar 8) (tVar 2))) [some (.ref M.p), some q, some (.int room), some (.ref b), y4, some (.ref d), some v6, some v, some (.int (rowZ M.rows g)), y9] H9 (decide (rowZ M.rows g ≤ room)) := evt_test (ev_le (ev_vi rfl) (ev_vi rfl))
        refine s_if hle (fun hz H10 e10 => ?_) fun hz H10 e10 => ?_
        · have e810 := (e8.trans e9).trans e10
          have eH10 := (eH'.trans e9).trans e10
          have hv10 := (hv.mono (Tp.of e9)).mono (Tp.of e10)
          have htb := ev_lawTouched (P := P) (w := w) (K := K) (n := n) (σ := [some (.ref M.p), some q, some (.int room), some (.ref b), y4, some (.ref d), some v6, some v, some (.int (rowZ M.rows g)), y9]) (H := H10) (tm := tVar 0) (td := tVar 5) (tt := tVar 7) (tq := tVar 1) (M := M) (Ts := g) (Us := Us) (ev_ref rfl)
            (fun H1 e Q k => ⟨.ref d, rfl, k _ H1 (Ex.refl _) ⟨d, rfl, ((hd8.ex mv_int e9).ex mv_int e10).ex mv_int e⟩⟩) ((ev_var (p := Is (grpD g)) (v := v) rfl hv10).tq) (ev_var (v := q) rfl (Mn.mn eH10 hq)) (m8.ex (e9.trans e10)) hgT' hUs (by omega) (by omega)
          have hcost := ev_cost (H0 := H) htb (ev_vi (i := 8) (z := rowZ M.rows g) rfl) (evf_listOf (K := K) ((ev_var (p := Is (grpD g)) (i := 7) (v := v) rfl hv10).tq)) eH10
          refine s_try (K := K) (H0 := H) (ib := 6) (ic := 9) (vb := v6) (b := bestC (candL M.rows M.n Us room ((groL (tabsIn M.n)).take j))) (c := cosC M.rows M.n Us g) (Mn.mn (e9.trans e10) hB) hcost (fun _ => rfl) (fun _ => rfl) (fun u H11 e11 hb => kn _ _ ⟨_, _, _, _, _, rfl, e810.trans e11, ?_⟩) fun u H11 e11 hb => kn _ _ ⟨_, _, _, _, _, rfl, e810.trans e11, ?_⟩
          · rw [candL_snoc _ _ _ _ _ hgj, if_pos hz, bestC_snoc]; exact hb
          · rw [candL_snoc _ _ _ _ _ hgj, if_pos hz, bestC_snoc]; exact hb
        · refine kn _ _ ⟨_, _, _, _, _, rfl, (e8.trans e9).trans e10, ?_⟩
          rw [candL_snoc _ _ _ _ _ hgj, if_neg (by rw [hz]; exact Bool.false_ne_true), List.append_nil]
          exact Mn.mn (e9.trans e10) hB
    · subst hσ
      rw [List.length_map, List.take_length] at hB
      obtain ⟨c, hcb⟩ := cand_some (B := M.rows) (n := M.n) (Us := Us) (room := room) (groL_nil_mem (tabsIn M.n)) hr0
      rw [hcb] at hB
      exact ⟨v6, rfl, k c v6 H' hcb (((eH.trans e35).trans e7).trans e8) hB⟩
/-! ### tables drawn -/
theorem cons_c {v : V} {ta : TA} {σ : L2.St} {H : Hp} {Q : List V → Hp → Prop} (h : ta σ H fun xs H2 => Q (v :: xs) H2) : tCons (tC v) ta σ H Q := h
theorem cons_e {te : TE} {ta : TA} {σ : L2.St} {H : Hp} {Q : List V → Hp → Prop} (h : te σ H fun x H1 => ta σ H1 fun xs H2 => Q (x :: xs) H2) : tCons te ta σ H Q := h
theorem x_lcR {te tb : TE} {σ : L2.St} {H : Hp} {Q : VK} {g : TG} {tt : TT} {vs : List Nat} (h : te σ H fun x H1 => tLc (iRng1 fun _ H' Q => Q [x] H') g tt tb vs σ H1 Q) : tLc (iRng1 (tCons te tNil)) g tt tb vs σ H Q := h
theorem lc_tables {σ : L2.St} {H : Hp} {Q : VK} {tr tm : TE} {jv : Nat} {r s : Addr} {M : MS} {i : Int} (hR : RowAt K H r s) (hM : MAt P w H M) (hrM : r ∉ M.foot) (hi0 : 0 ≤ i) (hi1 : i ≤ 1000) (hr : ∀ k H', EvP tr ((wipe σ [jv]).set jv (some (.int k))) H' (IsR (.ref r))) (hm : ∀ k H', EvP tm ((wipe σ [jv]).set jv (some (.int k))) H' (IsR (.ref M.p))) (hw : ∀ k : Int, wipe ((wipe σ [jv]).set jv (some (.int k))) [jv] = wipe σ [jv])
    (k : ∀ (a : Addr) (xs : List V) (Ts : List (List Int)) (H' : Hp), H a = none → Fr [r] H H' → RowAt K H' r s → H' a = some (.lst xs) → IsDs H' xs (Ts.map dT) → (∀ T ∈ Ts, Tab M.n T) → Ts.length = i.toNat → Q (.ref a) H') :
    tLc (iRng1 fun _ H' Q => Q [.int i] H') (gName jv) tYes (tCall (sp_law_table P w K n) [] E0 (tCons tr (tCons tm tNil))) [jv] σ H Q := by
  have hMr : ∀ b ∈ M.foot, b ∉ [r] := fun b hb => by
    simp only [List.mem_singleton]
    exact fun z => hrM (z ▸ hb)
  refine ⟨i, rfl, by omega, by omega, fun D hD => lc_range (lo := 0) (n := i.toNat) (fun q H' => Fr [r] H H' ∧ RowAt K H' r s ∧ ∃ (xs : List V) (Ts : List (List Int)), H' D = some (.lst xs) ∧ IsDs H' xs (Ts.map dT) ∧ (∀ T ∈ Ts, Tab M.n T) ∧ Ts.length = q) ?_ (fun q H' hq ⟨f, hR', xs, Ts, hx, hds, hT, hl⟩ => ?_) fun H' ⟨f, hR', xs, Ts, hx, hds, hT, hl⟩ => k D xs Ts H' hD f hR' hx hds hT hl⟩
  · exact ⟨Fr.ex (Ex.new hD), hR.ex (Ex.new hD), [], [], upd_same, .nil, fun T hT => (by cases hT), rfl⟩
  · have hDr := (row_ne hR hD).symm
    refine ⟨hw _, ?_⟩
    refine x_call (ps := [IsR (.ref r), IsR (.ref M.p)]) (eas_cons (hr _ _) (eas_cons (hm _ _) eas_nil)) fun vs H2 e2 hv => ?_
    obtain ⟨u1, u2, rfl, p1, p2⟩ := als2 hv
    have p1 : u1 = .ref r := p1
    have p2 : u2 = .ref M.p := p2
    subst p1 p2
    refine ⟨r, s, M, rfl, hR'.ex e2, (hM.fr f hMr).ex e2, hrM, fun v T H3 f3 hR3 hv hTt => ?_⟩
    have f03 := (f.trans (Fr.ex e2)).trans f3
    have hx3 : H3 D = some (.lst xs) := f3.1 _ _ (e2 _ _ hx) (by simpa using hDr)
    have hl0 := line0
    have hxl : xs.length = Ts.length := by rw [hds.length, List.length_map]
    have t4 : Tp H3 (upd H3 D (.lst (xs ++ [v]))) := tp_lst hx3
    refine ⟨xs, hx3, by omega, f03.new hD t4, hR.new hD hR3, xs ++ [v], Ts ++ [T], upd_same, ?_, fun U hU => ?_, by rw [List.length_append, List.length_singleton]; omega⟩
    · rw [List.map_append]
      exact (((hds.mono (Tp.of e2)).mono f3.2).snoc hv).mono t4
    · rcases List.mem_append.mp hU with z | z
      · exact hT U z
      · rw [List.mem_singleton.mp z]; exact hTt
theorem isO_of {H : Hp} {a : Addr} {xs : List V} {ds : List PyData} (h : H a = some (.lst xs)) (hs : IsDs H xs ds) : IsO ds H (.ref a) := ⟨a, xs, rfl, h, hs⟩
theorem sh_tabs (Ts : List (List Int)) : Sh (.list (Ts.map dT)) := (sh_listD (k := 1) (fun d hd => by
  obtain ⟨T, _, rfl⟩ := List.mem_map.mp hd
  exact sh_dT T) (by omega)).1
theorem small_tabs {Ts : List (List Int)} (h : Ts.length ≤ 1000) (hT : ∀ T ∈ Ts, T.length ≤ 1000) : smallD (.list (Ts.map dT)) = true := small_list (by rw [List.length_map]; exact h) fun d hd => by
  obtain ⟨T, hT', rfl⟩ := List.mem_map.mp hd
  exact small_T (hT T hT')
theorem small_cos {c : Cand} (h : c.2.2.length ≤ 1000) (hT : ∀ T ∈ c.2.2, T.length ≤ 1000) : smallD (cosD c) = true := by
  have h1 := small_tabs h hT
  unfold cosD
  rw [smallD, smallAll, smallAll, smallAll, smallAll, h1, smallD, smallD]; rfl
/-- a call of touched -/
theorem ev_touched {σ : L2.St} {H : Hp} {tc tt tq : TE} {S : CS} {Ts Us : List (List Int)} (hp : EvP tc σ H (IsR (.ref S.p))) (ht : EvP tt σ H (IsSq K (Ts.map dT))) (hq : EvP tq σ H (IsSq K (Us.map dT))) (hc : CubeAt P w n.cube H S) (hTs : ∀ T ∈ Ts, Tab S.n T) (hUs : ∀ U ∈ Us, Tab S.n U) (hz : Ts.length ≤ 400) (hu : Us.length ≤ 400) :
    EvP (tCall (sp_touched P w K n) [] E0 (tCons tc (tCons tt (tCons tq tNil)))) σ H (Is (.int (touZ S.B (Ts ++ [rng S.n]) Us))) :=
  ev_call (ps := [IsR (.ref S.p), IsSq K (Ts.map dT), IsSq K (Us.map dT)]) (eas_cons hp (eas_cons ht (eas_cons hq eas_nil))) fun vs H1 e1 hv Q k => by
    obtain ⟨u1, u2, u3, rfl, p1, p2, p3⟩ := als3 hv
    have p1 : u1 = .ref S.p := p1
    subst p1
    exact ⟨S, u2, u3, Ts, Us, rfl, hc.ex e1, p2, p3, hTs, hUs, hz, hu, fun H2 e2 => k _ H2 e2 (IsD.int _)⟩
theorem ev_right {σ : L2.St} {H : Hp} {tc tm : TE} {S : CS} {M : MS} (hp : EvP tc σ H (IsR (.ref S.p))) (hm : EvP tm σ H (IsR (.ref M.p))) (hB : Both P w n.cube H S M) (hr : M.rows.length < 64) : EvP (tCall (sp_law_right P w K n) [] E0 (tCons tc (tCons tm tNil))) σ H (Is (.bool true)) :=
  ev_call (ps := [IsR (.ref S.p), IsR (.ref M.p)]) (eas_cons hp (eas_cons hm eas_nil)) fun vs H11 e11 hv Q' k' => by
    obtain ⟨u1, u2, rfl, p1, p2⟩ := als2 hv
    have p1 : u1 = .ref S.p := p1
    have p2 : u2 = .ref M.p := p2
    subst p1 p2
    exact ⟨S, M, rfl, hB.ex e11, hr, fun H12 e12 => k' _ H12 e12 (IsD.bl true)⟩
theorem pure_law_k05 {vs : List V} {H : Hp} {Q : VK} {E : XK} (T : Txt K mg n) (h : sp_law P w K n vs H Q E) : t_law_k05 P w K n E0 { nx := fun _ H' => Q .non H', rt := Q } (start ["_law_script", "_law_row", "_law_grown_here", "_law_cube", "_law_m", "_law_turn", "_law_questions", "_law_room", "_law_handed", "_law_found", "_law_tables", "_law_k"] vs) H := by
  obtain ⟨a, ns, rfl, hS, hl, k⟩ := h
  refine s_grown (rest := [none, none, none, none, none, none, none]) 3 30 rfl rfl (by decide) (by decide) (by decide) hS hl fun r g S M H1 T1 hMn => ?_
  show tSeq _ _ _ [some (.ref a), some (.ref r), some (.ref g), some (.ref S.p), some (.ref M.p), none, none, none, none, none, none, none] H1
  refine s_seq (s_forR (n := 2) (ev_int 2) (by omega) (fun j σ' H' => ∃ x5 x6 x7 x8 x9 x10 x11, σ' = [some (.ref a), some (.ref r), some (.ref g), some (.ref S.p), some (.ref M.p), x5, x6, x7, x8, x9, x10, x11] ∧ Turn0 P w K n.cube r a S.p M.p 30 H' S M) (fun H' e => ⟨_, _, _, _, _, _, _, rfl, T1.ex e⟩) (fun j σ' H2 hj ⟨x5, x6, x7, x8, x9, x10, x11, hσ, T2⟩ N kn => ?_) fun σ' H2 ⟨x5, x6, x7, x8, x9, x10, x11, hσ, T2⟩ => ?_)
  · subst hσ
    have hMr : M.rows.length ≤ 30 := T2.rows
    have hnn := T2.both.nn
    have hn4 := T2.both.m.n4
    have hn3 : M.n ≤ 3 := hMn
    have hbb := T2.both.bb
    show tSeq _ _ _ [some (.ref a), some (.ref r), some (.ref g), some (.ref S.p), some (.ref M.p), some (.int (j : Nat)), x6, x7, x8, x9, x10, x11] H2
    -- the questions
    refine s_rawAsg (x_lcR ⟨.ref r, rfl, ?_⟩)
    refine ⟨by show 2 ≤ sizeLine; decide, fun A hA => ?_⟩
    have e3 : Ex H2 (upd H2 A (.lst [.int 5, .int 21])) := Ex.new hA
    have hA3 : (upd H2 A (.lst [.int 5, .int 21])) A = some (.lst [.int 5, .int 21]) := upd_same
    have nAr := (row_ne T2.row hA).symm
    have T3 := T2.ex e3
    generalize upd H2 A (.lst [.int 5, .int 21]) = H3 at e3 hA3 T3
    refine x_taken T3.row (ev_ref rfl) (ev_int 4) (by decide) fun b1 H4 f4 hR4 q1 q2 => ?_
    have T4 := T3.fr f4 hR4
    refine ⟨b1, 3, rfl, rfl, ⟨by omega, by omega⟩, ?_⟩
    have hA4 : H4 A = _ := f4.1 _ _ hA3 (by simpa using nAr)
    obtain ⟨y, hy, hy1, hy2⟩ : ∃ y : Int, ([.int 5, .int 21] : List V)[(b1 / 3).toNat]? = some (.int y) ∧ 0 < y ∧ y ≤ 21 := by
      have : (b1 / 3).toNat = 0 ∨ (b1 / 3).toNat = 1 := by omega
      rcases this with e | e <;> rw [e]
      · exact ⟨_, rfl, by omega, by omega⟩
      · exact ⟨_, rfl, by omega, by omega⟩
    have eb1 : (b1 / 3) = (((b1 / 3).toNat : Nat) : Int) := by omega
    refine .inl ⟨A, _, b1 / 3, .int y, rfl, rfl, .inl (.inl hA4), by rw [eb1]; exact atI_nat hy, ?_⟩
    refine ⟨r, a, y, rfl, T4.row, hy1, fun cnt H5 f5 hR5 c0 c1 => ?_⟩
    have T5 := T4.fr f5 hR5
    refine lc_tables (M := M) T5.row T5.both.m T5.rM c0 (by omega) (fun _ _ => ev_ref rfl) (fun _ _ => ev_ref rfl) (fun _ => rfl) fun qa qs Us H6 nqa f6 hR6 hqa hqs hUs hUl => ?_
    have T6 := T5.fr f6 hR6
    show tSeq _ _ _ [some (.ref a), some (.ref r), some (.ref g), some (.ref S.p), some (.ref M.p), some (.int (j : Nat)), some (.ref qa), x7, x8, x9, x10, x11] H6
    -- the room
    have hroom : ∀ (D : Ends) (u : TS), (∀ room H7, 0 ≤ room → Fr [r] H6 H7 → RowAt K H7 r a → u D [some (.ref a), some (.ref r), some (.ref g), some (.ref S.p), some (.ref M.p), some (.int (j : Nat)), some (.ref qa), some (.int room), x8, x9, x10, x11] H7) → tSeq (tAsg (tOp (rIxU P w K) (tLst (tCons (tCall (sp_law_taken P w K n) [] E0 (tCons (tVar 1) (tCons (tC (.int 30)) tNil))) (tCons (tC (.int 0)) (tCons (tOp rPowI (tC (.int 10)) (tC (.int 6))) tNil)))) (tCall (sp_law_taken P w K n) [] E0 (tCons (tVar 1) (tCons (tC (.int 3)) tNil)))) (gName 7)) u D [some (.ref a), some (.ref r), some (.ref g), some (.ref S.p), some (.ref M.p), some (.int (j : Nat)), some (.ref qa), x7, x8, x9, x10, x11] H6 := by
      intro D u ku
      refine s_rawAsg ?_
      refine x_taken T6.row (ev_ref rfl) (ev_int 30) (by decide) fun a1 H7 f7 hR7 p1 p2 => ?_
      refine cons_c (cons_e ((ev_pow (i := 10) (j := 6) (ev_int 10) (ev_int 6) ⟨by decide, by decide, by decide⟩) H7 (Ex.refl _) _ fun u5 H8 e8 h5 => ?_))
      have h5 := isInt_get h5
      subst h5
      refine ⟨by show 3 ≤ sizeLine; decide, fun B hB => ?_⟩
      have e9 : Ex H8 (upd H8 B (.lst [.int a1, .int 0, .int ((10 : Int) ^ (6 : Int).toNat)])) := Ex.new hB
      have hB9 : (upd H8 B (.lst [.int a1, .int 0, .int ((10 : Int) ^ (6 : Int).toNat)])) B = some (.lst [.int a1, .int 0, .int ((10 : Int) ^ (6 : Int).toNat)]) := upd_same
      have hR9 := (hR7.ex e8).ex e9
      have nBr := (row_ne (hR7.ex e8) hB).symm
      generalize upd H8 B (.lst [.int a1, .int 0, .int ((10 : Int) ^ (6 : Int).toNat)]) = H9 at e9 hB9 hR9
      refine x_taken hR9 (ev_ref rfl) (ev_int 3) (by decide) fun b2 H10 f10 hR10 q3 q4 => ?_
      have hB10 : H10 B = _ := f10.1 _ _ hB9 (by simpa using nBr)
      obtain ⟨z, hz, hz0⟩ : ∃ z : Int, ([.int a1, .int 0, .int ((10 : Int) ^ (6 : Int).toNat)] : List V)[b2.toNat]? = some (.int z) ∧ 0 ≤ z := by
        have : b2.toNat = 0 ∨ b2.toNat = 1 ∨ b2.toNat = 2 := by omega
        rcases this with e | e | e <;> rw [e]
        · exact ⟨_, rfl, p1⟩
        · exact ⟨_, rfl, by omega⟩
        · exact ⟨_, rfl, by decide⟩
      have eb2 : b2 = ((b2.toNat : Nat) : Int) := by omega
      refine .inl ⟨B, _, b2, .int z, rfl, rfl, .inl (.inl hB10), by rw [eb2]; exact atI_nat hz, ?_⟩
      exact ku z H10 hz0 (((f7.trans (Fr.ex e8)).trans (Fr.ex e9)).trans f10) hR10
    refine hroom _ _ fun room H7 hr0 f7 hR7 => ?_
    clear hroom
    have T7 := T6.fr f7 hR7
    have nqr : qa ≠ r := fun z => row_some T5.row (z ▸ nqa)
    have hq7 : H7 qa = some (.lst qs) := f7.1 _ _ hqa (by simpa using nqr)
    have hqs7 := hqs.mono f7.2
    have hUl20 : Us.length ≤ 20 := by omega
    have hUs' : ∀ U ∈ Us, Tab S.n U := fun U hU => by rw [hnn]; exact hUs U hU
    -- what is handed in
    refine s_asgF (evf_listOf (K := K) (ev_var (p := IsL K _) rfl (isL_at hq7 hqs7)).sq) fun h8a h8s H8 n8 e8 h8h h8d => ?_
    have T8 := T7.ex e8
    show tSeq _ _ _ [some (.ref a), some (.ref r), some (.ref g), some (.ref S.p), some (.ref M.p), some (.int (j : Nat)), some (.ref qa), some (.int room), some (.ref h8a), x9, x10, x11] H8
    -- what is chosen
    obtain ⟨c, hcb⟩ := cand_some (B := S.B) (n := S.n) (Us := Us) (room := room) ((srtG_perm (groL (tabsIn S.n))).mem_iff.mpr (groL_nil_mem _)) hr0
    have hcb' : bestC (candL M.rows M.n Us room (groL (tabsIn M.n))) = some c := by
      rw [← hcb, ← hnn, ← candL_congr hbb]
      exact bestC_perm (candL_perm (srtG_perm _).symm)
    have hcm : c.2.2 ∈ srtG (groL (tabsIn S.n)) ∧ c.1 = touZ S.B (c.2.2 ++ [rng S.n]) Us := by
      have h1 := ((bestC_ok _).2 c hcb).1
      obtain ⟨g', hg', rfl⟩ := List.mem_map.mp h1
      exact ⟨(List.mem_filter.mp hg').1, rfl⟩
    have hcT := group_tab hcm.1
    have hcl : c.2.2.length ≤ 7 := Nat.le_trans (groL_glen _ _ ((srtG_perm _).mem_iff.mp hcm.1)) (tabsIn_len (by omega))
    refine s_asg (ev_chosen (H0 := H8) (S := S) (Us := Us) (room := room) (ev_ref rfl) (ev_var (p := IsL K _) (i := 8) rfl (isL_at h8h h8d)).sq (ev_vi rfl) T8.both.c hUs' (by omega) hUl20 hr0 hcb (Ex.refl _)) fun v9 H9 e9 h9 => ?_
    have T9 := T8.ex e9
    show tSeq _ _ _ [some (.ref a), some (.ref r), some (.ref g), some (.ref S.p), some (.ref M.p), some (.int (j : Nat)), some (.ref qa), some (.int room), some (.ref h8a), some v9, x10, x11] H9
    have e79 := e8.trans e9
    have hq9 := e79 _ _ hq7
    have hqs9 := hqs7.mono (Tp.of e79)
    have hh9 := e9 _ _ h8h
    have hhd9 := h8d.mono (Tp.of e9)
    have htried : EvP (tCall (sp_law_tried P w K n) [] E0 (tCons (tVar 4) (tCons (tVar 6) (tCons (tVar 7) tNil)))) [some (.ref a), some (.ref r), some (.ref g), some (.ref S.p), some (.ref M.p), some (.int (j : Nat)), some (.ref qa), some (.int room), some (.ref h8a), some v9, x10, x11] H9 (IsV K (cosD c)) :=
      ev_call (ps := [IsR (.ref M.p), IsSq K (Us.map dT), Is (.int room)]) (eas_cons (ev_ref rfl) (eas_cons (ev_var (p := IsL K _) rfl (isL_at hq9 hqs9)).sq (eas_cons (ev_vi rfl) eas_nil))) fun vs H10 e10 hv Q' k' => by
        obtain ⟨u1, u2, u3, rfl, p1, p2, p3⟩ := als3 hv
        have p1 : u1 = .ref M.p := p1
        have p3 := isInt_get p3
        subst p1 p3
        refine ⟨M, u2, Us, room, rfl, T9.both.m.ex e10, by omega, p2, hUs, hn3, hUl20, hr0, fun c' v H11 hb' e11 hv' => ?_⟩
        rw [hcb'] at hb'
        cases hb'
        exact k' v H11 e11 hv'.dx
    have hal1 := ev_alike (P := P) (w := w) (K := K) (n := n) (d := cosD c) (p := CostAt H8 c) (q := IsV K (cosD c)) (ev_var (i := 9) (σ := [some (.ref a), some (.ref r), some (.ref g), some (.ref S.p), some (.ref M.p), some (.int (j : Nat)), some (.ref qa), some (.int room), some (.ref h8a), some v9, x10, x11]) (v := v9) rfl h9) htried (fun _ _ h => h.dx) (fun _ _ h => h) (by have := (sh_cos c).2; omega) (small_cos (by omega) fun T hT => by have := (hcT T hT).len (by omega); omega)
    have hne1 := ev_neDp (K := K) (a := tVar 8) (b := tVar 6) (σ := [some (.ref a), some (.ref r), some (.ref g), some (.ref S.p), some (.ref M.p), some (.int (j : Nat)), some (.ref qa), some (.int room), some (.ref h8a), some v9, x10, x11]) (H := H9) (d := .list (Us.map dT)) (e := .list (Us.map dT)) (p := IsO (Us.map dT)) (q := IsO (Us.map dT)) (ev_var rfl (isO_of hh9 hhd9)) (ev_var rfl (isO_of hq9 hqs9)) (fun _ _ h => isO_dp h) (fun _ _ h => isO_dp h) (sh_tabs _) (sh_tabs _)
    rw [eqv_self (sh_tabs Us)] at hne1
    refine s_ifF (evt_or (b := false) (c := false) (evt_not (b := true) (evt_b hal1)) fun _ => evt_test hne1) fun H10 e10 => ?_
    have T10 := T9.ex e10
    have h9' : CostAt H8 c H10 v9 := Mn.mn e10 h9
    have hq10 := e10 _ _ hq9
    have hqs10 := hqs9.mono (Tp.of e10)
    have hh10 := e10 _ _ hh9
    have hhd10 := hhd9.mono (Tp.of e10)
    -- touched, of what is chosen
    have hsel : ∀ H', Ex H10 H' → EvP (tOp (rIxU P w K) (tVar 9) (tC (.int 2))) [some (.ref a), some (.ref r), some (.ref g), some (.ref S.p), some (.ref M.p), some (.int (j : Nat)), some (.ref qa), some (.int room), some (.ref h8a), some v9, x10, x11] H' (IsO (c.2.2.map dT)) := fun H' e' =>
      ev_op (p := CostAt H8 c) (ev_var (v := v9) rfl (Mn.mn e' h9')) (ev_int 2) fun x y H3 _ ⟨p, l, xs, ex, _, _, ht, hl', hx⟩ hy Q k => by
        subst ex
        have ey := isInt_get hy
        subst ey
        exact .inr (.inl (.inl ⟨p, _, _, .ref l, rfl, rfl, ht.sq, rfl, k _ _ (Ex.refl _) ⟨l, xs, rfl, hl', hx⟩⟩))
    have hsel0 : EvP (tOp (rIxU P w K) (tVar 9) (tC (.int 0))) [some (.ref a), some (.ref r), some (.ref g), some (.ref S.p), some (.ref M.p), some (.int (j : Nat)), some (.ref qa), some (.int room), some (.ref h8a), some v9, x10, x11] H10 (Is (.int c.1)) :=
      ev_op (p := CostAt H8 c) (ev_var (v := v9) rfl h9') (ev_int 0) fun x y H3 _ ⟨p, l, xs, ex, _, _, ht, hl', hx⟩ hy Q k => by
        subst ex
        have ey := isInt_get hy
        subst ey
        exact .inr (.inl (.inl ⟨p, _, _, .int c.1, rfl, rfl, ht.sq, rfl, k _ _ (Ex.refl _) (IsD.int _)⟩))
    have htou := ev_touched (P := P) (w := w) (K := K) (n := n) (S := S) (Ts := c.2.2) (Us := Us) (σ := [some (.ref a), some (.ref r), some (.ref g), some (.ref S.p), some (.ref M.p), some (.int (j : Nat)), some (.ref qa), some (.int room), some (.ref h8a), some v9, x10, x11]) (H := H10) (tc := tVar 3) (tt := tCB (rListOf K) (tCons (tOp (rIxU P w K) (tVar 9) (tC (.int 2))) tNil)) (tq := tVar 8) (ev_ref rfl) ((evf_listOf (K := K) ((hsel H10 (Ex.refl _)).ol).sq).l (K := K)).sq (ev_var (p := IsL K _) rfl (isL_at hh10 hhd10)).sq T10.both.c hcT hUs' (by omega) (by omega)
    rw [← hcm.2] at htou
    have hal2 := ev_alike (P := P) (w := w) (K := K) (n := n) (d := .int c.1) htou hsel0 (fun _ _ => isV_of) (fun _ _ => isV_of) (by rw [depth_i]; decide) (by rw [smallD])
    refine s_ifF (evt_not (b := true) (evt_b hal2)) fun H11 e11 => ?_
    have T11 := T10.ex e11
    show tSeq _ _ _ [some (.ref a), some (.ref r), some (.ref g), some (.ref S.p), some (.ref M.p), some (.int (j : Nat)), some (.ref qa), some (.int room), some (.ref h8a), some v9, x10, x11] H11
    -- some tables
    refine s_rawAsg (x_lcR (x_taken T11.row (ev_ref rfl) (ev_int 4) (by decide) fun c2 H12 f12 hR12 d0 d1 => ?_))
    have T12 := T11.fr f12 hR12
    refine lc_tables (M := M) T12.row T12.both.m T12.rM d0 (by omega) (fun _ _ => ev_ref rfl) (fun _ _ => ev_ref rfl) (fun _ => rfl) fun ta ts Ts H13 nta f13 hR13 hta hts hTs hTl => ?_
    have T13 := T12.fr f13 hR13
    have f113 := f12.trans f13
    have hTs' : ∀ T ∈ Ts, Tab S.n T := fun T hT => by rw [hnn]; exact hTs T hT
    show tSeq _ _ _ [some (.ref a), some (.ref r), some (.ref g), some (.ref S.p), some (.ref M.p), some (.int (j : Nat)), some (.ref qa), some (.int room), some (.ref h8a), some v9, some (.ref ta), x11] H13
    have nhr : h8a ≠ r := fun z => row_some T7.row (z ▸ n8)
    have hh13 : H13 h8a = some (.lst h8s) := f113.1 _ _ (e11 _ _ hh10) (by simpa using nhr)
    have hhd13 := (hhd10.mono (Tp.of e11)).mono f113.2
    have hq13 : H13 qa = some (.lst qs) := f113.1 _ _ (e11 _ _ hq10) (by simpa using nqr)
    have hqs13 := (hqs10.mono (Tp.of e11)).mono f113.2
    have htou2 := ev_touched (P := P) (w := w) (K := K) (n := n) (S := S) (Ts := Ts) (Us := Us) (σ := [some (.ref a), some (.ref r), some (.ref g), some (.ref S.p), some (.ref M.p), some (.int (j : Nat)), some (.ref qa), some (.int room), some (.ref h8a), some v9, some (.ref ta), x11]) (H := H13) (tc := tVar 3) (tt := tVar 10) (tq := tVar 8) (ev_ref rfl) (ev_var (p := IsL K _) rfl (isL_at hta hts)).sq (ev_var (p := IsL K _) rfl (isL_at hh13 hhd13)).sq T13.both.c hTs' hUs' (by omega) (by omega)
    have hltou := ev_lawTouched (P := P) (w := w) (K := K) (n := n) (σ := [some (.ref a), some (.ref r), some (.ref g), some (.ref S.p), some (.ref M.p), some (.int (j : Nat)), some (.ref qa), some (.int room), some (.ref h8a), some v9, some (.ref ta), x11]) (H := H13) (tm := tVar 4) (td := tCall (sp_law_sizes P w K n) [] E0 (tCons (tVar 4) tNil)) (tt := tVar 10) (tq := tVar 6) (M := M) (Ts := Ts) (Us := Us) (ev_ref rfl) (ev_lawSizes (M := M) (ev_ref rfl) T13.both.m (by omega)) (ev_var (p := IsL K _) rfl (isL_at hta hts)).sq (ev_var (p := IsL K _) rfl (isL_at hq13 hqs13)).sq T13.both.m hTs hUs (by omega) (by omega)
    rw [touZ_perm hbb, hnn] at htou2
    have hal3 := ev_alike (P := P) (w := w) (K := K) (n := n) (d := .int (touZ M.rows (Ts ++ [rng M.n]) Us)) htou2 hltou (fun _ _ => isV_of) (fun _ _ => isV_of) (by rw [depth_i]; decide) (by rw [smallD])
    refine s_ifF (evt_not (b := true) (evt_b hal3)) fun H14 e14 => ?_
    have T14 := T13.ex e14
    -- what is told is changed
    obtain ⟨p, l, xs, rfl, np, nl, ht, hl', hx⟩ := h9'
    have nlr : l ≠ r := fun z => row_some T8.row (z ▸ nl)
    have npr : p ≠ r := fun z => row_some T8.row (z ▸ np)
    have f1014 : Fr [r] H10 H14 := ((Fr.ex e11).trans f113).trans (Fr.ex e14)
    have ht14 := ht.mono f1014.2
    have hl14 : H14 l = some (.lst xs) := f1014.1 _ _ hl' (by simpa using nlr)
    have hxl : xs.length = c.2.2.length := by rw [hx.length, List.length_map]
    have hl0 := line0
    refine ⟨.ref p, rfl, .inr (.inl (.inl ⟨p, _, 2, .ref l, rfl, rfl, ht14.sq, rfl, ?_⟩))⟩
    refine ⟨.inl (.inl ⟨rfl, xs, .inl (.inl hl14)⟩), l, xs, .int 7, rfl, rfl, hl14, by omega, ?_⟩
    have fE : Fr [l] H14 (upd H14 l (.lst (xs ++ [.int 7]))) := Fr.set (L := [l]) (by simp) (tp_lst hl14)
    have c8 : ∀ b, H8 b ≠ none → b ∉ [l] := fun b hb => by
      rw [List.mem_singleton]
      exact fun z => hb (z ▸ nl)
    refine kn _ _ ⟨_, _, _, _, _, _, _, rfl, T14.row.fr fE (c8 r (row_some T8.row)) ((row_tracked T8.row).imp id fun h => c8 a h), ⟨T14.both.c.fr fE fun b hb => c8 b (foot_tracked T8.both.c b hb), T14.both.m.fr fE fun b hb => c8 b (m_tracked T8.both.m b hb), T14.both.nn, T14.both.bb, T14.both.tt, T14.both.gg, T14.both.apart⟩, T14.rS, T14.rM, T14.ss, T14.hp, T14.hq, T14.rows, T14.kept⟩
  · subst hσ
    have hMr : M.rows.length ≤ 30 := T2.rows
    refine (ev_right (P := P) (w := w) (K := K) (n := n) (S := S) (M := M) (σ := [some (.ref a), some (.ref r), some (.ref g), some (.ref S.p), some (.ref M.p), x5, x6, x7, x8, x9, x10, x11]) (tc := tVar 3) (tm := tVar 4) (ev_ref rfl) (ev_ref rfl) T2.both (by omega)) H2 (Ex.refl _) _ fun v H3 e3 hv => ?_
    have := isBl_get hv
    subst this
    exact k H3
end
end KC
end

section
set_option Elab.async false
set_option linter.all false
set_option autoImplicit false
set_option maxRecDepth 100000
set_option maxHeartbeats 4000000
/-! sorted(tables, key=lambda one: (0 - len(one), one)). -/
namespace KC
open PySem L2 PySem.Spec PyProof.Rows PySem.W LamX
open Evl (Ex)
def stepK (T : List Int) : PyData := .tuple [.int (0 - (T.length : Int)), dT T]
theorem reads_ints {h : Heap} : ∀ {us : List Value} {T : List Int} {as : List Addr}, ReadsAll h us (T.map PyData.int) as → as = []
  | [], [], _, .nil => rfl
  | _, _ :: _, _, .cons r rs => by
    cases r
    rw [reads_ints rs]; rfl
theorem reads_T {h : Heap} {v : Value} {T : List Int} {as : List Addr} (r : Reads h v (dT T) as) : as = [] := by
  cases r with
  | tuple _ _ _ r => exact reads_ints r
abbrev lamP (p : Pos) : Arguments := { posonlyargs := [], args := [{ arg := "one", annotation := none, pos := p : Arg }], vararg := none, kwonlyargs := [], kw_defaults := [], kwarg := none, defaults := [] }
abbrev lamB (p1 p2 p3 p4 p5 p6 p7 : Pos) (k0 : Nat) (x1 : Nat) : Expr := .Tuple [.BinOp (.Constant (.int 0) k0 p1) .Sub (.Call (.Name "len" p2) [.Name "one" p3] [] p4) p5, .Name "one" p6] x1 p7
section
variable {P : Program} {w : World} {A : Around} {s : Shared}
/-- the key of one table: all that was there stays -/
theorem key_call {f c' a : Addr} {q : Str} {scope : Scope} {pm ctv : Value} {mg mb : Str → Option Value} {T : List Int} {p p1 p2 p3 p4 p5 p6 p7 : Pos} {k0 : Nat} {x1 : Nat} {its : Array Value} {oc : Obj} {vs : Array Value} {tq : Tok}
    (of : s.heap.get? f = some (kla_obj "<lambda>" q (lamP p) (lamB p1 p2 p3 p4 p5 p6 p7 k0 x1) scope [] pm c' ctv)) (hk : scope.kind = .function) (hco : scope.isCoroutine = false) (hgen : scope.isGenerator = false) (hone : scope.names.lookup ("one" : Str) = some .local) (hlen : scope.names.lookup ("len" : Str) = some .globalImplicit)
    (glob : s.heap.Ns mainGlobals mg) (mlen : mg "len" = none) (blt : s.heap.Ns builtinsNs mb) (blen : mb "len" = some (.builtin "len")) (lim : s.heap.NoLimit) (hcr : s.heap.get? c' = some oc) (hcd : oc.data = .fields vs) (hcq : vs[1]? = some (.str q tq))
    (hdp : A.depth < recursionLimit) (ht : s.heap.IsTuple a its) (hz : its.size ≤ 1000) (hr : Reads s.heap (.ref a) (dT T) []) (hn : its.size = T.length) :
    wpAny (model P w) A (call (.ref f) [.ref a]) (KeyPure (stepK T) s) (fun _ _ => False) s := by
  have rc : codeAny (model P w) A (.call (.ref f) ⟨[.ref a], []⟩) (fun r s' => ∃ v, r = .ok (.ret v) ∧ KeyPure (stepK T) s v s') s := by
    refine kla_callFunE hdp of rfl hco hgen rfl ⟨c', oc, vs, tq, rfl, hcr, hcd, hcq⟩ ?_
    have hb : bindArgs (kla_fn "<lambda>" q (lamP p) (lamB p1 p2 p3 p4 p5 p6 p7 k0 x1) scope [] pm (.ref c') ctv) ⟨[.ref a], []⟩ = pure [(("one" : Str), Value.ref a)] := rfl
    rw [hb]
    refine wpAny_pure ?_
    refine wpAny_newFunctionEnv_cells hk (fun x hx => ?_) fun env he s1 x => ?_
    · rw [List.mem_singleton] at hx
      rw [hx]
      exact .inl hone
    · have hkind : env.scope.kind = .function := by subst he; exact hk
      have hk1 : env.kindOf ("one" : Str) = some .local := by subst he; exact hone
      have hk2 : env.kindOf ("len" : Str) = some .globalImplicit := by subst he; exact hlen
      have eg : env.globals = mainGlobals := by subst he; rfl
      have eb : env.builtins = builtinsNs := by subst he; rfl
      have hm : (bindL env.kindOf [(("one" : Str), Value.ref a)] fun _ => none) "one" = some (.ref a) := by
        unfold bindL bindL
        rw [if_pos hk1, if_pos rfl]
      obtain ⟨⟨h1, tk, rfl⟩, hns, kp, _⟩ := x.toInCall
      refine ⟨lim.keeps kp, ?_⟩
      have one : ∀ (B : Around) (E : Value → Shared → Prop) (Q : Value → Shared → Prop) (t : Nat) (pos : Pos), Q (.ref a) { s with heap := h1, toks := t } → wpAny (model P w) B (eval (.Name "one" pos) env) Q E { s with heap := h1, toks := t } := fun B E Q t pos h =>
        wpAny_Name (wpAny_loadName_local hkind hk1 hns hm h) (by decide)
      refine kla_codeExpr ?_
      refine wpAny_Tuple_spliced ?_
      refine Calls.spliced_cons ?_
      refine wpAny_BinOp (wpAny_Constant_int ?_)
      refine wpAny_Call_Name_kw (Calls.Name_function_global hkind hk2 (Calls.loadGlobal_builtin (by rw [eg]; exact glob.keeps kp) mlen (by rw [eb]; exact blt.keeps kp) blen ?_) (by decide))
      refine PyProof.Rows.callWith_builtin1 (Calls.spliced_cons (one _ _ _ _ _ (Calls.spliced_nil ?_))) (by rfl) (by rfl)
      have ht' : h1.IsTuple a its := let ⟨o, e, r⟩ := ht; ⟨o, kp a o e, r⟩
      have hz' : (its.size : Int) < 2 ^ 63 := by omega
      refine len_tuple (s := { s with heap := h1, toks := tk + 1 }) ht' hz' ?_
      refine sub_int ?_
      refine Calls.spliced_cons (one _ _ _ _ _ (Calls.spliced_nil ?_))
      refine ⟨by show 2 ≤ sizeLine; decide, _, rfl, ?_⟩
      refine ⟨_, _, rfl, fun b o e => Heap.get?_push_of_some _ (kp b o e), ?_⟩
      unfold stepK
      rw [← hn]
      exact .tuple (as := []) (Heap.get?_push_size _ rfl) rfl rfl (.cons (as := []) (bs := []) (.int _ _) (.cons (as := []) (bs := []) (Reads.keeps (fun b o e => Heap.get?_push_of_some _ (kp b o e)) hr) .nil))
  refine wpAny_call (codeAny_mono rc fun r s' ⟨v, e, h⟩ => ?_)
  subst e
  exact h
end
/-- sorted by the key -/
def srtK (Ts : List (List Int)) : List (List Int) := Ts.mergeSort (dataLe false stepK)
theorem alike_stepK (a b : List Int) : alike (stepK a) (stepK b) = true := by
  unfold stepK
  rw [alike, alikeAll, alikeAll, alikeAll, alike_T, alike]; rfl
theorem depth_stepK (a : List Int) : (stepK a).depth ≤ 2 := by
  have := depth_T' a
  have h2 := depth_i (0 - (a.length : Int))
  unfold stepK
  rw [PyData.depth.eq_def]
  show PyData.depthAll [_, _] + 1 ≤ 2
  rw [PyData.depthAll, PyData.depthAll, PyData.depthAll]
  omega
/-- sorted(xs, key=lambda one: (0 - len(one), one)), xs a list of tables; T: the tables of code objects -/
def tSortK (K : PySem.W.Frag) (T : List (Addr × Str)) (te : TE) : TE := fun σ H Q => te σ H fun x H1 => ∃ (a : Addr) (xs : List V) (Ts : List (List Int)), x = .ref a ∧ SqL K H1 a xs ∧ IsDs H1 xs (Ts.map dT) ∧ Ts.length ≤ 1000 ∧ (∀ U ∈ Ts, U.length ≤ 1000) ∧ Tabs T H1 ∧
  ∀ H2 ys p, ExtN H1 H2 → Tabs T H2 → IsDs H2 ys ((srtK Ts).map dT) → H2 p = none → Q (.ref p) (upd H2 p (.lst ys))
theorem extN_tp {H H' : Hp} (e : ExtN H H') : Tp H H' := fun b o xs h => e b _ h fun ps z => by cases z
section
variable {X : Cx}
theorem pe_sortK {T : List (Addr × Str)} {c P : Addr} {e : Expr} {te : TE} {scope : Scope} {p pk pl pos p0 p1 p2 p3 p4 p5 p6 p7 : Pos} {k0 x1 : Nat} {k : Nat} (hc : X.calm = true) (hr : Room k X.A) (hg : Gl X "sorted") (hm : X.mg "sorted" = none) (ml : X.mg "len" = none) (he : PE X e te)
    (hk : scope.kind = .function) (hco : scope.isCoroutine = false) (hgen : scope.isGenerator = false) (hone : scope.names.lookup ("one" : Str) = some .local) (hlen : scope.names.lookup ("len" : Str) = some .globalImplicit) (hnf : ∀ y ∈ scope.names, y.2 ≠ .free)
    (hcl : cloFrom X.env.cells scope.names [] = [])
    (TB : TabB X.base X.mg c P) (hcode : X.env.code = .ref c) (hmT : (P, X.env.qual ++ "<lambda>") ∈ T) (hu : ∀ p ∈ T, p.1 = P → p.2 = X.env.qual ++ "<lambda>") (na : starEach [e] X.env = (false, eval e X.env) :: starEach [] X.env := by rfl) (nb : backTo pos (starEach [e] X.env) = (false, eval e X.env) :: backTo pos (starEach [] X.env) := by rfl) (npl : (backTo pos (starEach [e] X.env)).any (·.1) = false := by rfl) :
    PE X (.Call (.Name "sorted" p) [e] [⟨some "key", .Lambda (lamP p0) (lamB p1 p2 p3 p4 p5 p6 p7 k0 x1) scope pl, pk⟩] pos) (tSortK X.K T te) := by
  refine ⟨fun pins s σ H Q I h => ?_⟩
  refine wpAny_Call_Name_kw (ld_blt I hg hm b_sorted ?_ (by decide) (by decide))
  refine PyProof.Rows.callWith_kw (thn ((pa_cons he pa_nil na).run pos pins s σ H (fun vs H1 => match vs with
    | [x] => ∃ (a : Addr) (xs : List V) (Ts : List (List Int)), x = .ref a ∧ SqL X.K H1 a xs ∧ IsDs H1 xs (Ts.map dT) ∧ Ts.length ≤ 1000 ∧ (∀ U ∈ Ts, U.length ≤ 1000) ∧ Tabs T H1 ∧
        ∀ H2 ys p, ExtN H1 H2 → Tabs T H2 → IsDs H2 ys ((srtK Ts).map dT) → H2 p = none → Q (.ref p) (upd H2 p (.lst ys))
    | _ => False) I h) fun us s1 ⟨vs, H1, I1, r1, q1⟩ => ?_) nb npl (by rfl) (by rfl)
  match vs, q1, r1 with
  | [x], ⟨a, xs, Ts, ex, hs, hd, hz, hzu, hT, q⟩, r1 =>
  subst ex
  obtain ⟨u, rfl, ru⟩ := vals1 r1
  cases ru
  show wpAny _ _ (evalAll ((do let v ← eval (.Lambda (lamP p0) (lamB p1 p2 p3 p4 p5 p6 p7 k0 x1) scope pl) X.env; standAt pos; pure v) :: [])) _ _ s1
  refine wpAny_evalAll_cons (wpAny_bind (lam_make2 I1 TB hcode hmT hu hT rfl (fun y hy z => absurd z (hnf y hy)) fun f c' pm ctv H2 s2 I2 eN T2 hf hfn hfr hco' => wpAny_bind (wpAny_standAt (wpAny_pure ?_))))
  refine wpAny_evalAll_nil ?_
  show wpAny _ _ (call (.builtin "sorted") [.ref a] [(Str.ofString "key", .ref f)]) _ _ s2
  rw [hcl] at hf
  have hs2 : SqL X.K H2 a xs := by
    rcases hs with (q | ⟨o, q⟩) | q
    · exact .inl (.inl (eN a _ q fun ps z => by cases z))
    · exact .inl (.inr ⟨o, eN a _ q fun ps z => by cases z⟩)
    · exact .inr q
  have hd2 := hd.mono (extN_tp eN)
  obtain ⟨its, rv, hl, hzz⟩ := I2.list hs2
  have l1 := rv.length
  have l2 := hd2.length
  rw [List.length_map] at l2
  have e1 := each_of_map dT (each_of_isDs hd2 rv)
  obtain ⟨mb, b1, b2⟩ := I2.mod.blt
  obtain ⟨⟨oc, vc, tc, hoc, hdc, hvc⟩, _, _⟩ := I2.hok c' _ hco'
  refine sorted_key_data (b := false) stepK hl.isList e1 (AllAlike.of alike_stepK) (Sortable.tuples fun _ => ⟨_, _, rfl⟩) (Nat.le_trans hz (by decide)) (fun T hT => ?_) (ksk_s1 _ _) (fun _ => ksk_l1 _ _) (fun _ => ksk_t1 _ _) (fun v T hR hTm g tk kp => ?_) fun out ep g tk kp hfr hD hlen heach => ?_
  · have := depth_stepK T
    have := hr.un
    omega
  · obtain ⟨x, rx, hx⟩ := hR
    obtain ⟨y, rfl, ht⟩ := isT_get hx
    cases rx
    obtain ⟨itt, rvt, ⟨ot, ht1, ht2, nt, ht3⟩, _⟩ := I2.tuple ht.sq
    have lt := rvt.length
    rw [List.length_map] at lt
    obtain ⟨as, hre⟩ := Dp.reads I2 (dT T) (.ref y) (.ref y) hx.dp rfl
    have := reads_T hre
    subst this
    have hTl := hzu T hTm
    exact key_call (s := { s2 with heap := g, toks := tk }) (its := itt.toArray) (mg := X.mg) (mb := mb) (kp f _ hf) hk hco hgen hone hlen ((I2.mod.glob.keeps I2.bk).keeps kp) ml ((b1.keeps I2.bk).keeps kp) ((b2 "len" (by decide)).trans b_len) (I2.nolimit.keeps kp) (kp c' _ hoc) hdc hvc (by have := hr.dp; show X.A.depth < _; omega)
      ⟨ot, kp y _ ht1, ht2, nt, ht3⟩ (by simpa using (by omega : itt.length ≤ 1000)) (Reads.keeps kp hre) (by simpa using lt.symm)
  · have e2 : EachIs (fun u d => ∃ x : V, RelV x u ∧ IsD H2 x d) out ((srtK Ts).map dT) := each_map dT heach
    obtain ⟨ys, q1, q2⟩ := isDs_of_each e2
    have ly := q1.length
    have hf2 := I2.hok.fresh (Nat.le_succ s2.heap.objs.size)
    exact ⟨.ref (s2.heap.objs.size + 1), _, I2.laid (t' := tk) (o := .lst ys) kp (Nat.le_succ _) ⟨Nat.le_trans (by omega : ys.length ≤ 1000) (by decide), out, ep, q1, hD⟩, rfl, q H2 ys _ eN T2 q2 hf2⟩
end
end KC
end

section
set_option Elab.async false
set_option linter.all false
set_option autoImplicit false
set_option maxRecDepth 100000
set_option maxHeartbeats 4000000
/-! Promises of k04. The slot badText of the names holds the table of code objects of the def steps. -/
namespace KC
open PySem L2 PySem.W PyProof.Rows LamX
open Evl (Ex EvT)
structure TxtS (mg : Str → Option Value) : Prop where
  n_min : mg "min" = none
  n_reversed : mg "reversed" = none
abbrev stT (n : Nm) : List (Addr × Str) := [(n.badText, "steps.<locals>.<lambda>")]
def stpD (B : List (List Int × Int)) (e : List Int × List Int) : PyData := .tuple [dT e.1, dT e.2, .int (cntT B e.2 : Nat)]
abbrev StP : Type := List (List Int) × List (List Int × List Int)
def duN (B : List (List Int × Int)) (p : StP) (T : List Int) : StP := (p.1 ++ [T], p.2 ++ [(T, bestR B p.1 T)])
def stN (B : List (List Int × Int)) (p : StP) (T : List Int) : StP := if T ∈ p.1 then p else duN B p T
def leftL (n : Nat) (Ss Ts : List (List Int)) : List (List Int) := (allT n).filter fun T => decide (T ∈ Ts) && !decide (T ∈ Ss)
def ofLen (L : List (List Int)) (m : Nat) : List (List Int) := L.filter fun T => decide (T.length = m)
/-- those of the most edges first, m of them left out -/
def ordL (L : List (List Int)) : Nat → List (List Int)
  | 0 => []
  | m + 1 => ofLen L m ++ ordL L m
structure LeastOk (B : List (List Int × Int)) (n : Nat) (Ss : List (List Int)) (L : List (List Int × List Int)) : Prop where
  ss : ∀ U ∈ Ss, Tab n U
  tab : ∀ e ∈ L, Tab n e.1
  l3 : ∀ e ∈ L, e.1.length ≤ 3
  mem : ∀ e ∈ L, e.2 ∈ Ss ++ L.map (·.1)
  ne : ∀ e ∈ L, e.2 ≠ e.1
  sub : ∀ e ∈ L, KC.sub e.1 e.2 = true
  min : ∀ e ∈ L, ∀ U ∈ Ss ++ L.map (·.1), U ≠ e.1 → KC.sub e.1 U = true → cntT B e.2 ≤ cntT B U
section
def sp_steps (P : Program) (w : World) (K : PySem.W.Frag) (n : Nm) : Sp := fun vs H Q _ => ∃ (S : CS) (t : V) (Ts : List (List Int)), vs = [.ref S.p, t] ∧ CubeAt P w n.cube H S ∧ IsL K (Ts.map dT) H t ∧ (∀ T ∈ Ts, Tab S.n T) ∧ Ts.length ≤ 400 ∧ Tabs (stT n) H ∧
  ∀ a xs H', H a = none → ExtN H H' → Tabs (stT n) H' → H' a = some (.lst xs) → IsDs H' xs (((srtK Ts).foldl (stN S.B) (S.Ts, [])).2.map (stpD S.B)) → Q (.ref a) H'
def sp_law_due (P : Program) (w : World) (K : PySem.W.Frag) (n : Nm) : Sp := fun vs H Q _ => ∃ (M : MS) (t : V) (Ts : List (List Int)), vs = [.ref M.p, t] ∧ MAt P w H M ∧ IsL K (Ts.map dT) H t ∧ Ts.length ≤ 400 ∧ M.rows.length < 64 ∧ (∀ T ∈ Ts, Tab M.n T) ∧
  Fresh H Q (((ordL (leftL M.n M.Ts Ts) (M.n + 1)).foldl (duN M.rows) (M.Ts, [])).2.map (stpD M.rows))
def sp_law_is_least (P : Program) (w : World) (K : PySem.W.Frag) (n : Nm) : Sp := fun vs H Q _ => ∃ (M : MS) (t : V) (L : List (List Int × List Int)), vs = [.ref M.p, t] ∧ MAt P w H M ∧ IsL K (L.map (stpD M.rows)) H t ∧ L.length ≤ 400 ∧ M.rows.length < 64 ∧ LeastOk M.rows M.n M.Ts L ∧ ∀ H', Ex H H' → Q (.bl true) H'
def sp_law04 (P : Program) (w : World) (K : PySem.W.Frag) (n : Nm) : Sp := fun vs H Q _ => ∃ (a : Addr) (ns : List Int), vs = [.ref a] ∧ SqL K H a (ns.map V.int) ∧ ns.length ≤ 63 ∧ Tabs (stT n) H ∧ ∀ H', Q (.bl true) H'
end
end KC
end

section
set_option Elab.async false
set_option linter.all false
set_option autoImplicit false
set_option maxRecDepth 100000
set_option maxHeartbeats 4000000
/-! Readings of k04, printed by gen.py. -/
namespace KC
open PySem L2 PySem.Spec PyProof.Rows
def t_steps (P : Program) (w : World) (K : PySem.W.Frag) (n : Nm) (E : XK) : TS :=
  (tSeq (tFor (iAny P w K (tVar 1)) (gName 2) (tDrop (tCall (sp_need_table P w K n) [] E (tCons (tFld K (tVar 0) "many") (tCons (tVar 2) tNil)))))
    (tSeq (tAsg (tCall (sp_sizes_of P w K n) [] E (tCons (tVar 0) tNil)) (gName 3))
    (tSeq (tAsg (tCB (rListKD P w) (tCons (tFld K (tVar 0) "known") tNil)) (gName 4))
    (tSeq (tAsg (tLst tNil) (gName 5))
    (tSeq (tFor (iAny P w K (tSortK K (stT n) (tVar 1))) (gName 2) (tIfS (tTest (tOp (rNotInD K) (tVar 2) (tVar 4))) (tSeq (tAsg (tCall (sp_best_road P w K n) [] E (tCons (tVar 3) (tCons (tVar 4) (tCons (tVar 2) tNil)))) (gName 6))
    (tSeq (tDrop (tBG P w K "list" rAppend (tVar 5) (tCons (tTupF (tCons (tVar 2) (tCons (tVar 6) (tCons (tOp (rIxU P w K) (tVar 3) (tVar 6)) tNil)))) tNil)))
    (tDrop (tBG P w K "list" rAppend (tVar 4) (tCons (tVar 2) tNil))))) tNext))
    (tRet (tVar 5)))))))

def t_law_due (P : Program) (w : World) (K : PySem.W.Frag) (n : Nm) (E : XK) : TS :=
  (tSeq (tAsg (tCall (sp_law_standing P w K n) [] E (tCons (tVar 0) tNil)) (gName 2))
    (tSeq (tAsg (tLst tNil) (gName 3))
    (tSeq (tAsg (tLc (iAny P w K (tCall (sp_law_all P w K n) [] E (tCons (tDGet (tVar 0) (tC (.str "edges"))) tNil))) (gName 6) (tAnd (tTest (tOp (rInD K) (tVar 6) (tVar 1))) (tTest (tOp (rNotInD K) (tVar 6) (tVar 2)))) (tVar 6) [6]) (gName 4))
    (tSeq (tFor (iRevR (tRg1 (tOp (rPlus K) (tDGet (tVar 0) (tC (.str "edges"))) (tC (.int 1))))) (gName 5) (tFor (iAny P w K (tLc (iAny P w K (tVar 4)) (gName 8) (tTest (tOp (rEqU P w K) (tCB (rLenA P w K) (tCons (tVar 8) tNil)) (tVar 5))) (tVar 8) [8])) (gName 6) (tSeq (tAsg (tCall (sp_law_best P w K n) [] E (tCons (tVar 0) (tCons (tVar 2) (tCons (tVar 6) tNil)))) (gName 7))
    (tSeq (tDrop (tBG P w K "list" rAppend (tVar 3) (tCons (tTupF (tCons (tVar 6) (tCons (tVar 7) (tCons (tCall (sp_law_size P w K n) [] E (tCons (tVar 0) (tCons (tVar 7) tNil))) tNil)))) tNil)))
    (tDrop (tBG P w K "list" rAppend (tVar 2) (tCons (tVar 6) tNil)))))))
    (tRet (tVar 3))))))

def t_law_is_least (P : Program) (w : World) (K : PySem.W.Frag) (n : Nm) (E : XK) : TS :=
  (tSeq (tAsg (tOp (rPlus K) (tCall (sp_law_standing P w K n) [] E (tCons (tVar 0) tNil)) (tLc (iAny P w K (tVar 1)) (gName 6) tYes (tOp (rIxU P w K) (tVar 6) (tC (.int 0))) [6])) (gName 2))
    (tSeq (tFor (iAny P w K (tVar 1)) (gTup K 3 (gCons (gName 3) (gCons (gName 4) (gCons (gName 5) gNil)))) (tIfS (tTest (tOp (rNeD K) (tVar 5) (tCB (rMinU K) (tCons (tLc (iAny P w K (tVar 2)) (gName 6) (tAnd (tTest (tOp (rNeD K) (tVar 6) (tVar 3))) (tTest (tOp (rEqU P w K) (tOp (rMinus P w) (tCB (rSetC P w K) (tCons (tVar 3) tNil)) (tCB (rSetC P w K) (tCons (tVar 6) tNil))) (tCB (rSetC P w K) (tCons (tLst tNil) tNil))))) (tCall (sp_law_size P w K n) [] E (tCons (tVar 0) (tCons (tVar 6) tNil))) [6]) tNil)))) (tRet (tC (.bl false))) tNext))
    (tRet (tC (.bl true)))))

def t_law_k04 (P : Program) (w : World) (K : PySem.W.Frag) (n : Nm) (E : XK) : TS :=
  (tSeq (tAsg (tLst (tCons (tVar 0) (tCons (tC (.int 0)) (tCons (tC (.int 0)) tNil)))) (gName 1))
    (tSeq (tAsg (tCall (sp_law_grown P w K n) [] E (tCons (tVar 1) (tCons (tC (.int 4)) (tCons (tC (.int 40)) tNil)))) (gName 2))
    (tSeq (tIfS (tTest (tOp rIsN (tVar 2) (tC .non))) (tRet (tC (.bl false))) tNext)
    (tSeq (tAsg (tVar 2) (gTup K 2 (gCons (gName 3) (gCons (gName 4) gNil))))
    (tSeq (tAsg (tLc (iAny P w K (tCall (sp_law_all P w K n) [] E (tCons (tDGet (tVar 4) (tC (.str "edges"))) tNil))) (gName 11) tYes (tTupF (tCons (tVar 11) (tCons (tCall (sp_law_size P w K n) [] E (tCons (tVar 4) (tCons (tVar 11) tNil))) tNil))) [11]) (gName 5))
    (tSeq (tFor (iRng1 (tCons (tC (.int 3)) tNil)) (gName 6) (tSeq (tAsg (tLc (iRng1 (tCons (tCall (sp_law_taken P w K n) [] E (tCons (tVar 1) (tCons (tC (.int 9)) tNil))) tNil)) (gName 12) tYes (tCall (sp_law_table P w K n) [] E (tCons (tVar 1) (tCons (tVar 4) tNil))) [12]) (gName 7))
    (tSeq (tAsg (tCB (rListOf K) (tCons (tVar 7) tNil)) (gName 8))
    (tSeq (tAsg (tCall (sp_steps P w K n) [] E (tCons (tVar 3) (tCons (tVar 8) tNil))) (gName 9))
    (tSeq (tIfS (tOr (tNot (tB (tCall (sp_law_alike P w K n) [] E (tCons (tVar 9) (tCons (tCall (sp_law_due P w K n) [] E (tCons (tVar 4) (tCons (tVar 7) tNil))) tNil))))) (tOr (tTest (tOp (rNeD K) (tVar 8) (tVar 7))) (tNot (tB (tCall (sp_law_is_least P w K n) [] E (tCons (tVar 4) (tCons (tVar 9) tNil))))))) (tRet (tC (.bl false))) tNext)
    (tSeq (tAsg (tCall (sp_sizes P w K n) [] E (tCons (tVar 3) tNil)) (gName 10))
    (tSeq (tIfS (tOr (tNot (tB (tCall (sp_law_alike P w K n) [] E (tCons (tVar 10) (tCons (tVar 5) tNil))))) (tNot (tB (tCall (sp_law_right P w K n) [] E (tCons (tVar 3) (tCons (tVar 4) tNil)))))) (tRet (tC (.bl false))) tNext)
    (tSeq (tDrop (tBG P w K "list" rAppend (tVar 9) (tCons (tC (.int 7)) tNil)))
    (tDrop (tBM0 K "list" rReverse (tVar 10)))))))))))
    (tRet (tC (.bl true)))))))))

end KC
end

section
set_option Elab.async false
set_option linter.all false
set_option autoImplicit false
set_option maxRecDepth 100000
set_option maxHeartbeats 4000000
/-! The order of the steps; the fewest rows. -/
namespace KC
open PySem L2 PySem.W PyProof.Rows
abbrev leK : List Int → List Int → Bool := dataLe false stepK
theorem leK_eq (a b : List Int) : leK a b = !dataLt (stepK b) (stepK a) := rfl
theorem leK_total : TotalLe leK := sortLe_total _ _ _
theorem int_eqv (a b : Int) : PyData.eqv (.int a) (.int b) = (a == b) := by rw [PyData.eqv]
theorem step_toks (a : List Int) : keyToks (stepK a) = keyToksAll [.int (0 - (a.length : Int)), dT a] := by unfold stepK; rw [keyToks]
theorem leK_len {a b : List Int} (h : b.length < a.length) : leK a b = true := by
  rw [leK_eq, Bool.not_eq_true']
  unfold dataLt
  rw [step_toks, step_toks, dataLt_all_no (by rw [alike]) (by rw [int_eqv]; simp; omega)]
  unfold dataLt
  rw [keyToks, keyToks]
  simp [PyProof.Rows.lexLt, itemLt]
  omega
theorem leK_same {a b : List Int} (h : a.length = b.length) (hl : dle (dT a) (dT b) = true) : leK a b = true := by
  rw [leK_eq, Bool.not_eq_true']
  have hl : (!dataLt (dT b) (dT a)) = true := hl
  rw [Bool.not_eq_true'] at hl
  unfold dataLt
  rw [step_toks, step_toks, h, dataLt_all_yes (by rw [alike]) (by rw [int_eqv]; simp)]
  by_cases z : a = b
  · subst z
    exact (listOrd itemOrd).irrefl _
  · rw [dataLt_all_no (alike_T _ _) (by
      cases q : PyData.eqv (dT b) (dT a) with
      | false => rfl
      | true => exact absurd (dT_inj (eqv_pure _ _ (pure_T _) (pure_T _) q)).symm z)]
    exact hl
theorem leK_anti {a b : List Int} (h1 : leK a b = true) (h2 : leK b a = true) : a = b := by
  have hp : ∀ c : List Int, pureD (stepK c) = true := fun c => by
    unfold stepK
    rw [pureD, pureAll, pureAll, pureAll, pureD, pure_T]; rfl
  have e := eq_of_le (hp a) (hp b) (alike_stepK a b) h1 h2
  unfold stepK at e
  injection e with e
  injection e with e1 e
  injection e with e2 e
  exact dT_inj e2
/-! ### once each -/
def ded : List (List Int) → List (List Int) → List (List Int)
  | _, [] => []
  | Ss, x :: L => if x ∈ Ss then ded Ss L else x :: ded (Ss ++ [x]) L
theorem ded_fold (B : List (List Int × Int)) : ∀ (L Ss : List (List Int)) (f : List (List Int × List Int)), L.foldl (stN B) (Ss, f) = (ded Ss L).foldl (duN B) (Ss, f)
  | [], _, _ => rfl
  | x :: L, Ss, f => by
    rw [List.foldl_cons, ded]
    by_cases z : x ∈ Ss
    · rw [if_pos z, show stN B (Ss, f) x = (Ss, f) from if_pos z]
      exact ded_fold B L Ss f
    · rw [if_neg z, show stN B (Ss, f) x = duN B (Ss, f) x from if_neg z, List.foldl_cons]
      exact ded_fold B L _ _
theorem ded_sub : ∀ (L Ss : List (List Int)), (ded Ss L).Sublist L
  | [], _ => List.Sublist.refl _
  | x :: L, Ss => by
    rw [ded]
    by_cases z : x ∈ Ss
    · rw [if_pos z]; exact (ded_sub L Ss).cons _
    · rw [if_neg z]; exact (ded_sub L _).cons_cons _
theorem ded_mem {x : List Int} : ∀ (L Ss : List (List Int)), x ∈ ded Ss L ↔ x ∈ L ∧ x ∉ Ss
  | [], _ => by simp [ded]
  | y :: L, Ss => by
    rw [ded]
    by_cases z : y ∈ Ss
    · rw [if_pos z, ded_mem L Ss]
      constructor
      · exact fun h => ⟨List.mem_cons_of_mem _ h.1, h.2⟩
      · rintro ⟨h1, h2⟩
        rcases List.mem_cons.mp h1 with e | e
        · exact absurd (e ▸ z) h2
        · exact ⟨e, h2⟩
    · rw [if_neg z, List.mem_cons, ded_mem L _]
      constructor
      · rintro (e | ⟨h1, h2⟩)
        · rw [e]; exact ⟨List.mem_cons_self, z⟩
        · exact ⟨List.mem_cons_of_mem _ h1, fun q => h2 (List.mem_append_left _ q)⟩
      · rintro ⟨h1, h2⟩
        by_cases e : x = y
        · exact .inl e
        · refine .inr ⟨(List.mem_cons.mp h1).resolve_left e, fun q => ?_⟩
          rcases List.mem_append.mp q with q | q
          · exact h2 q
          · exact e (List.mem_singleton.mp q)
theorem ded_nd : ∀ (L Ss : List (List Int)), (ded Ss L).Nodup
  | [], _ => List.nodup_nil
  | x :: L, Ss => by
    rw [ded]
    by_cases z : x ∈ Ss
    · rw [if_pos z]; exact ded_nd L Ss
    · rw [if_neg z]
      exact List.nodup_cons.mpr ⟨fun h => ((ded_mem L _).mp h).2 (List.mem_append_right _ (List.mem_singleton.mpr rfl)), ded_nd L _⟩
theorem ord_mem {L : List (List Int)} {T : List Int} : ∀ (m : Nat), T ∈ ordL L m ↔ T ∈ L ∧ T.length < m
  | 0 => by simp [ordL]
  | m + 1 => by
    rw [ordL, List.mem_append, ord_mem m]
    unfold ofLen
    rw [List.mem_filter, decide_eq_true_iff]
    constructor
    · rintro (⟨h1, h2⟩ | ⟨h1, h2⟩)
      · exact ⟨h1, by omega⟩
      · exact ⟨h1, by omega⟩
    · rintro ⟨h1, h2⟩
      by_cases z : T.length = m
      · exact .inl ⟨h1, z⟩
      · exact .inr ⟨h1, by omega⟩
theorem ord_sorted {L : List (List Int)} (hs : L.Pairwise fun a b => dle (dT a) (dT b) = true) : ∀ (m : Nat), (ordL L m).Pairwise fun a b => leK a b = true
  | 0 => List.Pairwise.nil
  | m + 1 => by
    rw [ordL]
    refine List.pairwise_append.mpr ⟨?_, ord_sorted hs m, fun a ha b hb => leK_len ?_⟩
    · have h1 : (ofLen L m).Pairwise fun a b => dle (dT a) (dT b) = true := hs.sublist List.filter_sublist
      refine List.Pairwise.imp_of_mem (fun {a b} ha hb h => ?_) h1
      have la : a.length = m := of_decide_eq_true (List.mem_filter.mp ha).2
      have lb : b.length = m := of_decide_eq_true (List.mem_filter.mp hb).2
      exact leK_same (by omega) h
    · have la : a.length = m := of_decide_eq_true (List.mem_filter.mp ha).2
      have lb := ((ord_mem m).mp hb).2
      omega
theorem ord_nd {L : List (List Int)} (hs : L.Nodup) : ∀ (m : Nat), (ordL L m).Nodup
  | 0 => List.nodup_nil
  | m + 1 => by
    rw [ordL]
    refine List.nodup_append.mpr ⟨hs.sublist List.filter_sublist, ord_nd hs m, fun a ha b hb e => ?_⟩
    subst e
    have la : a.length = m := of_decide_eq_true (List.mem_filter.mp ha).2
    have lb := ((ord_mem m).mp hb).2
    omega
theorem allT_sorted (n : Nat) : (allT n).Pairwise fun a b => dle (dT a) (dT b) = true := by
  have h : ((allT n).map dT).Pairwise fun a b => dle a b = true := by
    rw [allT_map]
    exact sort_pairwise dle_total _
  exact List.pairwise_map.mp h
theorem steps_order {n : Nat} (hn : n ≤ 4) {Ss Ts : List (List Int)} (hT : ∀ T ∈ Ts, Tab n T) : ded Ss (srtK Ts) = ordL (leftL n Ss Ts) (n + 1) := by
  have hnd : (leftL n Ss Ts).Nodup := (allT_nd hn).sublist List.filter_sublist
  have hs : (leftL n Ss Ts).Pairwise fun a b => dle (dT a) (dT b) = true := (allT_sorted n).sublist List.filter_sublist
  refine sorted_unique (le := leK) ?_ ((sort_pairwise leK_total Ts).sublist (ded_sub _ _)) (ord_sorted hs _) fun a _ b _ h1 h2 => leK_anti h1 h2
  refine (List.perm_ext_iff_of_nodup (ded_nd _ _) (ord_nd hnd _)).mpr fun a => ?_
  rw [ded_mem, ord_mem]
  unfold leftL srtK
  rw [List.mem_filter, allT_mem, Bool.and_eq_true, Bool.not_eq_true', decide_eq_true_iff, decide_eq_false_iff_not, (List.mergeSort_perm _ _).mem_iff]
  constructor
  · rintro ⟨h1, h2⟩
    have hl := nd_len (List.Pairwise.imp (fun {a b} q z => by omega) (hT a h1).1 : a.Nodup) (sub_mem (sub_rng (hT a h1)))
    rw [rng_len] at hl
    exact ⟨⟨hT a h1, h1, h2⟩, by omega⟩
  · rintro ⟨⟨_, h1, h2⟩, _⟩
    exact ⟨h1, h2⟩
/-! ### roads -/
theorem du_congr {B B' : List (List Int × Int)} (p : B.Perm B') : ∀ (L Ss Ss' : List (List Int)) (f : List (List Int × List Int)), Ss.Perm Ss' → (L.foldl (duN B) (Ss, f)).2 = (L.foldl (duN B') (Ss', f)).2
  | [], _, _, _, _ => rfl
  | x :: L, Ss, Ss', f, q => by
    rw [List.foldl_cons, List.foldl_cons]
    unfold duN
    rw [show bestR B (Ss, f).1 x = bestR B' (Ss', f).1 x from bestR_perm p q x]
    exact du_congr p L _ _ _ (List.Perm.append_right _ q)
theorem stpD_perm {B B' : List (List Int × Int)} (p : B.Perm B') : stpD B = stpD B' := funext fun e => by unfold stpD; rw [cntT_perm p]
theorem du_fst (B : List (List Int × Int)) : ∀ (L Ss : List (List Int)) (f : List (List Int × List Int)), (L.foldl (duN B) (Ss, f)).1 = Ss ++ L ∧ (L.foldl (duN B) (Ss, f)).2.map (·.1) = f.map (·.1) ++ L
  | [], Ss, f => by simp
  | x :: L, Ss, f => by
    rw [List.foldl_cons]
    obtain ⟨h1, h2⟩ := du_fst B L (duN B (Ss, f) x).1 (duN B (Ss, f) x).2
    refine ⟨h1.trans ?_, h2.trans ?_⟩
    · unfold duN; simp
    · unfold duN; simp
theorem du_spec (B : List (List Int × Int)) : ∀ (L Ss : List (List Int)) (f : List (List Int × List Int)) (e : List Int × List Int), e ∈ (L.foldl (duN B) (Ss, f)).2 → e ∈ f ∨ ∃ A C, L = A ++ e.1 :: C ∧ e.2 = bestR B (Ss ++ A) e.1
  | [], Ss, f, e, h => .inl h
  | x :: L, Ss, f, e, h => by
    rw [List.foldl_cons] at h
    rcases du_spec B L _ _ e h with q | ⟨A, C, h1, h2⟩
    · have q : e ∈ f ++ [(x, bestR B Ss x)] := q
      rcases List.mem_append.mp q with q | q
      · exact .inl q
      · rw [List.mem_singleton.mp q]
        exact .inr ⟨[], L, rfl, by rw [List.append_nil]⟩
    · refine .inr ⟨x :: A, C, by rw [h1]; rfl, h2.trans ?_⟩
      show bestR B ((Ss ++ [x]) ++ A) e.1 = _
      rw [List.append_assoc]; rfl
theorem sub_short {T U : List Int} (hT : T.Pairwise (· < ·)) (hU : U.Pairwise (· < ·)) (hs : sub T U = true) (hl : U.length ≤ T.length) : U = T := by
  have nT : T.Nodup := List.Pairwise.imp (fun {a b} q z => by omega) hT
  refine asc_unique hU hT fun k => ⟨fun hk => ?_, fun hk => sub_mem hs k hk⟩
  by_cases z : k ∈ T
  · exact z
  · have := nd_len (l := k :: T) (m := U) (List.nodup_cons.mpr ⟨z, nT⟩) fun x hx => by
      rcases List.mem_cons.mp hx with e | hx
      · rw [e]; exact hk
      · exact sub_mem hs x hx
    rw [List.length_cons] at this
    omega
theorem least_ok {B : List (List Int × Int)} {n : Nat} (hn : n ≤ 4) {Ss Ts : List (List Int)} (hS : ∀ U ∈ Ss, Tab n U) (hw : rng n ∈ Ss) (hT : ∀ T ∈ Ts, Tab n T) : LeastOk B n Ss (((ordL (leftL n Ss Ts) (n + 1)).foldl (duN B) (Ss, [])).2) := by
  have hnd : (leftL n Ss Ts).Nodup := (allT_nd hn).sublist List.filter_sublist
  have hs : (leftL n Ss Ts).Pairwise fun a b => dle (dT a) (dT b) = true := (allT_sorted n).sublist List.filter_sublist
  have hmem : ∀ T ∈ ordL (leftL n Ss Ts) (n + 1), Tab n T ∧ T ∉ Ss := fun T h => by
    have h1 := ((ord_mem _).mp h).1
    unfold leftL at h1
    rw [List.mem_filter, allT_mem, Bool.and_eq_true, Bool.not_eq_true', decide_eq_true_iff, decide_eq_false_iff_not] at h1
    exact ⟨h1.1, h1.2.2⟩
  have hfst := (du_fst B (ordL (leftL n Ss Ts) (n + 1)) Ss []).2
  rw [List.map_nil, List.nil_append] at hfst
  have hond := ord_nd hnd (n + 1)
  have hos := ord_sorted hs (n + 1)
  have hdesc : ∀ m, (ordL (leftL n Ss Ts) m).Pairwise fun a b => b.length ≤ a.length := fun m => by
    induction m with
    | zero => exact List.Pairwise.nil
    | succ m ih =>
      rw [ordL]
      refine List.pairwise_append.mpr ⟨List.Pairwise.imp_of_mem (R := fun _ _ => True) (fun {a b} ha hb _ => ?_) (List.pairwise_of_forall fun _ _ => trivial), ih, fun a ha b hb => ?_⟩
      · have la : a.length = m := of_decide_eq_true (List.mem_filter.mp ha).2
        have lb : b.length = m := of_decide_eq_true (List.mem_filter.mp hb).2
        omega
      · have la : a.length = m := of_decide_eq_true (List.mem_filter.mp ha).2
        have lb := ((ord_mem m).mp hb).2
        omega
  have hdesc := hdesc (n + 1)
  generalize hL : ordL (leftL n Ss Ts) (n + 1) = L at hmem hfst hond hdesc
  have key : ∀ e ∈ (L.foldl (duN B) (Ss, [])).2, ∃ A C, L = A ++ e.1 :: C ∧ e.2 = bestR B (Ss ++ A) e.1 := fun e he => by
    rcases du_spec B L Ss [] e he with q | q
    · cases q
    · exact q
  have inL : ∀ e ∈ (L.foldl (duN B) (Ss, [])).2, e.1 ∈ L := fun e he => by
    obtain ⟨A, C, h1, _⟩ := key e he
    rw [h1]
    exact List.mem_append_right _ List.mem_cons_self
  have road : ∀ e ∈ (L.foldl (duN B) (Ss, [])).2, ∀ A C, L = A ++ e.1 :: C → e.2 = bestR B (Ss ++ A) e.1 → e.2 ∈ Ss ++ A ∧ sub e.1 e.2 = true := fun e he A C h1 h2 => by
    have hex : ∃ R ∈ Ss ++ A, sub e.1 R = true := ⟨rng n, List.mem_append_left _ hw, sub_rng (hmem _ (inL e he)).1⟩
    obtain ⟨x, rest, _, hxb, hxT, hxs⟩ := rank_head (B := B) hex
    rw [h2, ← hxb]
    exact ⟨hxT, hxs⟩
  refine ⟨hS, fun e he => (hmem _ (inL e he)).1, fun e he => ?_, fun e he => ?_, fun e he => ?_, fun e he => ?_, fun e he U hU hne hsU => ?_⟩
  · obtain ⟨h1, h2⟩ := hmem _ (inL e he)
    have := tab_lt h1 fun z => h2 (z ▸ hw)
    omega
  · obtain ⟨A, C, h1, h2⟩ := key e he
    obtain ⟨h3, _⟩ := road e he A C h1 h2
    rw [hfst]
    rcases List.mem_append.mp h3 with q | q
    · exact List.mem_append_left _ q
    · refine List.mem_append_right _ ?_
      rw [h1]
      exact List.mem_append_left _ q
  · obtain ⟨A, C, h1, h2⟩ := key e he
    obtain ⟨h3, _⟩ := road e he A C h1 h2
    intro z
    rw [z] at h3
    rcases List.mem_append.mp h3 with q | q
    · exact (hmem _ (inL e he)).2 q
    · rw [h1] at hond
      exact (List.nodup_append.mp hond).2.2 _ q _ List.mem_cons_self rfl
  · obtain ⟨A, C, h1, h2⟩ := key e he
    exact (road e he A C h1 h2).2
  · obtain ⟨A, C, h1, h2⟩ := key e he
    rw [hfst] at hU
    have hin : U ∈ Ss ++ A := by
      rcases List.mem_append.mp hU with q | q
      · exact List.mem_append_left _ q
      · rw [h1] at q
        rcases List.mem_append.mp q with q | q
        · exact List.mem_append_right _ q
        · rcases List.mem_cons.mp q with q | q
          · exact absurd q hne
          · rw [h1] at hdesc
            have hd := (List.pairwise_cons.mp (List.pairwise_append.mp hdesc).2.1).1 U q
            have hUL : U ∈ L := by
              rw [h1]
              exact List.mem_append_right _ (List.mem_cons_of_mem _ q)
            exact absurd (sub_short (hmem _ (inL e he)).1.1 (hmem _ hUL).1.1 hsU hd) hne
    rw [h2]
    exact best_least hin hsU
end KC
end

section
set_option Elab.async false
set_option linter.all false
set_option autoImplicit false
set_option maxRecDepth 100000
set_option maxHeartbeats 4000000
/-! What stays where the tables of code objects grow; in, append. -/
namespace KC
open PySem L2 PySem.W PyProof.Rows LamX
open Evl (Ex EvT)
section
variable {P : Program} {w : World} {K : PySem.W.Frag} {C : Addr} {H H' : Hp} {S : CS} {M : MS} {B : List (List Int × Int)} {L : List Addr}
theorem DAt.extN {κ α : Type} [DecidableEq κ] {enc : κ → NestedKey} {val : Hp → V → α → Prop} {d : Addr} {m : List (κ × α)} (mv : MnV val) (e : ExtN H H') (h : DAt P w enc val H d m) : DAt P w enc val H' d m := let ⟨rows, h1, h2⟩ := h; ⟨rows, e _ _ h1 (fun ps z => by
  obtain ⟨φ, q⟩ := kdo_ext P w d rows
  rw [q] at z; cases z), h2.mono mv (extN_tp e)⟩
theorem Skel.extN (e : ExtN H H') (h : Skel P w C H S) : Skel P w C H' S := ⟨h.ok, e _ _ h.ob (fun ps z => by cases z), h.wt.mono (extN_tp e), h.kn.extN mv_ref e, h.gn.extN mv_bl e⟩
theorem ConOk.extN (e : ExtN H H') (h : ConOk P w H S B) : ConOk P w H' S B := fun x hx => let ⟨m, h1, h2⟩ := h x hx; ⟨m, h1.extN mv_cs e, h2⟩
theorem InsOk.extN (e : ExtN H H') (h : InsOk P w H S B) : InsOk P w H' S B := let ⟨m, h1, h2⟩ := h; ⟨m, h1.extN mv_int e, h2⟩
theorem CubeAt.extN (e : ExtN H H') (h : CubeAt P w C H S) : CubeAt P w C H' S := ⟨h.sk.extN e, h.ins.extN e, h.con.extN e⟩
theorem MAt.extN (e : ExtN H H') (h : MAt P w H M) : MAt P w H' M := { h with ob := e _ _ h.ob (fun ps z => by cases z), rl := (let ⟨xs, h1, h2⟩ := h.rl; ⟨xs, e _ _ h1 (fun ps z => by cases z), h2.mono (extN_tp e)⟩), kn := h.kn.extN mv_bl e }
theorem Both.extN (e : ExtN H H') (h : Both P w C H S M) : Both P w C H' S M := { h with c := h.c.extN e, m := h.m.extN e }
theorem rd_extN {s : Addr} {xs : List V} (e : ExtN H H') (h : Rd H s (.lst xs)) : Rd H' s (.lst xs) := by
  rcases h with h | ⟨o, h⟩
  · exact .inl (e _ _ h (fun ps z => by cases z))
  · exact .inr ⟨o, e _ _ h (fun ps z => by cases z)⟩
theorem RowAt.extN {r s : Addr} (e : ExtN H H') (h : RowAt K H r s) : RowAt K H' r s := let ⟨p, z, h1, h2, h3, h4, h5⟩ := h; ⟨p, z, e _ _ h1 (fun ps z => by cases z), h2, h3, h4, h5.imp id fun ⟨ns, a, b⟩ => ⟨ns, a, rd_extN e b⟩⟩
theorem Turn0.extN {r s p q : Addr} {i : Nat} (e : ExtN H H') (h : Turn0 P w K C r s p q i H S M) : Turn0 P w K C r s p q i H' S M := ⟨h.row.extN e, h.both.extN e, h.rS, h.rM, h.ss, h.hp, h.hq, h.rows, h.kept⟩
theorem lst_extN {a : Addr} {xs : List V} (e : ExtN H H') (h : H a = some (.lst xs)) : H' a = some (.lst xs) := e _ _ h (fun ps z => by cases z)
theorem Tabs.fr {T : List (Addr × Str)} (f : Fr L H H') (hL : ∀ a ∈ L, ∃ xs, H a = some (.lst xs)) (h : Tabs T H) : Tabs T H' := fun p hp => by
  obtain ⟨ps, h1, h2, h3⟩ := h p hp
  refine ⟨ps, f.1 _ _ h1 fun z => ?_, h2, fun pos cv hc => ?_⟩
  · obtain ⟨xs, q⟩ := hL _ z
    rw [q] at h1; cases h1
  · obtain ⟨c, e1, e2⟩ := h3 pos cv hc
    refine ⟨c, e1, f.1 _ _ e2 fun z => ?_⟩
    obtain ⟨xs, q⟩ := hL _ z
    rw [q] at e2
    unfold CodeO at e2
    cases e2
theorem row_lst {r s : Addr} (h : RowAt K H r s) : ∃ xs, H r = some (.lst xs) := let ⟨p, z, h1, _⟩ := h; ⟨_, h1⟩
theorem d_ne_lst {κ α : Type} [DecidableEq κ] {enc : κ → NestedKey} {val : Hp → V → α → Prop} {d a : Addr} {m : List (κ × α)} {xs : List V} (h : DAt P w enc val H d m) (q : H a = some (.lst xs)) : d ≠ a := fun z => by
  obtain ⟨rows, h1, _⟩ := h
  rw [z, q] at h1
  obtain ⟨φ, e⟩ := kdo_ext P w a rows
  rw [e] at h1
  cases h1
theorem any_T {T : List Int} : ∀ (Ts : List (List Int)), (Ts.map dT).any (fun z => PyData.eqv z (dT T)) = decide (T ∈ Ts)
  | [] => rfl
  | U :: Ts => by
    rw [List.map_cons, List.any_cons, any_T Ts]
    by_cases z : T = U
    · subst z
      rw [eqv_self (sh_dT T).1]
      simp
    · have : PyData.eqv (dT U) (dT T) = false := by
        cases q : PyData.eqv (dT U) (dT T) with
        | false => rfl
        | true => exact absurd (dT_inj (eqv_pure _ _ (pure_T _) (pure_T _) q)).symm z
      rw [this, Bool.false_or]
      by_cases y : T ∈ Ts
      · rw [decide_eq_true y, decide_eq_true (List.mem_cons_of_mem _ y)]
      · rw [decide_eq_false y, decide_eq_false (fun q => (List.mem_cons.mp q).elim z y)]
variable {σ : L2.St} {a b : TE}
theorem ev_inL {T : List Int} {Ts : List (List Int)} (ha : EvP a σ H (Is (dT T))) (hb : EvP b σ H (IsL K (Ts.map dT))) : EvP (tOp (rInD K) a b) σ H (Is (.bool (decide (T ∈ Ts)))) :=
  ev_op ha hb fun x y H1 _ hx hy Q k => ⟨dT T, Ts.map dT, IsD.dp hx, isL_dp hy, (sh_dT T).1, sh_tabs Ts, k _ _ (Ex.refl _) (by rw [any_T]; exact IsD.bl _)⟩
theorem ev_notInL {T : List Int} {Ts : List (List Int)} (ha : EvP a σ H (Is (dT T))) (hb : EvP b σ H (IsL K (Ts.map dT))) : EvP (tOp (rNotInD K) a b) σ H (Is (.bool (!decide (T ∈ Ts)))) :=
  ev_op ha hb fun x y H1 _ hx hy Q k => ⟨dT T, Ts.map dT, IsD.dp hx, isL_dp hy, (sh_dT T).1, sh_tabs Ts, k _ _ (Ex.refl _) (by rw [any_T]; exact IsD.bl _)⟩
theorem d_append {to te : TE} {D : Ends} {p : Addr} {xs : List V} {d : PyData} (ho : EvP to σ H (IsR (.ref p))) (hp : H p = some (.lst xs)) (he : EvP te σ H (Is d)) (hl : xs.length ≤ 5000) (k : ∀ H' y, Fr [p] H H' → H' p = some (.lst (xs ++ [y])) → IsD H' y d → D.nx σ H') :
    tDrop (tBG P w K "list" rAppend to (tCons te tNil)) D σ H := ho H (Ex.refl _) _ fun v H1 e1 hv => by
  have hv : v = .ref p := hv
  subst hv
  refine ⟨.inl (.inl ⟨rfl, xs, .inl (.inl (e1 _ _ hp))⟩), ?_⟩
  refine (eas_cons (he.mono e1) eas_nil) H1 (Ex.refl _) _ fun vs H2 e2 hvs => ?_
  obtain ⟨y, rfl, hy⟩ := als1 hvs
  have h2 := e2 _ _ (e1 _ _ hp)
  have t : Tp H2 (upd H2 p (.lst (xs ++ [y]))) := tp_lst h2
  have hl0 : (5000 : Nat) < sizeLine := by decide
  exact ⟨p, xs, y, rfl, rfl, h2, by omega, k _ y (((Fr.ex e1).trans (Fr.ex e2)).trans (Fr.set (by simp) t)) upd_same (IsD.mono t hy)⟩
theorem evf_listKD {α : Type} {val : Hp → V → α → Prop} (mv : MnV val) {td : TE} {d : Addr} {m : List (List Int × α)} (hd : EvP td σ H (IsR (.ref d))) (h : DAt P w encT val H d m) (hz : m.length ≤ 100000) : EvF (tCB (rListKD P w) (tCons td tNil)) σ H ((m.map (·.1)).map dT) := fun H1 e Q k =>
  hd H1 e _ fun v H2 e2 hv => by
    have hv : v = .ref d := hv
    subst hv
    obtain ⟨rows, h1, h2⟩ := (h.ex mv e).ex mv e2
    have hlen := h2.len
    have hds : IsDs H2 (rows.map fun r => V.ref r.2.1) ((m.map (·.1)).map dT) := by
      clear h1 hlen hd h
      revert h2
      generalize rows = rs
      intro h2
      unfold DD at h2
      clear hz k
      induction h2 with
      | nil => exact .nil
      | cons q t ih =>
        refine .cons ?_ ih
        have := q.2.1.1
        rw [q.1, data_T] at this
        exact this
    exact ⟨d, rows, rfl, .inl h1, by omega, fun p hp => k p _ _ (Evl.fresh_back e2 hp) (e2.trans (Ex.new hp)) upd_same (hds.mono (Tp.of (Ex.new hp)))⟩
theorem s_forRev {te : TE} {D : Ends} {g : TG} {body : TS} (m : Nat) (hm : m ≤ 1000) (h : EvP te σ H (Is (.int m)))
    (k : ∀ H2, Ex H H2 → ∃ Pv : Nat → L2.St → Hp → Prop, Pv 0 σ H2 ∧
      (∀ i σ' H', i < m → Pv i σ' H' → ∀ N : L2.St → Hp → Prop, (∀ σ3 H3, Pv (i + 1) σ3 H3 → N σ3 H3) → g (.int ((m - 1 - i : Nat) : Int)) σ' H' fun σ2 H2 => body { D with nx := N, ct := N, bk := D.nx } σ2 H2) ∧ ∀ σ' H', Pv m σ' H' → D.nx σ' H') : tFor (iRevR (tRg1 te)) g body D σ H := h H (Ex.refl _) _ fun v H2 e2 hv => by
  have hv := isInt_get hv
  subst hv
  obtain ⟨Pv, h0, hs, hd⟩ := k H2 e2
  have em : ((m : Int) - 0).toNat = m := by omega
  refine ⟨m, rfl, by omega, by omega, by omega, by omega, for_rangeC Pv h0 (fun i σ' H' hi p => ?_) fun σ' H' p => hd σ' H' (by rw [em] at p; exact p)⟩
  have hi' : i < m := by omega
  have ez : (0 : Int) + ((((m : Int) - 0).toNat : Nat) : Int) - 1 + (i : Nat) * (-1) = ((m - 1 - i : Nat) : Int) := by omega
  rw [ez]
  exact hs i σ' H' hi' p _ fun _ _ q => q
end
end KC
end

section
set_option Elab.async false
set_option linter.all false
set_option autoImplicit false
set_option maxRecDepth 100000
set_option maxHeartbeats 4000000
/-! The law k04: the steps. -/
namespace KC
open PySem L2 PySem.W PyProof.Rows LamX
open Evl (Ex EvT)
/-! ### plain -/
theorem st_snoc (B : List (List Int × Int)) (L : List (List Int)) (p : StP) {i : Nat} {T : List Int} (h : L[i]? = some T) : (L.take (i + 1)).foldl (stN B) p = stN B ((L.take i).foldl (stN B) p) T := by
  rw [List.take_add_one, h, List.foldl_append]; rfl
theorem du_snoc (B : List (List Int × Int)) (L : List (List Int)) (p : StP) {i : Nat} {T : List Int} (h : L[i]? = some T) : (L.take (i + 1)).foldl (duN B) p = duN B ((L.take i).foldl (duN B) p) T := by
  rw [List.take_add_one, h, List.foldl_append]; rfl
theorem du_app (B : List (List Int × Int)) (A : List (List Int)) (L : List Int) (Ss : List (List Int)) : ((A ++ [L]).foldl (duN B) (Ss, [])).2 = (A.foldl (duN B) (Ss, [])).2 ++ [(L, bestR B (Ss ++ A) L)] := by
  rw [List.foldl_append]
  have h := (du_fst B A Ss []).1
  show (A.foldl (duN B) (Ss, [])).2 ++ [(L, bestR B (A.foldl (duN B) (Ss, [])).1 L)] = _
  rw [h]
theorem st_mem (B : List (List Int × Int)) (U : List Int) : ∀ (L : List (List Int)) (p : StP), U ∈ (L.foldl (stN B) p).1 ↔ U ∈ p.1 ∨ U ∈ L
  | [], p => by simp
  | T :: L, p => by
    rw [List.foldl_cons, st_mem B U L]
    unfold stN
    by_cases z : T ∈ p.1
    · rw [if_pos z]
      constructor
      · rintro (h | h)
        · exact .inl h
        · exact .inr (List.mem_cons_of_mem _ h)
      · rintro (h | h)
        · exact .inl h
        · rcases List.mem_cons.mp h with e | e
          · exact .inl (e ▸ z)
          · exact .inr e
    · rw [if_neg z]
      unfold duN
      rw [List.mem_append, List.mem_singleton, List.mem_cons]
      exact or_assoc
theorem st_len (B : List (List Int × Int)) : ∀ (L : List (List Int)) (p : StP), (L.foldl (stN B) p).1.length ≤ p.1.length + L.length ∧ (L.foldl (stN B) p).2.length ≤ p.2.length + L.length
  | [], p => by simp
  | T :: L, p => by
    rw [List.foldl_cons]
    have h := st_len B L (stN B p T)
    rw [List.length_cons]
    unfold stN at h ⊢
    by_cases z : T ∈ p.1
    · rw [if_pos z] at h ⊢
      omega
    · rw [if_neg z] at h ⊢
      unfold duN at h ⊢
      rw [List.length_append, List.length_append, List.length_singleton, List.length_singleton] at h
      omega
theorem tabs_few {n : Nat} {Ss : List (List Int)} (hn : n ≤ 4) (nd : Ss.Nodup) (h : ∀ U ∈ Ss, Tab n U) : Ss.length ≤ 16 := Nat.le_trans (nd_len nd fun U hU => allT_mem.mpr (h U hU)) (allT_len hn)
theorem srtK_perm (Ts : List (List Int)) : (srtK Ts).Perm Ts := List.mergeSort_perm _ _
section
variable {P : Program} {w : World} {K : PySem.W.Frag} {mg : Str → Option Value} {n : Nm}
theorem len_steps {vs : List V} {H : Hp} {Q : VK} {E : XK} (h : sp_steps P w K n vs H Q E) : vs.length = 2 := by
  obtain ⟨_, _, _, rfl, _⟩ := h
  rfl
theorem len_law_due {vs : List V} {H : Hp} {Q : VK} {E : XK} (h : sp_law_due P w K n vs H Q E) : vs.length = 2 := by
  obtain ⟨_, _, _, rfl, _⟩ := h
  rfl
theorem len_law_is_least {vs : List V} {H : Hp} {Q : VK} {E : XK} (h : sp_law_is_least P w K n vs H Q E) : vs.length = 2 := by
  obtain ⟨_, _, _, rfl, _⟩ := h
  rfl
theorem len_law04 {vs : List V} {H : Hp} {Q : VK} {E : XK} (h : sp_law04 P w K n vs H Q E) : vs.length = 1 := by
  obtain ⟨_, _, rfl, _⟩ := h
  rfl
theorem pure_steps {vs : List V} {H : Hp} {Q : VK} {E : XK} (T : Txt K mg n) (h : sp_steps P w K n vs H Q E) : t_steps P w K n E0 { nx := fun _ H' => Q .non H', rt := Q } (start ["cube", "tables", "table", "known", "some", "found", "road"] vs) H := by
  obtain ⟨S, t, Ts, rfl, hc, ht, hTs, hz, hTab, k⟩ := h
  have hn4 := hc.sk.ok.n4
  have hS16 := tabs_few hn4 hc.sk.ok.ndT hc.sk.ok.tab
  refine s_seq (s_forE (ev_var (p := IsL K _) (v := t) rfl ht).sq fun H2 e2 => ⟨fun j σ' H' => ∃ x2, σ' = [some (.ref S.p), some t, x2, none, none, none, none] ∧ Ex H2 H', ⟨_, rfl, Ex.refl _⟩, fun _ _ _ ⟨_, _, e⟩ => e, fun j d v σ' H' hj hv ⟨x2, hσ, e3⟩ N kn => ?_, fun σ' H' ⟨x2, hσ, e3⟩ => ?_⟩)
  · subst hσ
    rw [List.getElem?_map] at hj
    cases hL : Ts[j]? with
    | none => rw [hL] at hj; cases hj
    | some L =>
      rw [hL] at hj
      cases hj
      show tDrop _ _ [some (.ref S.p), some t, some v, none, none, none, none] H'
      exact d_need T (S := S) (L := L) (ev_ref rfl) (ev_var (v := v) rfl hv) (hc.ex (e2.trans e3)) (hTs L (List.mem_of_getElem? hL)) fun H4 e4 => kn _ _ ⟨_, rfl, e3.trans e4⟩
  · subst hσ
    have e23 := e2.trans e3
    have c3 := hc.ex e23
    refine s_asg (ev_sizesOf (S := S) (ev_ref rfl) c3) fun v3 H3 e4 ⟨d, ev, hd⟩ => ?_
    subst ev
    show tSeq _ _ _ [some (.ref S.p), some t, x2, some (.ref d), none, none, none] H3
    have c4 := c3.ex e4
    refine s_asgF (evf_listKD mv_ref (ev_known T (S := S) (ev_ref rfl) c4.sk) c4.sk.kn (by have := c4.sk.ok.lim; omega)) fun a4 xs4 H4 n4 e5 h4 hx4 => ?_
    show tSeq _ _ _ [some (.ref S.p), some t, x2, some (.ref d), some (.ref a4), none, none] H4
    refine s_asgF (evf_lst (ds := []) eds_nil (by simp)) fun a5 xs5 H5 n5 e6 h5 hx5 => ?_
    show tSeq _ _ _ [some (.ref S.p), some t, x2, some (.ref d), some (.ref a4), some (.ref a5), none] H5
    have e05 := ((e23.trans e4).trans e5).trans e6
    have h45 := e6 _ _ h4
    have hx45 := hx4.mono (Tp.of e6)
    have nH4 : H a4 = none := Evl.fresh_back (e23.trans e4) n4
    have nH5 : H a5 = none := Evl.fresh_back ((e23.trans e4).trans e5) n5
    have n45 : a4 ≠ a5 := fun z => by rw [z, n5] at h4; cases h4
    obtain ⟨ta, txs, rfl, hq, hx⟩ := (Mn.mn e05 ht : IsL K (Ts.map dT) H5 t)
    refine s_seq ⟨.ref ta, rfl, ta, txs, Ts, rfl, hq, hx, by omega, fun U hU => by have := (hTs U hU).len hn4; omega, hTab.ext e05, fun H6 ys p eN T6 hy hp => ?_⟩
    have e67 : Ex H6 (upd H6 p (.lst ys)) := Ex.new hp
    have hp7 : (upd H6 p (.lst ys)) p = some (.lst ys) := upd_same
    have T7 := T6.ext e67
    have hy7 := hy.mono (Tp.of e67)
    generalize upd H6 p (.lst ys) = H7 at e67 hp7 T7 hy7
    have eN57 : ExtN H5 H7 := eN.trans (ExtN.of e67)
    have h47 := lst_extN eN57 h45
    have h57 := lst_extN eN57 h5
    have hd7 : DAt P w encT vInt H7 d (sizL S.B S.n) := ((hd.ex mv_int e5).ex mv_int e6).extN mv_int eN57
    have np4 : p ≠ a4 := fun z => by rw [z, lst_extN eN h45] at hp; cases hp
    have np5 : p ≠ a5 := fun z => by rw [z, lst_extN eN h5] at hp; cases hp
    have hlist : ∀ b ∈ [a4, a5], ∃ xs, H7 b = some (.lst xs) := fun b hb => by
      rcases List.mem_cons.mp hb with z | z
      · rw [z]; exact ⟨_, h47⟩
      · rw [List.mem_singleton.mp z]; exact ⟨_, h57⟩
    have hds : d ∉ [a4, a5] := fun z => by
      obtain ⟨xs, q⟩ := hlist d z
      exact d_ne_lst hd7 q rfl
    have hlen := hy7.length
    rw [List.length_map] at hlen
    have hTl : (srtK Ts).length = Ts.length := (srtK_perm Ts).length_eq
    refine .inl ⟨p, rfl, ⟨ys, .inl (.inl hp7)⟩, for_list (K := K) (a := p) (xs := ys) (fun j σ' H' => ∃ x2 x6 xs zs, σ' = [some (.ref S.p), some (.ref ta), x2, some (.ref d), some (.ref a4), some (.ref a5), x6] ∧ Fr [a4, a5] H7 H' ∧ H' a4 = some (.lst xs) ∧ IsDs H' xs ((((srtK Ts).take j).foldl (stN S.B) (S.Ts, [])).1.map dT) ∧ H' a5 = some (.lst zs) ∧ IsDs H' zs ((((srtK Ts).take j).foldl (stN S.B) (S.Ts, [])).2.map (stpD S.B))) ?_ (fun j σ' H' _ ⟨_, _, _, _, _, f, _⟩ => .inl (.inl (f.1 _ _ hp7 (by simp [np4, np5])))) (fun j x σ' H' hj ⟨x2, x6, xs, zs, hσ, f, g4, gx, g5, gz⟩ => ?_) fun σ' H' ⟨x2, x6, xs, zs, hσ, f, g4, gx, g5, gz⟩ => ?_⟩
    · exact ⟨_, _, xs4, xs5, rfl, Fr.refl, h47, hx45.mono (extN_tp eN57), h57, hx5.mono (extN_tp eN57)⟩
    · subst hσ
      obtain ⟨dd, hj1, hxv⟩ := IsDs.get hy7 hj
      rw [List.getElem?_map] at hj1
      cases hL : (srtK Ts)[j]? with
      | none => rw [hL] at hj1; cases hj1
      | some L =>
        rw [hL] at hj1
        cases hj1
        have hLT := hTs L ((srtK_perm Ts).mem_iff.mp (List.mem_of_getElem? hL))
        have hL4 := hLT.len hn4
        have hv := IsD.mono f.2 hxv
        have hst := st_snoc S.B (srtK Ts) (S.Ts, []) hL
        have hln := st_len S.B ((srtK Ts).take j) (S.Ts, [])
        rw [List.length_take] at hln
        have hln1 : (([] : List (List Int × List Int))).length = 0 := rfl
        have hmem := fun U => st_mem S.B U ((srtK Ts).take j) (S.Ts, [])
        have l1 := gx.length
        have l2 := gz.length
        rw [List.length_map] at l1 l2
        show tIfS _ _ _ _ [some (.ref S.p), some (.ref ta), some x, some (.ref d), some (.ref a4), some (.ref a5), x6] H'
        generalize hF : ((srtK Ts).take j).foldl (stN S.B) (S.Ts, []) = F at gx gz hst hln hmem l1 l2
        have hlnA : F.1.length ≤ 416 := by have := hln.1; simp only at this; omega
        have hlnB : F.2.length ≤ 400 := by have := hln.2; simp only [List.length_nil] at this; omega
        have htest : EvT (tTest (tOp (rNotInD K) (tVar 2) (tVar 4))) [some (.ref S.p), some (.ref ta), some x, some (.ref d), some (.ref a4), some (.ref a5), x6] H' (!decide (L ∈ F.1)) := evt_test (ev_notInL (ev_var (p := Is (dT L)) (v := x) rfl hv) (ev_var (p := IsL K _) rfl (isL_at g4 gx)))
        refine s_if htest (fun hb H8 e8 => ?_) fun hb H8 e8 => ?_
        · have hni : L ∉ F.1 := by simpa using hb
          rw [stN, if_neg hni] at hst
          have g48 := e8 _ _ g4
          have g58 := e8 _ _ g5
          have gx8 := gx.mono (Tp.of e8)
          have gz8 := gz.mono (Tp.of e8)
          have hd8 : DAt P w encT vInt H8 d (sizL S.B S.n) := (hd7.fr mv_int f hds).ex mv_int e8
          have hFT : ∀ R ∈ F.1, Tab S.n R := fun R hR => by
            rcases (hmem R).mp hR with q | q
            · exact hc.sk.ok.tab R q
            · exact hTs R ((srtK_perm Ts).mem_iff.mp (List.mem_of_mem_take q))
          have hex : ∃ R ∈ F.1, sub L R = true := ⟨rng S.n, (hmem _).mpr (.inl hc.sk.ok.whole), sub_rng hLT⟩
          have hbT := hFT _ (best_mem (B := S.B) hex)
          refine s_asg (ev_bestRoad (P := P) (w := w) (K := K) (n := n) (d := d) (B := S.B) (Ts := F.1) (L := L) (ev_ref rfl) (ev_var (p := IsL K _) rfl (isL_at g48 gx8)) (ev_var (p := Is (dT L)) (v := x) rfl (IsD.mono (Tp.of e8) hv)) hd8 (by omega) (by omega) (fun R hR => siz_get hn4 (hFT R hR)) hex) fun v6 H9 e9 h6 => ?_
          have e79 := e8.trans e9
          show tSeq _ _ _ [some (.ref S.p), some (.ref ta), some x, some (.ref d), some (.ref a4), some (.ref a5), some v6] H9
          have hx9 := IsD.mono (Tp.of e79) hv
          refine s_seq (d_append (d := stpD S.B (L, bestR S.B F.1 L)) (ev_ref rfl) (e9 _ _ g58) (ev_tup (eds_cons (ev_var (p := Is (dT L)) (v := x) rfl hx9) (eds_cons (ev_var (p := Is (dT (bestR S.B F.1 L))) (v := v6) rfl h6) (eds_cons (ev_sizeAt (d := d) (T := bestR S.B F.1 L) (ev_ref rfl) (ev_var (p := Is (dT (bestR S.B F.1 L))) (v := v6) rfl h6) (hd8.ex mv_int e9) (siz_get hn4 hbT)) eds_nil))) (by simp)) (by omega) fun H10 y f10 g10 hy10 => ?_)
          have gx10 := (gx8.mono (Tp.of e9)).mono f10.2
          have gz10 := (gz8.mono (Tp.of e9)).mono f10.2
          have g410 : H10 a4 = some (.lst xs) := f10.1 _ _ (e9 _ _ g48) (by simpa using n45)
          refine d_append (d := dT L) (ev_ref rfl) g410 (ev_var (p := Is (dT L)) (v := x) rfl (IsD.mono f10.2 hx9)) (by omega) fun H11 u f11 g11 hu11 => ?_
          refine ⟨_, _, xs ++ [u], zs ++ [y], rfl, ((f.trans (Fr.ex e79)).trans (f10.mono fun b hb => by rw [List.mem_singleton.mp hb]; simp)).trans (f11.mono fun b hb => by rw [List.mem_singleton.mp hb]; simp), g11, ?_, f11.1 _ _ g10 (by simpa using fun z => n45 z.symm), ?_⟩
          · rw [hst]
            unfold duN
            rw [List.map_append]
            exact (gx10.mono f11.2).snoc hu11
          · rw [hst]
            unfold duN
            rw [List.map_append]
            exact (gz10.mono f11.2).snoc (IsD.mono f11.2 hy10)
        · have hi : L ∈ F.1 := by simpa using hb
          rw [stN, if_pos hi] at hst
          refine ⟨_, _, xs, zs, rfl, f.trans (Fr.ex e8), e8 _ _ g4, ?_, e8 _ _ g5, ?_⟩
          · rw [hst]; exact gx.mono (Tp.of e8)
          · rw [hst]; exact gz.mono (Tp.of e8)
    · subst hσ
      rw [hlen, List.take_length] at gz
      have eN0 : ExtN H H' := fun b o q nt => f.1 _ _ (eN57 _ _ (e05 _ _ q) nt) (by
        intro z
        rcases List.mem_cons.mp z with z | z
        · rw [z, nH4] at q; cases q
        · rw [List.mem_singleton.mp z, nH5] at q; cases q)
      exact ⟨.ref a5, rfl, k a5 zs H' nH5 eN0 (Tabs.fr f hlist T7) g5 gz⟩
theorem ev_lawBest {σ : L2.St} {H : Hp} {tm ts tt : TE} {M : MS} {Ss : List (List Int)} {L : List Int} (hp : EvP tm σ H (IsR (.ref M.p))) (hs : EvP ts σ H (IsL K (Ss.map dT))) (ht : EvP tt σ H (Is (dT L))) (hM : MAt P w H M) (hL : Tab M.n L) (hS : ∀ R ∈ Ss, Tab M.n R) (hz : Ss.length ≤ 1000) (hr : M.rows.length < 64) (h3 : L.length ≤ 3) (hex : ∃ R ∈ Ss, sub L R = true) :
    EvP (tCall (sp_law_best P w K n) [] E0 (tCons tm (tCons ts (tCons tt tNil)))) σ H (Is (dT (bestR M.rows Ss L))) :=
  ev_call (ps := [IsR (.ref M.p), IsL K (Ss.map dT), Is (dT L)]) (eas_cons hp (eas_cons hs (eas_cons ht eas_nil))) fun vs H1 e1 hv Q q => by
    obtain ⟨u1, u2, u3, rfl, p1, p2, p3⟩ := als3 hv
    have p1 : u1 = .ref M.p := p1
    subst p1
    exact ⟨M, u2, u3, Ss, L, rfl, hM.ex e1, p2, p3, hL, hS, hz, hr, h3, hex, fun v H2 e2 hv2 => q v H2 e2 hv2⟩
theorem left_get {N : Nat} {Ss Ts : List (List Int)} {U : List Int} (h : U ∈ leftL N Ss Ts) : Tab N U ∧ U ∉ Ss := by
  unfold leftL at h
  rw [List.mem_filter, allT_mem, Bool.and_eq_true, Bool.not_eq_true', decide_eq_true_iff, decide_eq_false_iff_not] at h
  exact ⟨h.1, h.2.2⟩
theorem ord_few {N : Nat} (hN : N ≤ 4) (Ss Ts : List (List Int)) (m : Nat) : (ordL (leftL N Ss Ts) m).length ≤ 16 :=
  tabs_few hN (ord_nd ((allT_nd hN).sublist List.filter_sublist) m) fun U hU => (left_get ((ord_mem m).mp hU).1).1
theorem pure_law_due {vs : List V} {H : Hp} {Q : VK} {E : XK} (T : Txt K mg n) (h : sp_law_due P w K n vs H Q E) : t_law_due P w K n E0 { nx := fun _ H' => Q .non H', rt := Q } (start ["_law_m", "_law_tables", "_law_some", "_law_found", "_law_left", "_law_many", "_law_table_here", "_law_road", "_law_one"] vs) H := by
  obtain ⟨M, t, Ts, rfl, hM, ht, hz, hr, hTs, k⟩ := h
  have hn4 := hM.n4
  have hS := Ts_tab hM
  have hS16 := tabs_few hn4 (MS.Ts_nd hM.nd hM.nw) hS
  have hwM : rng M.n ∈ M.Ts := List.mem_cons_self
  refine s_asgF (evf_standing (ev_ref rfl) hM) fun a2 xs2 H1 n2 e1 h2 hx2 => ?_
  show tSeq _ _ _ [some (.ref M.p), some t, some (.ref a2), none, none, none, none, none, none] H1
  refine s_asgF (evf_lst (ds := []) eds_nil (by simp)) fun a3 xs3 H2 n3 e2 h3 hx3 => ?_
  show tSeq _ _ _ [some (.ref M.p), some t, some (.ref a2), some (.ref a3), none, none, none, none, none] H2
  have e12 := e1.trans e2
  have m2 := hM.ex e12
  have h22 := e2 _ _ h2
  have hx22 := hx2.mono (Tp.of e2)
  have nH3 : H a3 = none := Evl.fresh_back e1 n3
  have n23 : a2 ≠ a3 := fun z => by rw [z, n3] at h2; cases h2
  have hall := evf_all (P := P) (w := w) (K := K) (n := n) (te := tDGet (tVar 0) (tC (.str "edges"))) (σ := [some (.ref M.p), some t, some (.ref a2), some (.ref a3), none, none, none, none, none]) (ev_medges (M := M) (ev_ref rfl) m2.ob) hn4
  have hlc := evf_lc (P := P) (w := w) (K := K) (g := gName 6) (tt := tAnd (tTest (tOp (rInD K) (tVar 6) (tVar 1))) (tTest (tOp (rNotInD K) (tVar 6) (tVar 2)))) (te := tVar 6) (vs := [6]) (σ := [some (.ref M.p), some t, some (.ref a2), some (.ref a3), none, none, none, none, none]) (H := H2) dT (fun T => decide (T ∈ Ts) && !decide (T ∈ M.Ts)) dT (allT M.n) (hall.l (K := K)).sq (line1000 (by have := allT_len hn4; omega)) fun L hL v H' e hv =>
    turn_of (evt_and (evt_test (ev_inL (ev_var (p := Is (dT L)) (v := v) rfl hv) (ev_var (p := IsL K _) (v := t) rfl (Mn.mn (e12.trans e) ht)))) fun _ => evt_test (ev_notInL (ev_var (p := Is (dT L)) (v := v) rfl hv) (ev_var (p := IsL K _) rfl (isL_at (e _ _ h22) (hx22.mono (Tp.of e)))))) fun _ => ev_var (p := Is (dT L)) (v := v) rfl hv
  refine s_asgF hlc fun a4 xs4 H3 n4 e3 h4 hx4 => ?_
  have hx4 : IsDs H3 xs4 ((leftL M.n M.Ts Ts).map dT) := hx4
  show tSeq _ _ _ [some (.ref M.p), some t, some (.ref a2), some (.ref a3), some (.ref a4), none, none, none, none] H3
  have e13 := e12.trans e3
  have m3 := hM.ex e13
  have n24 : a4 ≠ a2 := fun z => by rw [z, h22] at n4; cases n4
  have n34 : a4 ≠ a3 := fun z => by rw [z, h3] at n4; cases n4
  have hN : EvP (tOp (rPlus K) (tDGet (tVar 0) (tC (.str "edges"))) (tC (.int 1))) [some (.ref M.p), some t, some (.ref a2), some (.ref a3), some (.ref a4), none, none, none, none] H3 (Is (.int ((M.n + 1 : Nat) : Int))) := by
    rw [show ((M.n + 1 : Nat) : Int) = (M.n : Int) + 1 from by omega]
    exact ev_add (K := K) (ev_medges (M := M) (ev_ref rfl) m3.ob) (ev_int 1)
  have hMf : ∀ b ∈ M.foot, b ∉ [a2, a3] := fun b hb z => by
    have := m_tracked hM b hb
    rcases List.mem_cons.mp z with z | z
    · exact this (z ▸ n2)
    · exact this (List.mem_singleton.mp z ▸ nH3)
  have hlcap := leftL M.n M.Ts Ts
  have hol := ord_few hn4 M.Ts Ts (M.n + 1)
  refine s_seq (s_forRev (M.n + 1) (by omega) hN fun H4 e4 => ⟨fun i σ' H' => ∃ x5 x6 x7 xs zs pre, σ' = [some (.ref M.p), some t, some (.ref a2), some (.ref a3), some (.ref a4), x5, x6, x7, none] ∧ Fr [a2, a3] H4 H' ∧ pre ++ ordL (leftL M.n M.Ts Ts) (M.n + 1 - i) = ordL (leftL M.n M.Ts Ts) (M.n + 1) ∧ H' a2 = some (.lst xs) ∧ IsDs H' xs ((M.Ts ++ pre).map dT) ∧ H' a3 = some (.lst zs) ∧ IsDs H' zs ((pre.foldl (duN M.rows) (M.Ts, [])).2.map (stpD M.rows)), ?_, fun i σ' H' hi ⟨x5, x6, x7, xs, zs, pre, hσ, f, hpre, g2, gx, g3, gz⟩ N kn => ?_, fun σ' H' ⟨x5, x6, x7, xs, zs, pre, hσ, f, hpre, g2, gx, g3, gz⟩ => ?_⟩)
  · exact ⟨_, _, _, xs2, xs3, [], rfl, Fr.refl, rfl, e4 _ _ (e3 _ _ h22), by rw [List.append_nil]; exact hx22.mono (Tp.of (e3.trans e4)), e4 _ _ (e3 _ _ h3), hx3.mono (Tp.of (e3.trans e4))⟩
  · subst hσ
    have ec : M.n + 1 - i = (M.n + 1 - 1 - i) + 1 := by omega
    rw [ec, ordL, ← List.append_assoc] at hpre
    generalize hc : M.n + 1 - 1 - i = c at hpre
    have ec2 : M.n + 1 - (i + 1) = c := by omega
    show tFor _ _ _ _ [some (.ref M.p), some t, some (.ref a2), some (.ref a3), some (.ref a4), some (.int (c : Nat)), x6, x7, none] H'
    have h4' : H' a4 = some (.lst xs4) := f.1 _ _ (e4 _ _ h4) (by simp [n24, n34])
    have hx4' := (hx4.mono (Tp.of e4)).mono f.2
    have hL1 : ∀ U ∈ leftL M.n M.Ts Ts, U.length ≤ 4 := fun U hU => (left_get hU).1.len hn4
    have hl16 : (leftL M.n M.Ts Ts).length ≤ 16 := tabs_few hn4 ((allT_nd hn4).sublist List.filter_sublist) fun U hU => (left_get hU).1
    have hlc2 := evf_lc (P := P) (w := w) (K := K) (g := gName 8) (tt := tTest (tOp (rEqU P w K) (tCB (rLenA P w K) (tCons (tVar 8) tNil)) (tVar 5))) (te := tVar 8) (vs := [8]) (σ := [some (.ref M.p), some t, some (.ref a2), some (.ref a3), some (.ref a4), some (.int (c : Nat)), x6, x7, none]) (H := H') (tl := tVar 4) dT (fun T => decide ((T.length : Int) = (c : Int))) dT (leftL M.n M.Ts Ts) (ev_var (p := IsL K _) rfl (isL_at h4' hx4')).sq (line1000 (by omega)) fun L hL v H8 e hv => turn_of (evt_test (by
        have gl := ev_len (P := P) (w := w) (K := K) (σ := ((wipe [some (.ref M.p), some t, some (.ref a2), some (.ref a3), some (.ref a4), some (.int (c : Nat)), x6, x7, none] [8]).set 8 (some v))) (H := H8) (a := tVar 8) ((ev_var (p := Is (dT L)) (v := v) rfl hv).tq)
        rw [List.length_map] at gl
        exact ev_eqI gl (ev_vi (i := 5) (z := (c : Int)) rfl))) fun _ => ev_var (p := Is (dT L)) (v := v) rfl hv
    rw [show (leftL M.n M.Ts Ts).filter (fun T => decide ((T.length : Int) = (c : Int))) = ofLen (leftL M.n M.Ts Ts) c from by
      unfold ofLen
      congr 1
      funext T
      by_cases z : T.length = c
      · rw [decide_eq_true z, decide_eq_true (by omega)]
      · rw [decide_eq_false z, decide_eq_false (by omega)]] at hlc2
    refine s_forF hlc2 fun p ys H5 np e5 hp hy => ?_
    have hp2 : p ≠ a2 := fun z => by rw [z, g2] at np; cases np
    have hp3 : p ≠ a3 := fun z => by rw [z, g3] at np; cases np
    refine ⟨fun j σ' H' => ∃ x6 x7 xs zs, σ' = [some (.ref M.p), some t, some (.ref a2), some (.ref a3), some (.ref a4), some (.int (c : Nat)), x6, x7, none] ∧ Fr [a2, a3] H5 H' ∧ H' a2 = some (.lst xs) ∧ IsDs H' xs ((M.Ts ++ (pre ++ (ofLen (leftL M.n M.Ts Ts) c).take j)).map dT) ∧ H' a3 = some (.lst zs) ∧ IsDs H' zs (((pre ++ (ofLen (leftL M.n M.Ts Ts) c).take j).foldl (duN M.rows) (M.Ts, [])).2.map (stpD M.rows)), ?_, fun _ _ H' ⟨_, _, _, _, _, fr, _⟩ => fr.1 _ _ hp (by simp [hp2, hp3]), fun j x σ' H6 hj ⟨x6, x7, xs, zs, hσ, f6, g2, gx, g3, gz⟩ N2 kn2 => ?_, fun σ' H6 ⟨x6, x7, xs, zs, hσ, f6, g2, gx, g3, gz⟩ => ?_⟩
    · exact ⟨_, _, xs, zs, rfl, Fr.refl, e5 _ _ g2, by rw [List.take_zero, List.append_nil]; exact gx.mono (Tp.of e5), e5 _ _ g3, by rw [List.take_zero, List.append_nil]; exact gz.mono (Tp.of e5)⟩
    · subst hσ
      obtain ⟨dd, hj1, hxv⟩ := IsDs.get hy hj
      rw [List.getElem?_map] at hj1
      cases hL : (ofLen (leftL M.n M.Ts Ts) c)[j]? with
      | none => rw [hL] at hj1; cases hj1
      | some L =>
        rw [hL] at hj1
        cases hj1
        have hLm : L ∈ leftL M.n M.Ts Ts := (List.mem_filter.mp (List.mem_of_getElem? hL)).1
        obtain ⟨hLT, hLS⟩ := left_get hLm
        have hL3 : L.length ≤ 3 := by
          have := tab_lt hLT fun z => hLS (z ▸ hwM)
          omega
        have hsnoc : pre ++ (ofLen (leftL M.n M.Ts Ts) c).take (j + 1) = pre ++ (ofLen (leftL M.n M.Ts Ts) c).take j ++ [L] := by
          rw [List.take_add_one, hL, List.append_assoc]; rfl
        have hin : ∀ U ∈ pre ++ (ofLen (leftL M.n M.Ts Ts) c).take j, Tab M.n U := fun U hU => by
          have : U ∈ ordL (leftL M.n M.Ts Ts) (M.n + 1) := by
            rw [← hpre]
            refine List.mem_append_left _ ?_
            rcases List.mem_append.mp hU with q | q
            · exact List.mem_append_left _ q
            · exact List.mem_append_right _ (List.mem_of_mem_take q)
          exact (left_get ((ord_mem _).mp this).1).1
        have hlen : (pre ++ (ofLen (leftL M.n M.Ts Ts) c).take j).length ≤ 16 := by
          rw [← hpre] at hol
          rw [List.length_append, List.length_append] at hol
          rw [List.length_append, List.length_take]
          omega
        have hfst := du_fst M.rows (pre ++ (ofLen (leftL M.n M.Ts Ts) c).take j) M.Ts []
        generalize hA : pre ++ (ofLen (leftL M.n M.Ts Ts) c).take j = A at gx gz hsnoc hin hlen hfst
        have hf2 : (A.foldl (duN M.rows) (M.Ts, [])).2.length = A.length := by
          have := congrArg List.length hfst.2
          rwa [List.length_map, List.map_nil, List.nil_append] at this
        have l1 := gx.length
        have l2 := gz.length
        rw [List.length_map] at l1 l2
        rw [List.length_append] at l1
        have hd' := du_app M.rows A L M.Ts
        have hv := IsD.mono f6.2 hxv
        have m6 : MAt P w H6 M := (((m3.ex e4).fr f hMf).ex e5).fr f6 hMf
        have hST : ∀ R ∈ M.Ts ++ A, Tab M.n R := fun R hR => (List.mem_append.mp hR).elim (hS R) (hin R)
        have hex : ∃ R ∈ M.Ts ++ A, sub L R = true := ⟨rng M.n, List.mem_append_left _ hwM, sub_rng hLT⟩
        have hbT := hST _ (best_mem (B := M.rows) hex)
        show tSeq _ _ _ [some (.ref M.p), some t, some (.ref a2), some (.ref a3), some (.ref a4), some (.int (c : Nat)), some x, x7, none] H6
        refine s_asg (ev_lawBest (P := P) (w := w) (K := K) (n := n) (M := M) (Ss := M.Ts ++ A) (L := L) (ev_ref rfl) (ev_var (p := IsL K _) rfl (isL_at g2 gx)) (ev_var (p := Is (dT L)) (v := x) rfl hv) m6 hLT hST (by rw [List.length_append]; omega) hr hL3 hex) fun v7 H7 e7 h7 => ?_
        show tSeq _ _ _ [some (.ref M.p), some t, some (.ref a2), some (.ref a3), some (.ref a4), some (.int (c : Nat)), some x, some v7, none] H7
        have m7 := m6.ex e7
        have hv7 := IsD.mono (Tp.of e7) hv
        refine s_seq (d_append (d := stpD M.rows (L, bestR M.rows (M.Ts ++ A) L)) (ev_ref rfl) (e7 _ _ g3) (ev_tup (eds_cons (ev_var (p := Is (dT L)) (v := x) rfl hv7) (eds_cons (ev_var (p := Is (dT (bestR M.rows (M.Ts ++ A) L))) (v := v7) rfl h7) (eds_cons (ev_size (P := P) (w := w) (K := K) (n := n) (M := M) (L := bestR M.rows (M.Ts ++ A) L) (tm := tVar 0) (tt := tVar 7) (ev_ref rfl) (ev_var (p := Is (dT (bestR M.rows (M.Ts ++ A) L))) (v := v7) rfl h7) m7.mr hbT hr) eds_nil))) (by simp)) (by omega) fun H8 y f8 g38 hy8 => ?_)
        have g28 : H8 a2 = some (.lst xs) := f8.1 _ _ (e7 _ _ g2) (by simpa using n23)
        refine d_append (d := dT L) (ev_ref rfl) g28 (ev_var (p := Is (dT L)) (v := x) rfl (IsD.mono f8.2 hv7)) (by omega) fun H9 u f9 g29 hu9 => ?_
        refine kn2 _ _ ⟨_, _, xs ++ [u], zs ++ [y], rfl, ((f6.trans (Fr.ex e7)).trans (f8.mono fun b hb => by rw [List.mem_singleton.mp hb]; simp)).trans (f9.mono fun b hb => by rw [List.mem_singleton.mp hb]; simp), g29, ?_, f9.1 _ _ g38 (by simpa using fun z => n23 z.symm), ?_⟩
        · rw [hsnoc, ← List.append_assoc, List.map_append]
          exact (((gx.mono (Tp.of e7)).mono f8.2).mono f9.2).snoc hu9
        · rw [hsnoc, hd', List.map_append]
          exact (((gz.mono (Tp.of e7)).mono f8.2).mono f9.2).snoc (IsD.mono f9.2 hy8)
    · subst hσ
      have hl := hy.length
      rw [List.length_map] at hl
      rw [hl, List.take_length] at gx gz
      exact kn _ _ ⟨_, _, _, xs, zs, pre ++ ofLen (leftL M.n M.Ts Ts) c, rfl, (f.trans (Fr.ex e5)).trans f6, by rw [ec2]; exact hpre, g2, gx, g3, gz⟩
  · subst hσ
    rw [Nat.sub_self, ordL, List.append_nil] at hpre
    rw [hpre] at gz
    have hback : Ex H H' := fun b o q => f.1 _ _ (e4 _ _ (e13 _ _ q)) (by
      intro z
      rcases List.mem_cons.mp z with z | z
      · rw [z, n2] at q; cases q
      · rw [List.mem_singleton.mp z, nH3] at q; cases q)
    exact ⟨.ref a3, rfl, k a3 zs H' nH3 hback g3 gz⟩
theorem pure_law_is_least {vs : List V} {H : Hp} {Q : VK} {E : XK} (T : Txt K mg n) (h : sp_law_is_least P w K n vs H Q E) : t_law_is_least P w K n E0 { nx := fun _ H' => Q .non H', rt := Q } (start ["_law_m", "_law_found", "_law_some", "_law_table_here", "_law_road", "_law_rows", "_law_one"] vs) H := by
  obtain ⟨M, t, L, rfl, hM, ht, hz, hr, hO, k⟩ := h
  have hn4 := hM.n4
  have hS16 := tabs_few hn4 (MS.Ts_nd hM.nd hM.nw) (Ts_tab hM)
  have hst := evf_standing (P := P) (w := w) (K := K) (n := n) (M := M) (te := tVar 0) (σ := [some (.ref M.p), some t, none, none, none, none, none]) (ev_ref rfl) hM
  have hlc := evf_lc (P := P) (w := w) (K := K) (g := gName 6) (tt := tYes) (te := tOp (rIxU P w K) (tVar 6) (tC (.int 0))) (vs := [6]) (σ := [some (.ref M.p), some t, none, none, none, none, none]) (H := H) (tl := tVar 1) (stpD M.rows) (fun _ => true) (fun e => dT e.1) L (ev_var (p := IsL K _) (v := t) rfl ht).sq (line1000 (by omega)) fun e he v H' ee hv => turn_of evt_yes fun _ =>
    ev_at (i := 0) (ds := [dT e.1, dT e.2, .int (cntT M.rows e.2 : Nat)]) (ev_var (p := Is (stpD M.rows e)) (v := v) rfl hv) rfl
  rw [filter_all, show L.map (fun e => dT e.1) = (L.map (·.1)).map dT from by rw [List.map_map]; rfl] at hlc
  refine s_asgF (evf_cat (K := K) hst.m hlc (by rw [List.length_map, List.length_map, List.length_map]; omega)) fun a2 xs2 H1 n2 e1 h2 hx2 => ?_
  rw [← List.map_append] at hx2
  show tSeq _ _ _ [some (.ref M.p), some t, some (.ref a2), none, none, none, none] H1
  refine s_seq (s_forE (ev_var (p := IsL K _) (v := t) rfl (Mn.mn e1 ht)).sq fun H2 e2 => ⟨fun j σ' H' => ∃ x3 x4 x5, σ' = [some (.ref M.p), some t, some (.ref a2), x3, x4, x5, none] ∧ Ex H2 H', ⟨_, _, _, rfl, Ex.refl _⟩, fun _ _ _ ⟨_, _, _, _, e⟩ => e, fun j d v σ' H' hj hv ⟨x3, x4, x5, hσ, e3⟩ N kn => ?_, fun σ' H' ⟨x3, x4, x5, hσ, e3⟩ => ?_⟩)
  · subst hσ
    rw [List.getElem?_map] at hj
    cases hL : L[j]? with
    | none => rw [hL] at hj; cases hj
    | some e =>
      rw [hL] at hj
      cases hj
      have he := List.mem_of_getElem? hL
      have eH := (e1.trans e2).trans e3
      have m4 := hM.ex eH
      have h24 := (e2.trans e3) _ _ h2
      have hx24 := hx2.mono (Tp.of (e2.trans e3))
      obtain ⟨p, ws, rfl, hp, hs⟩ := isTup_get hv
      obtain ⟨v1, ws, rfl, q1, hs⟩ := isDs_cons hs
      obtain ⟨v2, ws, rfl, q2, hs⟩ := isDs_cons hs
      obtain ⟨v3, ws, rfl, q3, hs⟩ := isDs_cons hs
      have := isDs_nil hs
      subst this
      have q3 := isInt_get q3
      subst q3
      refine ⟨p, _, rfl, hp.sq, rfl, _, _, rfl, _, _, rfl, _, _, rfl, rfl, ?_⟩
      show tIfS _ _ _ _ [some (.ref M.p), some t, some (.ref a2), some v1, some v2, some (.int (cntT M.rows e.2 : Nat)), none] H'
      have hall : ∀ U ∈ M.Ts ++ L.map (·.1), Tab M.n U := fun U hU => by
        rcases List.mem_append.mp hU with q | q
        · exact hO.ss U q
        · obtain ⟨e', he', rfl⟩ := List.mem_map.mp q
          exact hO.tab e' he'
      have h1 := evf_lc (P := P) (w := w) (K := K) (g := gName 6) (tt := tAnd (tTest (tOp (rNeD K) (tVar 6) (tVar 3))) (tTest (tOp (rEqU P w K) (tOp (rMinus P w) (tCB (rSetC P w K) (tCons (tVar 3) tNil)) (tCB (rSetC P w K) (tCons (tVar 6) tNil))) (tCB (rSetC P w K) (tCons (tLst tNil) tNil))))) (te := tCall (sp_law_size P w K n) [] E0 (tCons (tVar 0) (tCons (tVar 6) tNil))) (vs := [6]) (σ := [some (.ref M.p), some t, some (.ref a2), some v1, some v2, some (.int (cntT M.rows e.2 : Nat)), none]) (H := H') (tl := tVar 2) dT (fun U => !decide (U = e.1) && sub e.1 U) (fun U => .int (cntT M.rows U : Nat)) (M.Ts ++ L.map (·.1)) (ev_var (p := IsL K _) rfl (isL_at h24 hx24)).sq (line1000 (by rw [List.length_append, List.length_map]; omega)) fun U hU u H5 e5 hu => turn_of (evt_and (by
          have := ev_ne (K := K) (a := tVar 6) (b := tVar 3) (σ := ((wipe [some (.ref M.p), some t, some (.ref a2), some v1, some v2, some (.int (cntT M.rows e.2 : Nat)), none] [6]).set 6 (some u))) (H := H5) (d := dT U) (e := dT e.1) (ev_var (p := Is (dT U)) (v := u) rfl hu) (ev_var (p := Is (dT e.1)) (v := v1) rfl (IsD.mono (Tp.of e5) q1)) (sh_dT _).1 (sh_dT _).1
          rw [eqv_T] at this
          exact evt_test this) fun _ => evt_test (ev_setsub (ev_var (p := Is (dT e.1)) (v := v1) rfl (IsD.mono (Tp.of e5) q1)) (ev_var (p := Is (dT U)) (v := u) rfl hu) (hO.l3 e he) (by have := (hall U hU).len hn4; omega))) fun _ =>
        ev_size (M := M) (ev_ref rfl) (ev_var (p := Is (dT U)) (v := u) rfl hu) (m4.ex e5).mr (hall U hU) hr
      rw [rows_data] at h1
      have hmin := ev_minI (h1.l (K := K)) (m := (cntT M.rows e.2 : Int)) (List.mem_map.mpr ⟨e.2, List.mem_filter.mpr ⟨hO.mem e he, by rw [hO.sub e he, decide_eq_false (hO.ne e he)]; rfl⟩, rfl⟩) fun y hy => by
        obtain ⟨U, hU, rfl⟩ := List.mem_map.mp hy
        have hU := List.mem_filter.mp hU
        have hb : U ≠ e.1 ∧ sub e.1 U = true := by simpa using hU.2
        have := hO.min e he U hU.1 hb.1 hb.2
        omega
      have hne := ev_neI (K := K) (ev_vi (i := 5) (z := (cntT M.rows e.2 : Int)) rfl) hmin
      rw [decide_eq_true rfl] at hne
      refine s_if (b := false) (evt_test hne) (fun z => by cases z) fun _ H6 e6 => kn _ _ ⟨_, _, _, rfl, e3.trans e6⟩
  · subst hσ
    exact k H' ((e1.trans e2).trans e3)
/-! ### the first rows, and what was there stays -/
theorem s_grownX {H : Hp} {D : Ends} {u : TS} {a : Addr} {ns : List Int} {rest : L2.St} {iN iD : Int} (N Dn : Nat) (eN : iN = N) (eD : iD = Dn) (hN1 : 1 ≤ N) (hN : N ≤ 4) (hD : Dn ≤ 62) (hS : SqL K H a (ns.map V.int)) (hl : ns.length ≤ 63)
    (k : ∀ r g S M H', Ex H H' → Turn0 P w K n.cube r a S.p M.p Dn H' S M → M.n ≤ N → u D (some (.ref a) :: some (.ref r) :: some (.ref g) :: some (.ref S.p) :: some (.ref M.p) :: rest) H') :
    tSeq (tAsg (tLst (tCons (tVar 0) (tCons (tC (.int 0)) (tCons (tC (.int 0)) tNil)))) (gName 1)) (tSeq (tAsg (tCall (sp_law_grown P w K n) [] E0 (tCons (tVar 1) (tCons (tC (.int iN)) (tCons (tC (.int iD)) tNil)))) (gName 2))
      (tSeq (tIfS (tTest (tOp rIsN (tVar 2) (tC .non))) (tRet (tC (.bl false))) tNext) (tSeq (tAsg (tVar 2) (gTup K 2 (gCons (gName 3) (gCons (gName 4) gNil)))) u))) D (some (.ref a) :: none :: none :: none :: none :: rest) H := by
  subst eN eD
  refine s_rawAsg ⟨.ref a, rfl, (by show 3 ≤ sizeLine; decide), fun r nr => ?_⟩
  have hR1 := row_start (r := r) hS hl nr
  show tSeq _ _ _ (some (.ref a) :: some (.ref r) :: none :: none :: none :: rest) (upd H r (.lst [.ref a, .int 0, .int 0]))
  have e01 : Ex H (upd H r (.lst [.ref a, .int 0, .int 0])) := Ex.new nr
  generalize upd H r (.lst [.ref a, .int 0, .int 0]) = H1 at hR1 e01
  refine s_rawAsg (x_call (ps := [IsR (.ref r), Is (.int N), Is (.int Dn)]) (eas_cons (ev_ref rfl) (eas_cons (ev_int _) (eas_cons (ev_int _) eas_nil))) fun vs H2 e2 hv => ?_)
  obtain ⟨u1, u2, u3, rfl, p1, p2, p3⟩ := als3 hv
  have p1 : u1 = .ref r := p1
  have p2 := isInt_get p2
  have p3 := isInt_get p3
  subst p1 p2 p3
  refine ⟨r, a, N, Dn, rfl, hR1.ex e2, hN1, hN, hD, fun S M g H3 f3 hSf hMf hMn T hp => ?_⟩
  have e03 : Ex H H3 := fun b o q => f3.1 _ _ (e2 _ _ (e01 _ _ q)) (by simpa using ne_of_none q nr)
  show tSeq _ _ _ (some (.ref a) :: some (.ref r) :: some (.ref g) :: none :: none :: rest) H3
  refine s_ifF (fun H4 e4 Q kk => ⟨.ref g, rfl, rfl, _, rfl, ?_⟩) fun H4 e4 => ?_
  · rw [decide_eq_false (fun z => by cases z)]
    exact kk H4 (Ex.refl _)
  · refine s_rawAsgG ⟨.ref g, rfl, g, _, rfl, (hp.mono (Tp.of e4)).sq, rfl, _, _, rfl, _, _, rfl, rfl, ?_⟩
    exact k r g S M H4 (e03.trans e4) (T.ex e4) hMn
theorem Turn0.away {C r s p q : Addr} {i : Nat} {N H H' : Hp} {S : CS} {M : MS} {L : List Addr} (T0 : Turn0 P w K C r s p q i N S M) (T : Turn0 P w K C r s p q i H S M) (f : Fr L H H') (hN : ∀ b ∈ L, N b = none) : Turn0 P w K C r s p q i H' S M := by
  have c8 : ∀ b, N b ≠ none → b ∉ L := fun b hb z => hb (hN b z)
  exact ⟨T.row.fr f (c8 r (row_some T0.row)) ((row_tracked T0.row).imp id fun h => c8 s h), ⟨T.both.c.fr f fun b hb => c8 b (foot_tracked T0.both.c b hb), T.both.m.fr f fun b hb => c8 b (m_tracked T0.both.m b hb), T.both.nn, T.both.bb, T.both.tt, T.both.gg, T.both.apart⟩, T.rS, T.rM, T.ss, T.hp, T.hq, T.rows, T.kept⟩
theorem stp_ok (B : List (List Int × Int)) (e : List Int × List Int) : Sh (stpD B e) ∧ (stpD B e).depth ≤ 2 := sh_tupD (k := 1) (fun d hd => by
  rcases List.mem_cons.mp hd with h | h
  · rw [h]; exact sh_dT _
  · rcases List.mem_cons.mp h with h | h
    · rw [h]; exact sh_dT _
    · rw [List.mem_singleton.mp h]; exact sh_up (sh_intD _) (by omega)) (by omega)
theorem siz_ok (B : List (List Int × Int)) (L : List Int) : Sh (sizD B L) ∧ (sizD B L).depth ≤ 2 := sh_tupD (k := 1) (fun d hd => by
  rcases List.mem_cons.mp hd with h | h
  · rw [h]; exact sh_dT _
  · rw [List.mem_singleton.mp h]; exact sh_up (sh_intD _) (by omega)) (by omega)
theorem stp_small {B : List (List Int × Int)} {e : List Int × List Int} (h1 : e.1.length ≤ 1000) (h2 : e.2.length ≤ 1000) : smallD (stpD B e) = true := by
  unfold stpD
  rw [smallD, smallAll, smallAll, smallAll, smallAll, small_T h1, small_T h2, smallD]; rfl
theorem siz_small {B : List (List Int × Int)} {L : List Int} (h : L.length ≤ 1000) : smallD (sizD B L) = true := by
  unfold sizD
  rw [smallD, smallAll, smallAll, smallAll, small_T h, smallD]; rfl
theorem sizD_perm {B B' : List (List Int × Int)} (p : B.Perm B') : sizD B = sizD B' := funext fun e => by unfold sizD; rw [cntT_perm p]
theorem left_perm {N : Nat} {Ss Ss' Ts : List (List Int)} (p : Ss.Perm Ss') : leftL N Ss Ts = leftL N Ss' Ts := by
  unfold leftL
  congr 1
  funext T
  by_cases z : T ∈ Ss
  · rw [decide_eq_true z, decide_eq_true (p.mem_iff.mp z)]
  · rw [decide_eq_false z, decide_eq_false fun q => z (p.mem_iff.mpr q)]
theorem steps_due {B B' : List (List Int × Int)} {N : Nat} {Ss Ss' Ts : List (List Int)} (hN : N ≤ 4) (hT : ∀ T ∈ Ts, Tab N T) (pB : B.Perm B') (pS : Ss.Perm Ss') : ((srtK Ts).foldl (stN B) (Ss, [])).2 = ((ordL (leftL N Ss' Ts) (N + 1)).foldl (duN B') (Ss', [])).2 := by
  rw [ded_fold, steps_order hN hT, left_perm pS]
  exact du_congr pB _ _ _ _ pS
theorem pure_law_k04 {vs : List V} {H : Hp} {Q : VK} {E : XK} (T : Txt K mg n) (h : sp_law04 P w K n vs H Q E) : t_law_k04 P w K n E0 { nx := fun _ H' => Q .non H', rt := Q } (start ["_law_script", "_law_row", "_law_grown_here", "_law_cube", "_law_m", "_law_due_here", "_law_turn", "_law_tables", "_law_handed", "_law_found", "_law_told", "_law_table_here", "_law_k"] vs) H := by
  obtain ⟨a, ns, rfl, hS, hl, hTab, k⟩ := h
  refine s_grownX (rest := [none, none, none, none, none, none, none, none]) 4 40 rfl rfl (by decide) (by decide) (by decide) hS hl fun r g S M H1 e01 T1 hMn => ?_
  show tSeq _ _ _ [some (.ref a), some (.ref r), some (.ref g), some (.ref S.p), some (.ref M.p), none, none, none, none, none, none, none, none] H1
  have hTb1 := hTab.ext e01
  have hnn := T1.both.nn
  have hn4 := T1.both.m.n4
  have hbb := T1.both.bb
  have hMr : M.rows.length ≤ 40 := T1.rows
  have hall := evf_all (P := P) (w := w) (K := K) (n := n) (te := tDGet (tVar 4) (tC (.str "edges"))) (σ := [some (.ref a), some (.ref r), some (.ref g), some (.ref S.p), some (.ref M.p), none, none, none, none, none, none, none, none]) (ev_medges (M := M) (ev_ref rfl) T1.both.m.ob) hn4
  have hlc := evf_lc (P := P) (w := w) (K := K) (g := gName 11) (tt := tYes) (te := tTupF (tCons (tVar 11) (tCons (tCall (sp_law_size P w K n) [] E0 (tCons (tVar 4) (tCons (tVar 11) tNil))) tNil))) (vs := [11]) (σ := [some (.ref a), some (.ref r), some (.ref g), some (.ref S.p), some (.ref M.p), none, none, none, none, none, none, none, none]) (H := H1) dT (fun _ => true) (sizD M.rows) (allT M.n) (hall.l (K := K)).sq (line1000 (by have := allT_len hn4; omega)) fun L hL v H' e hv => turn_of evt_yes fun _ =>
    ev_tup (eds_cons (ev_var (p := Is (dT L)) (v := v) rfl hv) (eds_cons (ev_size (M := M) (L := L) (ev_ref rfl) (ev_var (p := Is (dT L)) (v := v) rfl hv) (T1.both.m.ex e).mr (allT_mem.mp hL) (by omega)) eds_nil)) (by simp)
  rw [filter_all] at hlc
  refine s_asgF hlc fun a5 xs5 H2 n5 e2 h5 hx5 => ?_
  have T2 := T1.ex e2
  have hTb2 := hTb1.ext e2
  have n5r : a5 ≠ r := fun z => row_some T1.row (z ▸ n5)
  show tSeq _ _ _ [some (.ref a), some (.ref r), some (.ref g), some (.ref S.p), some (.ref M.p), some (.ref a5), none, none, none, none, none, none, none] H2
  refine s_seq (s_forR (n := 3) (ev_int 3) (by omega) (fun j σ' H' => ∃ x6 x7 x8 x9 x10, σ' = [some (.ref a), some (.ref r), some (.ref g), some (.ref S.p), some (.ref M.p), some (.ref a5), x6, x7, x8, x9, x10, none, none] ∧ Turn0 P w K n.cube r a S.p M.p 40 H' S M ∧ Tabs (stT n) H' ∧ H' a5 = some (.lst xs5) ∧ IsDs H' xs5 ((allT M.n).map (sizD M.rows))) (fun H' e => ⟨_, _, _, _, _, rfl, T2.ex e, hTb2.ext e, e _ _ h5, hx5.mono (Tp.of e)⟩) (fun j σ' H3 hj ⟨x6, x7, x8, x9, x10, hσ, T3, Tb3, h53, hx53⟩ N kn => ?_) fun σ' H3 ⟨x6, x7, x8, x9, x10, hσ, T3, Tb3, h53, hx53⟩ => ?_)
  · subst hσ
    show tSeq _ _ _ [some (.ref a), some (.ref r), some (.ref g), some (.ref S.p), some (.ref M.p), some (.ref a5), some (.int (j : Nat)), x7, x8, x9, x10, none, none] H3
    have rl : ∀ {H' : Hp}, RowAt K H' r a → ∀ b ∈ [r], ∃ xs, H' b = some (.lst xs) := fun h b hb => by rw [List.mem_singleton.mp hb]; exact row_lst h
    -- the tables
    refine s_rawAsg (x_lcR (x_taken T3.row (ev_ref rfl) (ev_int 9) (by decide) fun cnt H4 f4 hR4 c0 c1 => ?_))
    have T4 := T3.fr f4 hR4
    have Tb4 := Tabs.fr f4 (rl T3.row) Tb3
    refine lc_tables (M := M) T4.row T4.both.m T4.rM c0 (by omega) (fun _ _ => ev_ref rfl) (fun _ _ => ev_ref rfl) (fun _ => rfl) fun ta ts Ts H5 nta f5 hR5 hta hts hTs hTl => ?_
    have T5 := T4.fr f5 hR5
    have Tb5 := Tabs.fr f5 (rl T4.row) Tb4
    have f35 := f4.trans f5
    have h55 : H5 a5 = some (.lst xs5) := f35.1 _ _ h53 (by simpa using n5r)
    have hx55 := hx53.mono f35.2
    show tSeq _ _ _ [some (.ref a), some (.ref r), some (.ref g), some (.ref S.p), some (.ref M.p), some (.ref a5), some (.int (j : Nat)), some (.ref ta), x8, x9, x10, none, none] H5
    have hTs' : ∀ T ∈ Ts, Tab S.n T := fun U hU => by rw [hnn]; exact hTs U hU
    -- what is handed in
    refine s_asgF (evf_listOf (K := K) (ev_var (p := IsL K _) rfl (isL_at hta hts)).sq) fun ha hs H6 nh e6 hh hhd => ?_
    have T6 := T5.ex e6
    show tSeq _ _ _ [some (.ref a), some (.ref r), some (.ref g), some (.ref S.p), some (.ref M.p), some (.ref a5), some (.int (j : Nat)), some (.ref ta), some (.ref ha), x9, x10, none, none] H6
    -- the steps
    refine s_rawAsg (x_call (ps := [IsR (.ref S.p), IsL K (Ts.map dT)]) (eas_cons (ev_ref rfl) (eas_cons (ev_var (p := IsL K _) rfl (isL_at hh hhd)) eas_nil)) fun vs H7 e7 hv => ?_)
    obtain ⟨u1, u2, rfl, p1, p2⟩ := als2 hv
    have p1 : u1 = .ref S.p := p1
    subst p1
    have T7 := T6.ex e7
    refine ⟨S, u2, Ts, rfl, T7.both.c, p2, hTs', by omega, (Tb5.ext e6).ext e7, fun fa zs H8 nf eN8 Tb8 hf hfz => ?_⟩
    rw [steps_due (B' := M.rows) (N := S.n) (Ss' := M.Ts) T7.both.c.sk.ok.n4 hTs' hbb T7.both.ts, stpD_perm hbb, hnn] at hfz
    have T8 := T7.extN eN8
    have hO := least_ok (B := M.rows) hn4 (Ts_tab T7.both.m) (show rng M.n ∈ M.Ts from List.mem_cons_self) hTs
    have hDl : (((ordL (leftL M.n M.Ts Ts) (M.n + 1)).foldl (duN M.rows) (M.Ts, [])).2).length ≤ 16 := by
      have := congrArg List.length (du_fst M.rows (ordL (leftL M.n M.Ts Ts) (M.n + 1)) M.Ts []).2
      rw [List.length_map, List.map_nil, List.nil_append] at this
      rw [this]
      exact ord_few hn4 _ _ _
    have hdue : ∀ σ H', EvP (tVar 4) σ H' (IsR (.ref M.p)) → EvP (tVar 7) σ H' (IsL K (Ts.map dT)) → MAt P w H' M → EvF (tCall (sp_law_due P w K n) [] E0 (tCons (tVar 4) (tCons (tVar 7) tNil))) σ H' (((ordL (leftL M.n M.Ts Ts) (M.n + 1)).foldl (duN M.rows) (M.Ts, [])).2.map (stpD M.rows)) := fun σ H' hm ht hM =>
      evf_call (ps := [IsR (.ref M.p), IsL K (Ts.map dT)]) (eas_cons hm (eas_cons ht eas_nil)) fun vs H10 e10 hv Q' q => by
        obtain ⟨u1, u2, rfl, p1, p2⟩ := als2 hv
        have p1 : u1 = .ref M.p := p1
        subst p1
        exact ⟨M, u2, Ts, rfl, hM.ex e10, p2, by omega, by omega, hTs, q⟩
    have hlst : ∀ σ H' L, EvP (tVar 4) σ H' (IsR (.ref M.p)) → EvP (tVar 9) σ H' (IsL K (L.map (stpD M.rows))) → MAt P w H' M → L.length ≤ 400 → LeastOk M.rows M.n M.Ts L → EvP (tCall (sp_law_is_least P w K n) [] E0 (tCons (tVar 4) (tCons (tVar 9) tNil))) σ H' (Is (.bool true)) := fun σ H' L hm ht hM hLl hOk =>
      ev_call (ps := [IsR (.ref M.p), IsL K (L.map (stpD M.rows))]) (eas_cons hm (eas_cons ht eas_nil)) fun vs H10 e10 hv Q' q => by
        obtain ⟨u1, u2, rfl, p1, p2⟩ := als2 hv
        have p1 : u1 = .ref M.p := p1
        subst p1
        exact ⟨M, u2, L, rfl, hM.ex e10, p2, hLl, by omega, hOk, fun H11 e11 => q _ H11 e11 (IsD.bl true)⟩
    generalize ((ordL (leftL M.n M.Ts Ts) (M.n + 1)).foldl (duN M.rows) (M.Ts, [])).2 = D at hfz hO hDl hdue
    have hta8 := lst_extN eN8 (e7 _ _ (e6 _ _ hta))
    have hts8 := ((hts.mono (Tp.of e6)).mono (Tp.of e7)).mono (extN_tp eN8)
    have hh8 := lst_extN eN8 (e7 _ _ hh)
    have hhd8 := (hhd.mono (Tp.of e7)).mono (extN_tp eN8)
    have h58 := lst_extN eN8 (e7 _ _ (e6 _ _ h55))
    have hx58 := ((hx55.mono (Tp.of e6)).mono (Tp.of e7)).mono (extN_tp eN8)
    show tSeq _ _ _ [some (.ref a), some (.ref r), some (.ref g), some (.ref S.p), some (.ref M.p), some (.ref a5), some (.int (j : Nat)), some (.ref ta), some (.ref ha), some (.ref fa), x10, none, none] H8
    have hal1 := ev_alike (P := P) (w := w) (K := K) (n := n) (d := .list (D.map (stpD M.rows))) (p := IsL K (D.map (stpD M.rows))) (q := IsL K (D.map (stpD M.rows))) (ev_var (i := 9) (σ := [some (.ref a), some (.ref r), some (.ref g), some (.ref S.p), some (.ref M.p), some (.ref a5), some (.int (j : Nat)), some (.ref ta), some (.ref ha), some (.ref fa), x10, none, none]) (v := .ref fa) rfl (isL_at hf hfz)) ((hdue _ H8 (ev_ref rfl) (ev_var (p := IsL K _) rfl (isL_at hta8 hts8)) T8.both.m).l (K := K)) (fun _ _ h => isV_l h) (fun _ _ h => isV_l h)
      (by
        have := (sh_listD (ds := D.map (stpD M.rows)) (k := 2) (fun d hd => by
          obtain ⟨e, _, rfl⟩ := List.mem_map.mp hd
          exact stp_ok _ _) (by omega)).2
        omega) (small_list (by rw [List.length_map]; omega) fun d hd => by
          obtain ⟨e, he, rfl⟩ := List.mem_map.mp hd
          have q1 := hO.l3 e he
          have q2 : Tab M.n e.2 := by
            rcases List.mem_append.mp (hO.mem e he) with z | z
            · exact hO.ss _ z
            · obtain ⟨e', he', q⟩ := List.mem_map.mp z
              rw [← q]; exact hO.tab e' he'
          have := q2.len hn4
          exact stp_small (by omega) (by omega))
    have hne1 := ev_neDp (K := K) (a := tVar 8) (b := tVar 7) (σ := [some (.ref a), some (.ref r), some (.ref g), some (.ref S.p), some (.ref M.p), some (.ref a5), some (.int (j : Nat)), some (.ref ta), some (.ref ha), some (.ref fa), x10, none, none]) (H := H8) (d := .list (Ts.map dT)) (e := .list (Ts.map dT)) (p := IsO (Ts.map dT)) (q := IsO (Ts.map dT)) (ev_var rfl (isO_of hh8 hhd8)) (ev_var rfl (isO_of hta8 hts8)) (fun _ _ h => isO_dp h) (fun _ _ h => isO_dp h) (sh_tabs _) (sh_tabs _)
    rw [eqv_self (sh_tabs Ts)] at hne1
    have hle := hlst [some (.ref a), some (.ref r), some (.ref g), some (.ref S.p), some (.ref M.p), some (.ref a5), some (.int (j : Nat)), some (.ref ta), some (.ref ha), some (.ref fa), x10, none, none] H8 D (ev_ref rfl) (ev_var (p := IsL K _) rfl (isL_at hf hfz)) T8.both.m (by omega) hO
    refine s_ifF (evt_or (b := false) (c := false) (evt_not (b := true) (evt_b hal1)) fun _ => evt_or (b := false) (c := false) (evt_test hne1) fun _ => evt_not (b := true) (evt_b hle)) fun H9 e9 => ?_
    have T9 := T8.ex e9
    -- the sizes
    have hsz : EvF (tCall (sp_sizes P w K n) [] E0 (tCons (tVar 3) tNil)) [some (.ref a), some (.ref r), some (.ref g), some (.ref S.p), some (.ref M.p), some (.ref a5), some (.int (j : Nat)), some (.ref ta), some (.ref ha), some (.ref fa), x10, none, none] H9 ((allT M.n).map (sizD M.rows)) := by
      rw [← hnn, ← sizD_perm hbb]
      exact evf_call (ps := [IsR (.ref S.p)]) (eas_cons (ev_ref rfl) eas_nil) fun vs H10 e10 hv Q' q => by
        obtain ⟨u1, rfl, p1⟩ := als1 hv
        have p1 : u1 = .ref S.p := p1
        subst p1
        exact ⟨S, rfl, T9.both.c.ex e10, q⟩
    refine s_asgF hsz fun ga gs H10 ng e10 hg hgs => ?_
    have T10 := T9.ex e10
    show tSeq _ _ _ [some (.ref a), some (.ref r), some (.ref g), some (.ref S.p), some (.ref M.p), some (.ref a5), some (.int (j : Nat)), some (.ref ta), some (.ref ha), some (.ref fa), some (.ref ga), none, none] H10
    have h510 := e10 _ _ (e9 _ _ h58)
    have hx510 := hx58.mono (Tp.of (e9.trans e10))
    have hal2 := ev_alike (P := P) (w := w) (K := K) (n := n) (d := .list ((allT M.n).map (sizD M.rows))) (p := IsL K ((allT M.n).map (sizD M.rows))) (q := IsL K ((allT M.n).map (sizD M.rows))) (ev_var (i := 10) (σ := [some (.ref a), some (.ref r), some (.ref g), some (.ref S.p), some (.ref M.p), some (.ref a5), some (.int (j : Nat)), some (.ref ta), some (.ref ha), some (.ref fa), some (.ref ga), none, none]) (v := .ref ga) rfl (isL_at hg hgs)) (ev_var (i := 5) (v := .ref a5) rfl (isL_at h510 hx510)) (fun _ _ h => isV_l h) (fun _ _ h => isV_l h)
      (by
        have := (sh_listD (ds := (allT M.n).map (sizD M.rows)) (k := 2) (fun d hd => by
          obtain ⟨e, _, rfl⟩ := List.mem_map.mp hd
          exact siz_ok _ _) (by omega)).2
        omega) (small_list (by rw [List.length_map]; have := allT_len hn4; omega) fun d hd => by
          obtain ⟨e, he, rfl⟩ := List.mem_map.mp hd
          have := (allT_mem.mp he).len hn4
          exact siz_small (by omega))
    have hri := ev_right (P := P) (w := w) (K := K) (n := n) (S := S) (M := M) (σ := [some (.ref a), some (.ref r), some (.ref g), some (.ref S.p), some (.ref M.p), some (.ref a5), some (.int (j : Nat)), some (.ref ta), some (.ref ha), some (.ref fa), some (.ref ga), none, none]) (H := H10) (tc := tVar 3) (tm := tVar 4) (ev_ref rfl) (ev_ref rfl) T10.both (by omega)
    refine s_ifF (evt_or (b := false) (c := false) (evt_not (b := true) (evt_b hal2)) fun _ => evt_not (b := true) (evt_b hri)) fun H11 e11 => ?_
    have T11 := T10.ex e11
    have e811 := (e9.trans e10).trans e11
    have Tb11 := Tb8.ext e811
    have hf11 := e811 _ _ hf
    have hg11 := e11 _ _ hg
    have ngf : ga ≠ fa := fun z => by rw [z, e9 _ _ hf] at ng; cases ng
    have hzl := hfz.length
    rw [List.length_map] at hzl
    -- what is told is changed
    refine s_seq (d_append (d := .int 7) (ev_ref rfl) hf11 (ev_int 7) (by omega) fun H12 y f12 g12 _ => ?_)
    have hg12 : H12 ga = some (.lst gs) := f12.1 _ _ hg11 (by simpa using ngf)
    have t13 : Tp H12 (upd H12 ga (.lst gs.reverse)) := tp_lst hg12
    refine ⟨.ref ga, rfl, .inl ⟨rfl, gs, .inl (.inl hg12)⟩, ga, gs, rfl, rfl, hg12, ?_⟩
    have f13 : Fr [fa, ga] H11 (upd H12 ga (.lst gs.reverse)) := (f12.mono fun b hb => by rw [List.mem_singleton.mp hb]; simp).trans (Fr.set (by simp) t13)
    have T12 := Turn0.away T7 T11 f12 fun b hb => by rw [List.mem_singleton.mp hb]; exact nf
    have f1213 : Fr [ga] H12 (upd H12 ga (.lst gs.reverse)) := Fr.set (by simp) t13
    have T13 := Turn0.away T9 T12 f1213 fun b hb => by rw [List.mem_singleton.mp hb]; exact ng
    have hLi : ∀ b ∈ [fa, ga], ∃ xs, H11 b = some (.lst xs) := fun b hb => by
      rcases List.mem_cons.mp hb with z | z
      · rw [z]; exact ⟨_, hf11⟩
      · rw [List.mem_singleton.mp z]; exact ⟨_, hg11⟩
    have h57 := e7 _ _ (e6 _ _ h55)
    have h59 := e9 _ _ h58
    have n5l : a5 ∉ [fa, ga] := fun z => by
      rcases List.mem_cons.mp z with z | z
      · rw [z, nf] at h57; cases h57
      · rw [List.mem_singleton.mp z, ng] at h59; cases h59
    exact kn _ _ ⟨_, _, _, _, _, rfl, T13, Tabs.fr f13 hLi Tb11, f13.1 _ _ (e11 _ _ h510) n5l, (hx510.mono (Tp.of e11)).mono f13.2⟩
  · subst hσ
    exact k H3
end
end KC
end

section
set_option Elab.async false
set_option linter.all false
set_option autoImplicit false
set_option maxRecDepth 100000
set_option maxHeartbeats 4000000
/-! A def whose code object is known by its address. -/
namespace KC
open PySem L2 PySem.Spec PyProof.Rows
theorem u65 {A : Around} {k : Nat} (hr : Room k A) : A.units + 65 < cLine := by have := hr.un; omega
theorem stT_mem {n : Nm} {q : Str} (h : q = "steps.<locals>.<lambda>") : (n.badText, q) ∈ stT n := List.mem_singleton.mpr (by rw [h])
theorem stT_uni {n : Nm} {q : Str} (h : q = "steps.<locals>.<lambda>") : ∀ p ∈ stT n, p.1 = n.badText → p.2 = q := fun p hp _ => by rw [List.mem_singleton.mp hp]; exact h.symm
structure FunT (K : PySem.W.Frag) (x qual : Str) (st : Stmt) (f c : Addr) (fd : FuncData) : Prop where
  ex : ∃ (oc : Value) (od : Option Addr) (kV doc pm : Value) (an : Option Addr) (ct : Value) (osl : Array (Option Value)),
    fd = PySem.W.fnOf x qual (defArgs st) (defBody st) (defScope st) .none kV doc pm an (.ref c) ct ∧ K.lookup f = some ⟨oc, od, .func fd, osl⟩ ∧ PySem.W.codeIn K (.ref c) qual = true
section
variable {P : Program} {w : World} {K : PySem.W.Frag} {mg : Str → Option Value} {base : Heap}
theorem FunT.ok {x qual : Str} {st : Stmt} {f c : Addr} {fd : FuncData} {N ps : List Str} {k : Nat} {sp : Sp} (F : FunT K x qual st f c fd) (S : FnScope N ps (defScope st)) (len : ∀ vs H Q E, sp vs H Q E → vs.length = ps.length)
    (hbody : ∀ (A : Around) (outer : List Env) (s : Shared) (H : Hp) (vs : List V) (Q : VK) (E : XK), Room k (A.deeper (envOfC qual (defScope st) s.heap.objs.size f (.ref c))) → sp vs H Q E →
      ∃ t, PSs (cxOf CX0 P w K mg base N qual (defScope st) f (.ref c) A outer s H E).nox (defBody st) t ∧ t { nx := fun _ H' => Q .non H', rt := Q } (start N vs) H) : FnOk P w K mg base CX0 (k + 1) f fd ps sp := by
  obtain ⟨oc, od, kV, doc, pm, an, ct, osl, rfl, lk, hcd⟩ := F.ex
  refine fn_of lk hcd S len fun A outer s H vs Q E hr hsp => ?_
  obtain ⟨t, h, q⟩ := hbody A outer s H vs Q E hr hsp
  exact ⟨t, h.nox, q⟩
theorem FunT.binds {x qual : Str} {st : Stmt} {f c : Addr} {fd : FuncData} {ps : List Str} (F : FunT K x qual st f c fd)
    (h : ∀ (kV doc pm : Value) (an : Option Addr) (cdv ct : Value) (us : List Value), us.length = ps.length → bindArgs (PySem.W.fnOf x qual (defArgs st) (defBody st) (defScope st) .none kV doc pm an cdv ct) ⟨us, []⟩ = pure (ps.zip us)) : Binds K fd ps [] := by
  obtain ⟨oc, od, kV, doc, pm, an, ct, osl, rfl, lk, hcd⟩ := F.ex
  exact .all (h kV doc pm an (.ref c) ct)
theorem funT_mk {x qual : Str} {st : Stmt} {f c : Addr} {oc : Value} {od an : Option Addr} {osl : Array (Option Value)} {kV doc pm ct : Value} (l : K.lookup f = some ⟨oc, od, .func (PySem.W.fnOf x qual (defArgs st) (defBody st) (defScope st) .none kV doc pm an (.ref c) ct), osl⟩)
    (hc : PySem.W.codeIn K (.ref c) qual = true) (k : PySem.W.keepIn K (.ref f) = true) : FunT K x qual st f c (PySem.W.fnOf x qual (defArgs st) (defBody st) (defScope st) .none kV doc pm an (.ref c) ct) := ⟨⟨oc, od, kV, doc, pm, an, ct, osl, rfl, l, hc⟩⟩
end
end KC
end

section
set_option Elab.async false
set_option linter.all false
set_option autoImplicit false
set_option maxRecDepth 100000
set_option maxHeartbeats 4000000
namespace KC
open PySem L2 PySem.Spec PyProof.Rows
theorem len_c_keep {P : Program} {w : World} {K : PySem.W.Frag} {n : Nm} {vs : List V} {H : Hp} {Q : VK} {E : XK} (h : sp_c_keep P w K n vs H Q E) : vs.length = 2 := len_c_make h
theorem passA {X : Cx} {E : XK} : Passes CX0 X E := fun _ _ _ _ _ _ _ h => h.elim
def top (i : Nat) : Stmt := PySem.Challenge.pw_keptcubes_k04_whole_reckoned_with_the_fe.main.body.getD i (.Pass ⟨0, 0, 0, 0⟩)
section
variable {P : Program} {w : World} {K : PySem.W.Frag} {mg : Str → Option Value} {base : Heap} {n : Nm}
abbrev s_law_taken : Stmt := top 28
theorem sc_law_taken : FnScope ["_law_row", "_law_many", "_law_cell"] ["_law_row", "_law_many"] (defScope s_law_taken) := ⟨rfl, rfl, rfl, by decide +kernel, rfl, by decide +kernel, by decide +kernel⟩
theorem ok_law_taken {f : Addr} {fd : FuncData} (F : Fun K "_law_taken" "_law_taken" s_law_taken f fd) (T : Txt K mg n) (TC : TxtS mg)  : FnOk P w K mg base CX0 1 f fd ["_law_row", "_law_many"] (sp_law_taken P w K n) := by
  refine F.ok sc_law_taken (fun vs H Q E h => len_law_taken h) (fun cdv A outer s H vs Q E hr h => ⟨t_law_taken P w K n E0, ?_, pure_law_taken T h⟩)
  have hu := hr.units
  have nd := sc_law_taken.nd
  exact (pss_cons (ps_asg (pe_op op_plus (pe_ix (ix_U hu) (pv 0) pe_int (fun _ _ => rfl)) pe_int) (pg_sub (pv 0) pe_int (set_U hu)))
    (pss_cons (ps_if (pt_cmpR op_gt (pe_ix (ix_U hu) (pv 0) pe_int (fun _ _ => rfl)) (pe_callB call_lenA (by rfl) T.n_len b_len (pa_cons (pe_ix (ix_U hu) (pv 0) pe_int (fun _ _ => rfl)) pa_nil)) (nomark _)) (pss_cons (ps_asg (pe_op op_mod (pe_op op_plus (pe_op op_mul (pe_ix (ix_U hu) (pv 0) pe_int (fun _ _ => rfl)) pe_int) pe_int) pe_int) (pg_sub (pv 0) pe_int (set_U hu)))
    (pss_one (ps_ret (pe_op op_mod (pe_op op_fdiv (pe_ix (ix_U hu) (pv 0) pe_int (fun _ _ => rfl)) pe_int) (pv 1))))) pss_nil)
    (pss_cons (ps_set (i := 2) nd rfl (Or.inl rfl) (pe_ix (ix_U hu) (pe_ix (ix_U hu) (pv 0) pe_int (fun _ _ => rfl)) (pe_op op_minus (pe_ix (ix_U hu) (pv 0) pe_int (fun _ _ => rfl)) pe_int) (fun _ _ => rfl)))
    (pss_cons (ps_asg (pe_op op_mod (pe_op op_plus (pe_op op_plus (pe_op op_mul (pe_ix (ix_U hu) (pv 0) pe_int (fun _ _ => rfl)) pe_int) (pv 2)) pe_int) pe_int) (pg_sub (pv 0) pe_int (set_U hu)))
    (pss_one (ps_ret (pe_op op_mod (pv 2) (pv 1))))))))
abbrev s_law_fresh : Stmt := top 30
theorem sc_law_fresh : FnScope ["_law_row", "_law_most"] ["_law_row", "_law_most"] (defScope s_law_fresh) := ⟨rfl, rfl, rfl, by decide +kernel, rfl, by decide +kernel, by decide +kernel⟩
theorem ok_law_fresh {f : Addr} {fd : FuncData} (F : Fun K "_law_fresh" "_law_fresh" s_law_fresh f fd) (T : Txt K mg n) (TC : TxtS mg) (c_law_taken : Callee P w K mg base CX0 1 "_law_taken" ["_law_row", "_law_many"] (sp_law_taken P w K n)) : FnOk P w K mg base CX0 2 f fd ["_law_row", "_law_most"] (sp_law_fresh P w K n) := by
  refine F.ok sc_law_fresh (fun vs H Q E h => len_law_fresh h) (fun cdv A outer s H vs Q E hr h => ⟨t_law_fresh P w K n E0, ?_, pure_law_fresh T h⟩)
  have hu := hr.units
  have nd := sc_law_fresh.nd
  exact (pss_one (ps_ret (pe_disp (pps_cons pe_str (pe_op op_plus pe_int (xcall c_law_taken hr (by decide) rfl pass0 (pa_cons (pv 0) (pa_cons (pv 1) pa_nil)))) (pps_cons pe_str (pe_ix (ix_U hu) (pe_lst (pa_cons pe_int (pa_cons pe_int (pa_cons pe_int pa_nil)))) (xcall c_law_taken hr (by decide) rfl pass0 (pa_cons (pv 0) (pa_cons pe_int pa_nil))) (fun _ _ => rfl)) (pps_cons pe_str (pe_lst pa_nil) (pps_cons pe_str pe_newD pps_nil)))) rfl rfl (fun z => by cases z) (by decide))))
abbrev s_c_init : Stmt := inClass (top 26) 0
theorem sc_c_init : FnScope ["self", "edges"] ["self", "edges"] (defScope s_c_init) := ⟨rfl, rfl, rfl, by decide +kernel, rfl, by decide +kernel, by decide +kernel⟩
theorem ok_c_init {f : Addr} {fd : FuncData} (F : Fun K "__init__" "Cube.__init__" s_c_init f fd) (T : Txt K mg n) (TC : TxtS mg)  : FnOk P w K mg base CX0 1 f fd ["self", "edges"] (sp_c_init P w K n) := by
  refine F.ok sc_c_init (fun vs H Q E h => len_c_init h) (fun cdv A outer s H vs Q E hr h => ⟨t_c_init P w K n E0, ?_, pure_c_init T h⟩)
  have hu := hr.units
  have nd := sc_c_init.nd
  exact (pss_cons (ps_if (pt_not (pt_chain op_le op_le pe_int (pv 1) (xconst T.c_MOST_EDGES rfl))) (pss_one ps_raise0) pss_nil)
    (pss_cons (ps_fld (pv 0) (pv 1) rfl)
    (pss_cons (ps_fld (pv 0) (pe_tupRgF rfl rfl T.n_tuple (prg_1 rfl T.n_range (pv 1))) rfl)
    (pss_cons (ps_fld (pv 0) pe_newD rfl)
    (pss_cons (ps_fld (pv 0) (pe_disp1 hu (pe_fld (pv 0) rfl) pe_newD) rfl)
    (pss_one (ps_fld (pv 0) pe_newD rfl)))))))
abbrev s_law_table : Stmt := top 32
theorem sc_law_table : FnScope ["_law_row", "_law_m", "_law_edge"] ["_law_row", "_law_m"] (defScope s_law_table) := ⟨rfl, rfl, rfl, by decide +kernel, rfl, by decide +kernel, by decide +kernel⟩
theorem ok_law_table {f : Addr} {fd : FuncData} (F : Fun K "_law_table" "_law_table" s_law_table f fd) (T : Txt K mg n) (TC : TxtS mg) (c_law_taken : Callee P w K mg base CX0 1 "_law_taken" ["_law_row", "_law_many"] (sp_law_taken P w K n)) : FnOk P w K mg base CX0 2 f fd ["_law_row", "_law_m"] (sp_law_table P w K n) := by
  refine F.ok sc_law_table (fun vs H Q E h => len_law_table h) (fun cdv A outer s H vs Q E hr h => ⟨t_law_table P w K n E0, ?_, pure_law_table T h⟩)
  have hu := hr.units
  have nd := sc_law_table.nd
  exact (pss_one (ps_ret (pe_callTy cr_tupF (by rfl) T.n_tuple b_tuple (pa_cons (pe_lc (own := [("_law_edge", 2)]) (g := (gName 2)) (tt := (tTest (tOp (rEqU P w K) (tCall (sp_law_taken P w K n) [] E0 (tCons (tVar 0) (tCons (tC (.int 2)) tNil))) (tC (.int 1))))) rfl nd (pi_range1 rfl T.n_range (pa_cons (pe_dget (hu_of hr) (pv 1) pe_str (fun _ _ => rfl)) pa_nil)) (blkOk_by (by kernel_rfl)) (fun _ _ _ _ _ => (pg_name (i := 2) nd rfl (Or.inl rfl))) (fun _ _ _ _ _ => (pts_one (pt_cmpR (op_eqU hu) (xcall c_law_taken hr (by decide) rfl pass0 (pa_cons (pv 0) (pa_cons pe_int pa_nil))) pe_int (nomark _)))) (fun _ _ _ _ _ => (pv 2))) pa_nil))))
abbrev s_law_standing : Stmt := top 34
theorem sc_law_standing : FnScope ["_law_m", "_law_table_here"] ["_law_m"] (defScope s_law_standing) := ⟨rfl, rfl, rfl, by decide +kernel, rfl, by decide +kernel, by decide +kernel⟩
theorem ok_law_standing {f : Addr} {fd : FuncData} (F : Fun K "_law_standing" "_law_standing" s_law_standing f fd) (T : Txt K mg n) (TC : TxtS mg)  : FnOk P w K mg base CX0 1 f fd ["_law_m"] (sp_law_standing P w K n) := by
  refine F.ok sc_law_standing (fun vs H Q E h => len_law_standing h) (fun cdv A outer s H vs Q E hr h => ⟨t_law_standing P w K n E0, ?_, pure_law_standing T h⟩)
  have hu := hr.units
  have nd := sc_law_standing.nd
  exact (pss_one (ps_ret (pe_op op_plus (pe_lst (pa_cons (pe_tupRgF rfl rfl T.n_tuple (prg_1 rfl T.n_range (pe_dget (hu_of hr) (pv 0) pe_str (fun _ _ => rfl)))) pa_nil)) (pe_lock (pe_lc (own := [("_law_table_here", 1)]) (g := (gName 1)) (tt := (tB (tOp (rIxU P w K) (tDGet (tVar 0) (tC (.str "kept"))) (tVar 1)))) rfl nd (pi_any (pe_dget (hu_of hr) (pv 0) pe_str (fun _ _ => rfl))) (blkOk_by (by kernel_rfl)) (fun _ _ _ _ _ => (pg_name (i := 1) nd rfl (Or.inl rfl))) (fun _ _ _ _ _ => (pts_one (pt_val (pe_ix (ix_U hu) (pe_dget (hu_of hr) (pv 0) pe_str (fun _ _ => rfl)) (pv 1) (fun _ _ => rfl))))) (fun _ _ _ _ _ => (pv 1)))))))
abbrev s_law_size : Stmt := top 33
theorem sc_law_size : FnScope ["_law_m", "_law_table_here", "_law_values", "_law_amount", "_law_edge"] ["_law_m", "_law_table_here"] (defScope s_law_size) := ⟨rfl, rfl, rfl, by decide +kernel, rfl, by decide +kernel, by decide +kernel⟩
theorem ok_law_size {f : Addr} {fd : FuncData} (F : Fun K "_law_size" "_law_size" s_law_size f fd) (T : Txt K mg n) (TC : TxtS mg)  : FnOk P w K mg base CX0 1 f fd ["_law_m", "_law_table_here"] (sp_law_size P w K n) := by
  refine F.ok sc_law_size (fun vs H Q E h => len_law_size h) (fun cdv A outer s H vs Q E hr h => ⟨t_law_size P w K n E0, ?_, pure_law_size T h⟩)
  have hu := hr.units
  have nd := sc_law_size.nd
  exact (pss_one (ps_ret (pe_callB call_lenA (by rfl) T.n_len b_len (pa_cons (pe_callTy (cr_setC rfl hu) (by rfl) T.n_set b_set (pa_cons (pe_lc (own := [("_law_values", 2), ("_law_amount", 3)]) (g := (gTup K 2 (gCons (gName 2) (gCons (gName 3) gNil)))) (tt := tYes) rfl nd (pi_any (pe_dget (hu_of hr) (pv 0) pe_str (fun _ _ => rfl))) (blkOk_by (by kernel_rfl)) (fun _ _ _ _ _ => (pg_tup rfl (pgs_cons (pg_name (i := 2) nd rfl (Or.inr rfl)) (pgs_cons (pg_name (i := 3) nd rfl (Or.inl rfl)) pgs_nil)))) (fun _ _ _ _ _ => pts_nil) (fun _ _ _ _ _ => (pe_callTy cr_tupF (by rfl) T.n_tuple b_tuple (pa_cons (pe_lc (own := [("_law_edge", 4)]) (g := (gName 4)) (tt := tYes) rfl nd (pi_any (pv 1)) (blkOk_by (by kernel_rfl)) (fun _ _ _ _ _ => (pg_name (i := 4) nd rfl (Or.inl rfl))) (fun _ _ _ _ _ => pts_nil) (fun _ _ _ _ _ => (pe_ix (ix_U hu) (pv 2) (pv 4) (fun _ _ => rfl)))) pa_nil)))) pa_nil)) pa_nil))))
abbrev s_law_ranked : Stmt := top 35
theorem sc_law_ranked : FnScope ["_law_m", "_law_some", "_law_table_here", "_law_road"] ["_law_m", "_law_some", "_law_table_here"] (defScope s_law_ranked) := ⟨rfl, rfl, rfl, by decide +kernel, rfl, by decide +kernel, by decide +kernel⟩
theorem ok_law_ranked {f : Addr} {fd : FuncData} (F : Fun K "_law_ranked" "_law_ranked" s_law_ranked f fd) (T : Txt K mg n) (TC : TxtS mg) (c_law_size : Callee P w K mg base CX0 1 "_law_size" ["_law_m", "_law_table_here"] (sp_law_size P w K n)) : FnOk P w K mg base CX0 2 f fd ["_law_m", "_law_some", "_law_table_here"] (sp_law_ranked P w K n) := by
  refine F.ok sc_law_ranked (fun vs H Q E h => len_law_ranked h) (fun cdv A outer s H vs Q E hr h => ⟨t_law_ranked P w K n E0, ?_, pure_law_ranked T h⟩)
  have hu := hr.units
  have nd := sc_law_ranked.nd
  exact (pss_one (ps_ret (pe_callB (cr_sortU rfl hu) (by rfl) T.n_sorted b_sorted (pa_cons (pe_lc (own := [("_law_road", 3)]) (g := (gName 3)) (tt := (tTest (tOp (rEqU P w K) (tOp (rMinus P w) (tCB (rSetC P w K) (tCons (tVar 2) tNil)) (tCB (rSetC P w K) (tCons (tVar 3) tNil))) (tCB (rSetC P w K) (tCons (tLst tNil) tNil))))) rfl nd (pi_any (pv 1)) (blkOk_by (by kernel_rfl)) (fun _ _ _ _ _ => (pg_name (i := 3) nd rfl (Or.inl rfl))) (fun _ _ _ _ _ => (pts_one (pt_cmpR (op_eqU hu) (pe_op op_minus (pe_callTy (cr_setC rfl hu) (by rfl) T.n_set b_set (pa_cons (pv 2) pa_nil)) (pe_callTy (cr_setC rfl hu) (by rfl) T.n_set b_set (pa_cons (pv 3) pa_nil))) (pe_callTy (cr_setC rfl hu) (by rfl) T.n_set b_set (pa_cons (pe_lst pa_nil) pa_nil)) (nomark _)))) (fun _ _ _ _ _ => (pe_tupF (pa_cons (xcall c_law_size hr (by decide) rfl pass0 (pa_cons (pv 0) (pa_cons (pv 3) pa_nil))) (pa_cons (pe_callB call_lenA (by rfl) T.n_len b_len (pa_cons (pv 3) pa_nil)) (pa_cons (pv 3) pa_nil)))))) pa_nil))))
abbrev s_law_best : Stmt := top 36
theorem sc_law_best : FnScope ["_law_m", "_law_some", "_law_table_here"] ["_law_m", "_law_some", "_law_table_here"] (defScope s_law_best) := ⟨rfl, rfl, rfl, by decide +kernel, rfl, by decide +kernel, by decide +kernel⟩
theorem ok_law_best {f : Addr} {fd : FuncData} (F : Fun K "_law_best" "_law_best" s_law_best f fd) (T : Txt K mg n) (TC : TxtS mg) (c_law_ranked : Callee P w K mg base CX0 2 "_law_ranked" ["_law_m", "_law_some", "_law_table_here"] (sp_law_ranked P w K n)) : FnOk P w K mg base CX0 3 f fd ["_law_m", "_law_some", "_law_table_here"] (sp_law_best P w K n) := by
  refine F.ok sc_law_best (fun vs H Q E h => len_law_best h) (fun cdv A outer s H vs Q E hr h => ⟨t_law_best P w K n E0, ?_, pure_law_best T h⟩)
  have hu := hr.units
  have nd := sc_law_best.nd
  exact (pss_one (ps_ret (pe_ix (ix_U hu) (pe_ix (ix_U hu) (xcall c_law_ranked hr (by decide) rfl pass0 (pa_cons (pv 0) (pa_cons (pv 1) (pa_cons (pv 2) pa_nil)))) pe_int (fun _ _ => rfl)) pe_int (fun _ _ => rfl))))
abbrev s_need_table : Stmt := top 11
theorem sc_need_table : FnScope ["edges", "table", "k"] ["edges", "table"] (defScope s_need_table) := ⟨rfl, rfl, rfl, by decide +kernel, rfl, by decide +kernel, by decide +kernel⟩
theorem ok_need_table {f : Addr} {fd : FuncData} (F : Fun K "need_table" "need_table" s_need_table f fd) (T : Txt K mg n) (TC : TxtS mg)  : FnOk P w K mg base CX0 1 f fd ["edges", "table"] (sp_need_table P w K n) := by
  refine F.ok sc_need_table (fun vs H Q E h => len_need_table h) (fun cdv A outer s H vs Q E hr h => ⟨t_need_table P w K n E0, ?_, pure_need_table T h⟩)
  have hu := hr.units
  have nd := sc_need_table.nd
  exact (pss_one (ps_for PassesOwn.never rfl (pi_range1 rfl T.n_range (pa_cons (pe_callB call_lenA (by rfl) T.n_len b_len (pa_cons (pv 1) pa_nil)) pa_nil)) (pg_name (i := 2) nd rfl (Or.inl rfl)) (pss_one (ps_if (PW.pt (pw_or (pt_not (pt_chain op_le op_lt pe_int (pe_ix (ix_U hu) (pv 1) (pv 2) (fun _ _ => rfl)) (pv 0))) (pw_or1 (PW.pt (pw_and (pt_cmpR op_gt (pv 2) pe_int (nomark _)) (pw_and1 (pt_cmpR op_ge (pe_ix (ix_U hu) (pv 1) (pe_op op_minus (pv 2) pe_int) (fun _ _ => rfl)) (pe_ix (ix_U hu) (pv 1) (pv 2) (fun _ _ => rfl)) (nomark _)))))))) (pss_one ps_raise0) pss_nil))))
abbrev s_c_roads : Stmt := inClass (top 26) 9
theorem sc_c_roads : FnScope ["self", "table", "some", "ranked", "road", "edge", "rows", "many"] ["self", "table"] (defScope s_c_roads) := ⟨rfl, rfl, rfl, by decide +kernel, rfl, by decide +kernel, by decide +kernel⟩
theorem ok_c_roads {f : Addr} {fd : FuncData} (F : Fun K "roads" "Cube.roads" s_c_roads f fd) (T : Txt K mg n) (TC : TxtS mg)  : FnOk P w K mg base CX0 1 f fd ["self", "table"] (sp_c_roads P w K n) := by
  refine F.ok sc_c_roads (fun vs H Q E h => len_c_roads h) (fun cdv A outer s H vs Q E hr h => ⟨t_c_roads P w K n E0, ?_, pure_c_roads T h⟩)
  have hu := hr.units
  have nd := sc_c_roads.nd
  exact (pss_cons (ps_lock (ps_setLc (i := 2) (own := [("road", 4)]) (g := (gName 4)) (tt := (tTest (tOp (rEqU P w K) (tLc (iAny P w K (tVar 1)) (gName 5) (tTest (tOp (rInU P w K true) (tVar 5) (tVar 4))) (tVar 5) [5]) (tLst tNil)))) rfl nd rfl rfl (sw_true rfl rfl rfl (by decide +kernel)) (pi_any (pe_fld (pv 0) rfl)) (blkOk_by (by kernel_rfl)) (fun _ _ _ _ _ => (pg_name (i := 4) nd rfl (Or.inr rfl))) (fun _ _ _ _ _ => (pts_one (pt_cmpR (op_eqU hu) (pe_lc (own := [("edge", 5)]) (g := (gName 5)) (tt := (tTest (tOp (rInU P w K true) (tVar 5) (tVar 4)))) rfl nd (pi_any (pv 1)) (blkOk_by (by kernel_rfl)) (fun _ _ _ _ _ => (pg_name (i := 5) nd rfl (Or.inl rfl))) (fun _ _ _ _ _ => (pts_one (pt_cmpR (op_ninU hu) (pv 5) (pv 4) (by rfl)))) (fun _ _ _ _ _ => (pv 5))) (pe_lst pa_nil) (nomark _)))) (fun _ _ _ _ _ => (pv 4))))
    (pss_cons (ps_set (i := 3) nd rfl (Or.inl rfl) (pe_callB (cr_sortU rfl hu) (by rfl) T.n_sorted b_sorted (pa_cons (pe_lc (own := [("road", 4)]) (g := (gName 4)) (tt := tYes) rfl nd (pi_any (pv 2)) (blkOk_by (by kernel_rfl)) (fun _ _ _ _ _ => (pg_name (i := 4) nd rfl (Or.inl rfl))) (fun _ _ _ _ _ => pts_nil) (fun _ _ _ _ _ => (pe_tupF (pa_cons (pe_callB call_lenA (by rfl) T.n_len b_len (pa_cons (pe_ix (ix_U hu) (pe_fld (pv 0) rfl) (pv 4) (fun _ _ => rfl)) pa_nil)) (pa_cons (pe_callB call_lenA (by rfl) T.n_len b_len (pa_cons (pv 4) pa_nil)) (pa_cons (pv 4) pa_nil)))))) pa_nil)))
    (pss_one (ps_ret (pe_lc (own := [("rows", 6), ("many", 7), ("road", 4)]) (g := (gTup K 3 (gCons (gName 6) (gCons (gName 7) (gCons (gName 4) gNil))))) (tt := tYes) rfl nd (pi_any (pv 3)) (blkOk_by (by kernel_rfl)) (fun _ _ _ _ _ => (pg_tup rfl (pgs_cons (pg_name (i := 6) nd rfl (Or.inl rfl)) (pgs_cons (pg_name (i := 7) nd rfl (Or.inl rfl)) (pgs_cons (pg_name (i := 4) nd rfl (Or.inl rfl)) pgs_nil))))) (fun _ _ _ _ _ => pts_nil) (fun _ _ _ _ _ => (pe_tupF (pa_cons (pv 6) (pa_cons (pv 4) pa_nil)))))))))
abbrev s_places_of : Stmt := top 14
theorem sc_places_of : FnScope ["road", "table", "edge"] ["road", "table"] (defScope s_places_of) := ⟨rfl, rfl, rfl, by decide +kernel, rfl, by decide +kernel, by decide +kernel⟩
theorem ok_places_of {f : Addr} {fd : FuncData} (F : Fun K "places_of" "places_of" s_places_of f fd) (T : Txt K mg n) (TC : TxtS mg)  : FnOk P w K mg base CX0 1 f fd ["road", "table"] (sp_places_of P w K n) := by
  refine F.ok sc_places_of (fun vs H Q E h => len_places_of h) (fun cdv A outer s H vs Q E hr h => ⟨t_places_of P w K n E0, ?_, pure_places_of T h⟩)
  have hu := hr.units
  have nd := sc_places_of.nd
  exact (pss_one (ps_ret (pe_lc (own := [("edge", 2)]) (g := (gName 2)) (tt := tYes) rfl nd (pi_any (pv 1)) (blkOk_by (by kernel_rfl)) (fun _ _ _ _ _ => (pg_name (i := 2) nd rfl (Or.inl rfl))) (fun _ _ _ _ _ => pts_nil) (fun _ _ _ _ _ => (pe_bg PySem.F.plainAttrs_tuple PySem.F.slot_tuple_index PySem.F.type_tuple_index mt_tix (pv 0) (pa_cons (pv 2) pa_nil))))))
abbrev s_added : Stmt := top 15
theorem sc_added : FnScope ["known", "values", "count", "amount", "old"] ["known", "values", "count", "amount"] (defScope s_added) := ⟨rfl, rfl, rfl, by decide +kernel, rfl, by decide +kernel, by decide +kernel⟩
theorem ok_added {f : Addr} {fd : FuncData} (F : Fun K "added" "added" s_added f fd) (T : Txt K mg n) (TC : TxtS mg)  : FnOk P w K mg base CX0 1 f fd ["known", "values", "count", "amount"] (sp_added P w K n) := by
  refine F.ok sc_added (fun vs H Q E h => len_added h) (fun cdv A outer s H vs Q E hr h => ⟨t_added P w K n E0, ?_, pure_added T h⟩)
  have hu := hr.units
  have nd := sc_added.nd
  exact (pss_cons (ps_set (i := 4) nd rfl (Or.inl rfl) (pe_bg PySem.F.plainAttrs_dict PySem.F.slot_dict_get PySem.F.type_dict_get (mt_kget hu) (pv 0) (pa_cons (pv 1) (pa_cons (pe_tupF (pa_cons pe_int (pa_cons pe_int pa_nil))) pa_nil))))
    (pss_cons (ps_asg (pe_tupF (pa_cons (pe_op op_plus (pe_ix (ix_U hu) (pv 4) pe_int (fun _ _ => rfl)) (pv 2)) (pa_cons (pe_op op_plus (pe_ix (ix_U hu) (pv 4) pe_int (fun _ _ => rfl)) (pv 3)) pa_nil))) (pg_sub (pv 0) (pv 1) (set_U hu)))
    (pss_one (ps_if (pt_cmpR (op_eqU hu) (pe_ix (ix_U hu) (pe_ix (ix_U hu) (pv 0) (pv 1) (fun _ _ => rfl)) pe_int (fun _ _ => rfl)) pe_int (nomark _)) (pss_one (ps_expr (pe_bg PySem.F.plainAttrs_dict PySem.F.slot_dict_pop PySem.F.type_dict_pop (mt_kpop hu) (pv 0) (pa_cons (pv 1) pa_nil)))) pss_nil))))
abbrev s_reckoned : Stmt := top 16
theorem sc_reckoned : FnScope ["road", "known", "table", "places", "found", "values", "count", "amount", "place"] ["road", "known", "table"] (defScope s_reckoned) := ⟨rfl, rfl, rfl, by decide +kernel, rfl, by decide +kernel, by decide +kernel⟩
theorem ok_reckoned {f : Addr} {fd : FuncData} (F : Fun K "reckoned" "reckoned" s_reckoned f fd) (T : Txt K mg n) (TC : TxtS mg) (c_places_of : Callee P w K mg base CX0 1 "places_of" ["road", "table"] (sp_places_of P w K n)) (c_added : Callee P w K mg base CX0 1 "added" ["known", "values", "count", "amount"] (sp_added P w K n)) : FnOk P w K mg base CX0 2 f fd ["road", "known", "table"] (sp_reckoned P w K n) := by
  refine F.ok sc_reckoned (fun vs H Q E h => len_reckoned h) (fun cdv A outer s H vs Q E hr h => ⟨t_reckoned P w K n E0, ?_, pure_reckoned T h⟩)
  have hu := hr.units
  have nd := sc_reckoned.nd
  exact (pss_cons (ps_set (i := 3) nd rfl (Or.inl rfl) (xcall c_places_of hr (by decide) rfl pass0 (pa_cons (pv 0) (pa_cons (pv 2) pa_nil))))
    (pss_cons (ps_set (i := 4) nd rfl (Or.inl rfl) pe_newD)
    (pss_cons (ps_lock (ps_for PassesOwn.never rfl (pi_any (pv 1)) (pg_name (i := 5) nd rfl (Or.inr rfl)) (pss_cons (ps_asg (pe_ix (ix_U hu) (pv 1) (pv 5) (fun _ _ => rfl)) (pg_tup rfl (pgs_cons (pg_name (i := 6) nd rfl (Or.inl rfl)) (pgs_cons (pg_name (i := 7) nd rfl (Or.inl rfl)) pgs_nil))))
    (pss_one (ps_expr (xcall c_added hr (by decide) rfl pass0 (pa_cons (pv 4) (pa_cons (pe_callTy cr_tupF (by rfl) T.n_tuple b_tuple (pa_cons (pe_lc (own := [("place", 8)]) (g := (gName 8)) (tt := tYes) rfl nd (pi_any (pv 3)) (blkOk_by (by kernel_rfl)) (fun _ _ _ _ _ => (pg_name (i := 8) nd rfl (Or.inl rfl))) (fun _ _ _ _ _ => pts_nil) (fun _ _ _ _ _ => (pe_ix (ix_U hu) (pv 5) (pv 8) (fun _ _ => rfl)))) pa_nil)) (pa_cons (pv 6) (pa_cons (pv 7) pa_nil))))))))))
    (pss_one (ps_ret (pv 4))))))
abbrev s_c_make : Stmt := inClass (top 26) 8
theorem sc_c_make : FnScope ["self", "table", "road"] ["self", "table"] (defScope s_c_make) := ⟨rfl, rfl, rfl, by decide +kernel, rfl, by decide +kernel, by decide +kernel⟩
theorem ok_c_make {f : Addr} {fd : FuncData} (F : Fun K "make" "Cube.make" s_c_make f fd) (T : Txt K mg n) (TC : TxtS mg) (c_c_roads : CalleeM P w K mg base CX0 n.cube 1 "roads" ["self", "table"] (sp_c_roads P w K n)) (c_reckoned : Callee P w K mg base CX0 2 "reckoned" ["road", "known", "table"] (sp_reckoned P w K n)) : FnOk P w K mg base CX0 3 f fd ["self", "table"] (sp_c_make P w K n) := by
  refine F.ok sc_c_make (fun vs H Q E h => len_c_make h) (fun cdv A outer s H vs Q E hr h => ⟨t_c_make P w K n E0, ?_, pure_c_make T h⟩)
  have hu := hr.units
  have nd := sc_c_make.nd
  exact (pss_cons (ps_set (i := 2) nd rfl (Or.inl rfl) (pe_ix (ix_U hu) (pe_ix (ix_U hu) (xmeth c_c_roads T.cl hr (by decide) pass0 (pv 0) (pa_cons (pv 1) pa_nil)) pe_int (fun _ _ => rfl)) pe_int (fun _ _ => rfl)))
    (pss_cons (ps_asg (xcall c_reckoned hr (by decide) rfl pass0 (pa_cons (pv 2) (pa_cons (pe_ix (ix_U hu) (pe_fld (pv 0) rfl) (pv 2) (fun _ _ => rfl)) (pa_cons (pv 1) pa_nil)))) (pg_sub (pe_fld (pv 0) rfl) (pv 1) (set_U hu)))
    (pss_one (ps_ret (pv 2)))))
abbrev s_c_keep : Stmt := inClass (top 26) 7
theorem sc_c_keep : FnScope ["self", "table"] ["self", "table"] (defScope s_c_keep) := ⟨rfl, rfl, rfl, by decide +kernel, rfl, by decide +kernel, by decide +kernel⟩
theorem ok_c_keep {f : Addr} {fd : FuncData} (F : Fun K "keep" "Cube.keep" s_c_keep f fd) (T : Txt K mg n) (TC : TxtS mg) (c_need_table : Callee P w K mg base CX0 1 "need_table" ["edges", "table"] (sp_need_table P w K n)) (c_c_make : CalleeM P w K mg base CX0 n.cube 3 "make" ["self", "table"] (sp_c_make P w K n)) : FnOk P w K mg base CX0 4 f fd ["self", "table"] (sp_c_keep P w K n) := by
  refine F.ok sc_c_keep (fun vs H Q E h => len_c_keep h) (fun cdv A outer s H vs Q E hr h => ⟨t_c_keep P w K n E0, ?_, pure_c_keep T h⟩)
  have hu := hr.units
  have nd := sc_c_keep.nd
  exact (pss_cons (ps_expr (xcall c_need_table hr (by decide) rfl pass0 (pa_cons (pe_fld (pv 0) rfl) (pa_cons (pv 1) pa_nil))))
    (pss_cons (ps_if (PW.pt (pw_or (pt_cmpR (op_inU hu) (pv 1) (pe_fld (pv 0) rfl) (by rfl)) (pw_or1 (pt_cmpR (op_inU hu) (pv 1) (pe_fld (pv 0) rfl) (by rfl))))) (pss_one ps_raise0) pss_nil)
    (pss_one (ps_ret (xmeth c_c_make T.cl hr (by decide) pass0 (pv 0) (pa_cons (pv 1) pa_nil))))))
abbrev s_law_alike : Stmt := top 29
theorem sc_law_alike : FnScope ["_law_found", "_law_due_here", "_law_k"] ["_law_found", "_law_due_here"] (defScope s_law_alike) := ⟨rfl, rfl, rfl, by decide +kernel, rfl, by decide +kernel, by decide +kernel⟩
theorem ok_law_alike {f : Addr} {fd : FuncData} (F : Fun K "_law_alike" "_law_alike" s_law_alike f fd) (T : Txt K mg n) (hk : mg "_law_alike" = some (.ref f)) (kp : PySem.W.keepIn K (.ref f) = true) (b : Binds K fd ["_law_found", "_law_due_here"] []) : ∀ j, FnOk P w K mg base CX0 j f fd ["_law_found", "_law_due_here"] (sp_alike K j)
  | 0 => ⟨fun vs H Q E h => by obtain ⟨_, _, _, rfl, _⟩ := h; rfl, fun A outer s H args us vs Q E _ _ _ _ h => by obtain ⟨_, _, _, _, _, _, hd, _⟩ := h; exact absurd hd (Nat.not_lt_zero _)⟩
  | j + 1 => by
    have c_law_alike : Callee P w K mg base CX0 j "_law_alike" ["_law_found", "_law_due_here"] (sp_alike K j) := ⟨f, fd, ok_law_alike F T hk kp b j, hk, kp, b⟩
    refine F.ok sc_law_alike (fun vs H Q E h => by obtain ⟨_, _, _, rfl, _⟩ := h; rfl) (fun cdv A outer s H vs Q E hr h => ⟨t_law_alike P w K n j E0, ?_, pure_law_alike T h⟩)
    have hu := hr.units
    have nd := sc_law_alike.nd
    exact (pss_cons (ps_if (PW.pt (pw_or (pt_val (pe_callB call_isiU (by rfl) T.n_isinstance b_isinstance (pa_cons (pv 1) (pa_cons (pe_bltn rfl T.n_tuple b_tuple rfl) pa_nil)))) (pw_or1 (pt_val (pe_callB call_isiU (by rfl) T.n_isinstance b_isinstance (pa_cons (pv 1) (pa_cons (pe_bltn rfl T.n_list b_list rfl) pa_nil))))))) (pss_cons (ps_if (PW.pt (pw_or (pt_cmpR (op_neD hu) (pe_callB call_isiU (by rfl) T.n_isinstance b_isinstance (pa_cons (pv 0) (pa_cons (pe_bltn rfl T.n_tuple b_tuple rfl) pa_nil))) (pe_callB call_isiU (by rfl) T.n_isinstance b_isinstance (pa_cons (pv 1) (pa_cons (pe_bltn rfl T.n_tuple b_tuple rfl) pa_nil))) (nomark _)) (pw_or1 (pt_not (pt_val (pe_callB call_isiU (by rfl) T.n_isinstance b_isinstance (pa_cons (pv 0) (pa_cons (pe_tup (pa_cons (pe_bltn rfl T.n_tuple b_tuple rfl) (pa_cons (pe_bltn rfl T.n_list b_list rfl) pa_nil))) pa_nil)))))))) (pss_one (ps_ret pe_bl)) pss_nil)
    (pss_cons (ps_if (pt_cmpR (op_neD hu) (pe_callB call_lenA (by rfl) T.n_len b_len (pa_cons (pv 0) pa_nil)) (pe_callB call_lenA (by rfl) T.n_len b_len (pa_cons (pv 1) pa_nil)) (nomark _)) (pss_one (ps_ret pe_bl)) pss_nil)
    (pss_one (ps_ret (pe_cmpR (op_eqU hu) (pe_lc (own := [("_law_k", 2)]) (g := (gName 2)) (tt := (tNot (tB (tCall (sp_alike K j) [] E0 (tCons (tOp (rIxU P w K) (tVar 0) (tVar 2)) (tCons (tOp (rIxU P w K) (tVar 1) (tVar 2)) tNil)))))) rfl nd (pi_range1 rfl T.n_range (pa_cons (pe_callB call_lenA (by rfl) T.n_len b_len (pa_cons (pv 1) pa_nil)) pa_nil)) (blkOk_by (by kernel_rfl)) (fun _ _ _ _ _ => (pg_name (i := 2) nd rfl (Or.inl rfl))) (fun _ _ _ _ _ => (pts_one (pt_not (pt_val (xcall c_law_alike hr (Nat.le_refl _) rfl pass0 (pa_cons (pe_ix (ix_U hu) (pv 0) (pv 2) (fun _ _ => rfl)) (pa_cons (pe_ix (ix_U hu) (pv 1) (pv 2) (fun _ _ => rfl)) pa_nil))))))) (fun _ _ _ _ _ => (pv 2))) (pe_lst pa_nil) (nomark _)))))) pss_nil)
    (pss_cons (ps_if (PW.pt (pw_or (pt_cmpR op_isN (pv 1) pe_non (nomark _)) (pw_or1 (pt_cmpR op_isN (pv 0) pe_non (nomark _))))) (pss_one (ps_ret (pe_and (pe_cmpR op_isN (pv 1) pe_non (nomark _)) (pe_one (pe_cmpR op_isN (pv 0) pe_non (nomark _)))))) pss_nil)
    (pss_cons (ps_if (PW.pt (pw_or (pt_val (pe_callB call_isiU (by rfl) T.n_isinstance b_isinstance (pa_cons (pv 1) (pa_cons (pe_bltn rfl T.n_bool b_bool rfl) pa_nil)))) (pw_or1 (pt_val (pe_callB call_isiU (by rfl) T.n_isinstance b_isinstance (pa_cons (pv 0) (pa_cons (pe_bltn rfl T.n_bool b_bool rfl) pa_nil))))))) (pss_one (ps_ret (pe_and (pe_callB call_isiU (by rfl) T.n_isinstance b_isinstance (pa_cons (pv 1) (pa_cons (pe_bltn rfl T.n_bool b_bool rfl) pa_nil))) (pe_and (pe_callB call_isiU (by rfl) T.n_isinstance b_isinstance (pa_cons (pv 0) (pa_cons (pe_bltn rfl T.n_bool b_bool rfl) pa_nil))) (pe_one (pe_cmpR (op_eqU hu) (pv 0) (pv 1) (nomark _))))))) pss_nil)
    (pss_cons (ps_if (pt_val (pe_callB call_isiU (by rfl) T.n_isinstance b_isinstance (pa_cons (pv 1) (pa_cons (pe_bltn rfl T.n_str b_str rfl) pa_nil)))) (pss_one (ps_ret (pe_and (pe_callB call_isiU (by rfl) T.n_isinstance b_isinstance (pa_cons (pv 0) (pa_cons (pe_bltn rfl T.n_str b_str rfl) pa_nil))) (pe_one (pe_cmpR (op_eqU hu) (pv 0) (pv 1) (nomark _)))))) pss_nil)
    (pss_one (ps_ret (pe_and (pe_callB call_isiU (by rfl) T.n_isinstance b_isinstance (pa_cons (pv 0) (pa_cons (pe_bltn rfl T.n_int b_int rfl) pa_nil))) (pe_one (pe_cmpR (op_eqU hu) (pv 0) (pv 1) (nomark _))))))))))
abbrev s_c_rebuild : Stmt := inClass (top 26) 12
theorem sc_c_rebuild : FnScope ["self", "table"] ["self", "table"] (defScope s_c_rebuild) := ⟨rfl, rfl, rfl, by decide +kernel, rfl, by decide +kernel, by decide +kernel⟩
theorem ok_c_rebuild {f : Addr} {fd : FuncData} (F : Fun K "rebuild" "Cube.rebuild" s_c_rebuild f fd) (T : Txt K mg n) (TC : TxtS mg) (c_need_table : Callee P w K mg base CX0 1 "need_table" ["edges", "table"] (sp_need_table P w K n)) (c_c_make : CalleeM P w K mg base CX0 n.cube 3 "make" ["self", "table"] (sp_c_make P w K n)) : FnOk P w K mg base CX0 4 f fd ["self", "table"] (sp_c_rebuild P w K n) := by
  refine F.ok sc_c_rebuild (fun vs H Q E h => len_c_rebuild h) (fun cdv A outer s H vs Q E hr h => ⟨t_c_rebuild P w K n E0, ?_, pure_c_rebuild T h⟩)
  have hu := hr.units
  have nd := sc_c_rebuild.nd
  exact (pss_cons (ps_expr (xcall c_need_table hr (by decide) rfl pass0 (pa_cons (pe_fld (pv 0) rfl) (pa_cons (pv 1) pa_nil))))
    (pss_cons (ps_if (pt_cmpR (op_ninU hu) (pv 1) (pe_fld (pv 0) rfl) (by rfl)) (pss_one ps_raise0) pss_nil)
    (pss_cons (ps_expr (pe_bg PySem.F.plainAttrs_dict PySem.F.slot_dict_pop PySem.F.type_dict_pop (mt_kpop hu) (pe_fld (pv 0) rfl) (pa_cons (pv 1) pa_nil)))
    (pss_one (ps_ret (xmeth c_c_make T.cl hr (by decide) pass0 (pv 0) (pa_cons (pv 1) pa_nil)))))))
abbrev s_c_need_kept : Stmt := inClass (top 26) 6
theorem sc_c_need_kept : FnScope ["self", "table"] ["self", "table"] (defScope s_c_need_kept) := ⟨rfl, rfl, rfl, by decide +kernel, rfl, by decide +kernel, by decide +kernel⟩
theorem ok_c_need_kept {f : Addr} {fd : FuncData} (F : Fun K "need_kept" "Cube.need_kept" s_c_need_kept f fd) (T : Txt K mg n) (TC : TxtS mg) (c_need_table : Callee P w K mg base CX0 1 "need_table" ["edges", "table"] (sp_need_table P w K n)) : FnOk P w K mg base CX0 2 f fd ["self", "table"] (sp_c_need_kept P w K n) := by
  refine F.ok sc_c_need_kept (fun vs H Q E h => len_c_need_kept h) (fun cdv A outer s H vs Q E hr h => ⟨t_c_need_kept P w K n E0, ?_, pure_c_need_kept T h⟩)
  have hu := hr.units
  have nd := sc_c_need_kept.nd
  exact (pss_cons (ps_expr (xcall c_need_table hr (by decide) rfl pass0 (pa_cons (pe_fld (pv 0) rfl) (pa_cons (pv 1) pa_nil))))
    (pss_one (ps_if (pt_cmpR (op_ninU hu) (pv 1) (pe_fld (pv 0) rfl) (by rfl)) (pss_one ps_raise0) pss_nil)))
abbrev s_c_lose : Stmt := inClass (top 26) 11
theorem sc_c_lose : FnScope ["self", "table"] ["self", "table"] (defScope s_c_lose) := ⟨rfl, rfl, rfl, by decide +kernel, rfl, by decide +kernel, by decide +kernel⟩
theorem ok_c_lose {f : Addr} {fd : FuncData} (F : Fun K "lose" "Cube.lose" s_c_lose f fd) (T : Txt K mg n) (TC : TxtS mg) (c_c_need_kept : CalleeM P w K mg base CX0 n.cube 2 "need_kept" ["self", "table"] (sp_c_need_kept P w K n)) : FnOk P w K mg base CX0 3 f fd ["self", "table"] (sp_c_lose P w K n) := by
  refine F.ok sc_c_lose (fun vs H Q E h => len_c_lose h) (fun cdv A outer s H vs Q E hr h => ⟨t_c_lose P w K n E0, ?_, pure_c_lose T h⟩)
  have hu := hr.units
  have nd := sc_c_lose.nd
  exact (pss_cons (ps_expr (xmeth c_c_need_kept T.cl hr (by decide) pass0 (pv 0) (pa_cons (pv 1) pa_nil)))
    (pss_cons (ps_if (pt_cmpR (op_eqU hu) (pv 1) (pe_fld (pv 0) rfl) (nomark _)) (pss_one ps_raise0) pss_nil)
    (pss_cons (ps_expr (pe_bg PySem.F.plainAttrs_dict PySem.F.slot_dict_pop PySem.F.type_dict_pop (mt_kpop hu) (pe_fld (pv 0) rfl) (pa_cons (pv 1) pa_nil)))
    (pss_one (ps_asg pe_bl (pg_sub (pe_fld (pv 0) rfl) (pv 1) (set_U hu)))))))
abbrev s_c_drop : Stmt := inClass (top 26) 10
theorem sc_c_drop : FnScope ["self", "table"] ["self", "table"] (defScope s_c_drop) := ⟨rfl, rfl, rfl, by decide +kernel, rfl, by decide +kernel, by decide +kernel⟩
theorem ok_c_drop {f : Addr} {fd : FuncData} (F : Fun K "drop" "Cube.drop" s_c_drop f fd) (T : Txt K mg n) (TC : TxtS mg) (c_need_table : Callee P w K mg base CX0 1 "need_table" ["edges", "table"] (sp_need_table P w K n)) : FnOk P w K mg base CX0 2 f fd ["self", "table"] (sp_c_drop P w K n) := by
  refine F.ok sc_c_drop (fun vs H Q E h => len_c_drop h) (fun cdv A outer s H vs Q E hr h => ⟨t_c_drop P w K n E0, ?_, pure_c_drop T h⟩)
  have hu := hr.units
  have nd := sc_c_drop.nd
  exact (pss_cons (ps_expr (xcall c_need_table hr (by decide) rfl pass0 (pa_cons (pe_fld (pv 0) rfl) (pa_cons (pv 1) pa_nil))))
    (pss_cons (ps_if (PW.pt (pw_or (pt_cmpR (op_eqU hu) (pv 1) (pe_fld (pv 0) rfl) (nomark _)) (pw_or1 (PW.pt (pw_and (pt_cmpR (op_ninU hu) (pv 1) (pe_fld (pv 0) rfl) (by rfl)) (pw_and1 (pt_cmpR (op_ninU hu) (pv 1) (pe_fld (pv 0) rfl) (by rfl)))))))) (pss_one ps_raise0) pss_nil)
    (pss_cons (ps_expr (pe_bg PySem.F.plainAttrs_dict PySem.F.slot_dict_pop PySem.F.type_dict_pop (mt_kpop2 hu) (pe_fld (pv 0) rfl) (pa_cons (pv 1) (pa_cons pe_non pa_nil))))
    (pss_one (ps_expr (pe_bg PySem.F.plainAttrs_dict PySem.F.slot_dict_pop PySem.F.type_dict_pop (mt_kpop2 hu) (pe_fld (pv 0) rfl) (pa_cons (pv 1) (pa_cons pe_non pa_nil))))))))
abbrev s_law_deed_of_table : Stmt := top 38
theorem sc_law_deed_of_table : FnScope ["_law_cube", "_law_m", "_law_table_here", "_law_way", "_law_road"] ["_law_cube", "_law_m", "_law_table_here", "_law_way"] (defScope s_law_deed_of_table) := ⟨rfl, rfl, rfl, by decide +kernel, rfl, by decide +kernel, by decide +kernel⟩
theorem ok_law_deed_of_table {f : Addr} {fd : FuncData} (F : Fun K "_law_deed_of_table" "_law_deed_of_table" s_law_deed_of_table f fd) (T : Txt K mg n) (TC : TxtS mg) (c_law_standing : Callee P w K mg base CX0 1 "_law_standing" ["_law_m"] (sp_law_standing P w K n)) (c_law_best : Callee P w K mg base CX0 3 "_law_best" ["_law_m", "_law_some", "_law_table_here"] (sp_law_best P w K n)) (c_c_keep : CalleeM P w K mg base CX0 n.cube 4 "keep" ["self", "table"] (sp_c_keep P w K n)) (c_law_alike : Callee P w K mg base CX0 6 "_law_alike" ["_law_found", "_law_due_here"] (sp_law_alike P w K n)) (c_c_rebuild : CalleeM P w K mg base CX0 n.cube 4 "rebuild" ["self", "table"] (sp_c_rebuild P w K n)) (c_c_lose : CalleeM P w K mg base CX0 n.cube 3 "lose" ["self", "table"] (sp_c_lose P w K n)) (c_c_drop : CalleeM P w K mg base CX0 n.cube 2 "drop" ["self", "table"] (sp_c_drop P w K n)) : FnOk P w K mg base CX0 7 f fd ["_law_cube", "_law_m", "_law_table_here", "_law_way"] (sp_law_deed_of_table P w K n) := by
  refine F.ok sc_law_deed_of_table (fun vs H Q E h => len_law_deed_of_table h) (fun cdv A outer s H vs Q E hr h => ⟨t_law_deed_of_table P w K n E0, ?_, pure_law_deed_of_table T h⟩)
  have hu := hr.units
  have nd := sc_law_deed_of_table.nd
  exact (pss_cons (ps_set (i := 4) nd rfl (Or.inl rfl) (xcall c_law_best hr (by decide) rfl pass0 (pa_cons (pv 1) (pa_cons (xcall c_law_standing hr (by decide) rfl pass0 (pa_cons (pv 1) pa_nil)) (pa_cons (pv 2) pa_nil)))))
    (pss_cons (ps_if (pt_cmpR (op_ninU hu) (pv 2) (pe_dget (hu_of hr) (pv 1) pe_str (fun _ _ => rfl)) (by rfl)) (pss_cons (ps_asg pe_bl (pg_sub (pe_dget (hu_of hr) (pv 1) pe_str (fun _ _ => rfl)) (pv 2) (set_U hu)))
    (pss_one (ps_ret (xcall c_law_alike hr (by decide) rfl pass0 (pa_cons (xmeth c_c_keep T.cl hr (by decide) pass0 (pv 0) (pa_cons (pv 2) pa_nil)) (pa_cons (pv 4) pa_nil)))))) pss_nil)
    (pss_cons (ps_if (PW.pt (pw_and (pt_not (pt_val (pe_ix (ix_U hu) (pe_dget (hu_of hr) (pv 1) pe_str (fun _ _ => rfl)) (pv 2) (fun _ _ => rfl)))) (pw_and1 (pt_cmpR op_lt (pv 3) pe_int (nomark _))))) (pss_cons (ps_asg pe_bl (pg_sub (pe_dget (hu_of hr) (pv 1) pe_str (fun _ _ => rfl)) (pv 2) (set_U hu)))
    (pss_one (ps_ret (xcall c_law_alike hr (by decide) rfl pass0 (pa_cons (xmeth c_c_rebuild T.cl hr (by decide) pass0 (pv 0) (pa_cons (pv 2) pa_nil)) (pa_cons (pv 4) pa_nil)))))) pss_nil)
    (pss_cons (ps_if (PW.pt (pw_and (pt_val (pe_ix (ix_U hu) (pe_dget (hu_of hr) (pv 1) pe_str (fun _ _ => rfl)) (pv 2) (fun _ _ => rfl))) (pw_and1 (pt_cmpR (op_eqU hu) (pv 3) pe_int (nomark _))))) (pss_cons (ps_asg pe_bl (pg_sub (pe_dget (hu_of hr) (pv 1) pe_str (fun _ _ => rfl)) (pv 2) (set_U hu)))
    (pss_one (ps_ret (pe_cmpR op_isN (xmeth c_c_lose T.cl hr (by decide) pass0 (pv 0) (pa_cons (pv 2) pa_nil)) pe_non (nomark _))))) pss_nil)
    (pss_cons (ps_expr (pe_bg PySem.F.plainAttrs_dict PySem.F.slot_dict_pop PySem.F.type_dict_pop (mt_kpop hu) (pe_dget (hu_of hr) (pv 1) pe_str (fun _ _ => rfl)) (pa_cons (pv 2) pa_nil)))
    (pss_one (ps_ret (pe_cmpR op_isN (xmeth c_c_drop T.cl hr (by decide) pass0 (pv 0) (pa_cons (pv 2) pa_nil)) pe_non (nomark _)))))))))
abbrev s_c_need_row : Stmt := inClass (top 26) 2
theorem sc_c_need_row : FnScope ["self", "values", "amount", "value"] ["self", "values", "amount"] (defScope s_c_need_row) := ⟨rfl, rfl, rfl, by decide +kernel, rfl, by decide +kernel, by decide +kernel⟩
theorem ok_c_need_row {f : Addr} {fd : FuncData} (F : Fun K "need_row" "Cube.need_row" s_c_need_row f fd) (T : Txt K mg n) (TC : TxtS mg)  : FnOk P w K mg base CX0 1 f fd ["self", "values", "amount"] (sp_c_need_row P w K n) := by
  refine F.ok sc_c_need_row (fun vs H Q E h => len_c_need_row h) (fun cdv A outer s H vs Q E hr h => ⟨t_c_need_row P w K n E0, ?_, pure_c_need_row T h⟩)
  have hu := hr.units
  have nd := sc_c_need_row.nd
  exact (pss_cons (ps_if (PW.pt (pw_or (pt_cmpR (op_neD hu) (pe_callB call_lenA (by rfl) T.n_len b_len (pa_cons (pv 1) pa_nil)) (pe_fld (pv 0) rfl) (nomark _)) (pw_or1 (pt_cmpR (op_neD hu) (pe_lc (own := [("value", 3)]) (g := (gName 3)) (tt := (tNot (tTest (tChain rLeI rLeI (tC (.int 0)) (tVar 3) (tC (.int 99)))))) rfl nd (pi_any (pv 1)) (blkOk_by (by kernel_rfl)) (fun _ _ _ _ _ => (pg_name (i := 3) nd rfl (Or.inl rfl))) (fun _ _ _ _ _ => (pts_one (pt_not (pt_chain op_le op_le pe_int (pv 3) (xconst T.c_MOST_VALUE rfl))))) (fun _ _ _ _ _ => (pv 3))) (pe_lst pa_nil) (nomark _))))) (pss_one ps_raise0) pss_nil)
    (pss_one (ps_if (pt_cmpR op_gt (pe_callB call_abs (by rfl) T.n_abs b_abs (pa_cons (pv 2) pa_nil)) (xconst T.c_MOST_AMOUNT rfl) (nomark _)) (pss_one ps_raise0) pss_nil)))
abbrev s_c_touch : Stmt := inClass (top 26) 5
theorem sc_c_touch : FnScope ["self", "values", "count", "amount", "table", "edge"] ["self", "values", "count", "amount"] (defScope s_c_touch) := ⟨rfl, rfl, rfl, by decide +kernel, rfl, by decide +kernel, by decide +kernel⟩
theorem ok_c_touch {f : Addr} {fd : FuncData} (F : Fun K "touch" "Cube.touch" s_c_touch f fd) (T : Txt K mg n) (TC : TxtS mg) (c_added : Callee P w K mg base CX0 1 "added" ["known", "values", "count", "amount"] (sp_added P w K n)) : FnOk P w K mg base CX0 2 f fd ["self", "values", "count", "amount"] (sp_c_touch P w K n) := by
  refine F.ok sc_c_touch (fun vs H Q E h => len_c_touch h) (fun cdv A outer s H vs Q E hr h => ⟨t_c_touch P w K n E0, ?_, pure_c_touch T h⟩)
  have hu := hr.units
  have nd := sc_c_touch.nd
  exact (pss_one (ps_lock (ps_for PassesOwn.never rfl (pi_any (pe_fld (pv 0) rfl)) (pg_name (i := 4) nd rfl (Or.inl rfl)) (pss_one (ps_expr (xcall c_added hr (by decide) rfl pass0 (pa_cons (pe_ix (ix_U hu) (pe_fld (pv 0) rfl) (pv 4) (fun _ _ => rfl)) (pa_cons (pe_callTy cr_tupF (by rfl) T.n_tuple b_tuple (pa_cons (pe_lc (own := [("edge", 5)]) (g := (gName 5)) (tt := tYes) rfl nd (pi_any (pv 4)) (blkOk_by (by kernel_rfl)) (fun _ _ _ _ _ => (pg_name (i := 5) nd rfl (Or.inl rfl))) (fun _ _ _ _ _ => pts_nil) (fun _ _ _ _ _ => (pe_ix (ix_U hu) (pv 1) (pv 5) (fun _ _ => rfl)))) pa_nil)) (pa_cons (pv 2) (pa_cons (pv 3) pa_nil))))))))))
abbrev s_c_take : Stmt := inClass (top 26) 4
theorem sc_c_take : FnScope ["self", "values", "amount", "row"] ["self", "values", "amount"] (defScope s_c_take) := ⟨rfl, rfl, rfl, by decide +kernel, rfl, by decide +kernel, by decide +kernel⟩
theorem ok_c_take {f : Addr} {fd : FuncData} (F : Fun K "take" "Cube.take" s_c_take f fd) (T : Txt K mg n) (TC : TxtS mg) (c_c_need_row : CalleeM P w K mg base CX0 n.cube 1 "need_row" ["self", "values", "amount"] (sp_c_need_row P w K n)) (c_c_touch : CalleeM P w K mg base CX0 n.cube 2 "touch" ["self", "values", "count", "amount"] (sp_c_touch P w K n)) : FnOk P w K mg base CX0 3 f fd ["self", "values", "amount"] (sp_c_take P w K n) := by
  refine F.ok sc_c_take (fun vs H Q E h => len_c_take h) (fun cdv A outer s H vs Q E hr h => ⟨t_c_take P w K n E0, ?_, pure_c_take T h⟩)
  have hu := hr.units
  have nd := sc_c_take.nd
  exact (pss_cons (ps_expr (xmeth c_c_need_row T.cl hr (by decide) pass0 (pv 0) (pa_cons (pv 1) (pa_cons (pv 2) pa_nil))))
    (pss_cons (ps_set (i := 3) nd rfl (Or.inl rfl) (pe_tupF (pa_cons (pv 1) (pa_cons (pv 2) pa_nil))))
    (pss_cons (ps_if (pt_cmpR (op_ninU hu) (pv 3) (pe_fld (pv 0) rfl) (by rfl)) (pss_one ps_raise0) pss_nil)
    (pss_cons (ps_asg (pe_op op_minus (pe_ix (ix_U hu) (pe_fld (pv 0) rfl) (pv 3) (fun _ _ => rfl)) pe_int) (pg_sub (pe_fld (pv 0) rfl) (pv 3) (set_U hu)))
    (pss_cons (ps_if (pt_cmpR (op_eqU hu) (pe_ix (ix_U hu) (pe_fld (pv 0) rfl) (pv 3) (fun _ _ => rfl)) pe_int (nomark _)) (pss_one (ps_expr (pe_bg PySem.F.plainAttrs_dict PySem.F.slot_dict_pop PySem.F.type_dict_pop (mt_kpop hu) (pe_fld (pv 0) rfl) (pa_cons (pv 3) pa_nil)))) pss_nil)
    (pss_one (ps_expr (xmeth c_c_touch T.cl hr (by decide) pass0 (pv 0) (pa_cons (pv 1) (pa_cons (pe_un un_neg pe_int) (pa_cons (pe_op op_minus pe_int (pv 2)) pa_nil)))))))))))
abbrev s_law_drawn : Stmt := top 31
theorem sc_law_drawn : FnScope ["_law_row", "_law_m", "_law_values", "_law_some", "_law_k"] ["_law_row", "_law_m"] (defScope s_law_drawn) := ⟨rfl, rfl, rfl, by decide +kernel, rfl, by decide +kernel, by decide +kernel⟩
theorem ok_law_drawn {f : Addr} {fd : FuncData} (F : Fun K "_law_drawn" "_law_drawn" s_law_drawn f fd) (T : Txt K mg n) (TC : TxtS mg) (c_law_taken : Callee P w K mg base CX0 1 "_law_taken" ["_law_row", "_law_many"] (sp_law_taken P w K n)) : FnOk P w K mg base CX0 2 f fd ["_law_row", "_law_m"] (sp_law_drawn P w K n) := by
  refine F.ok sc_law_drawn (fun vs H Q E h => len_law_drawn h) (fun cdv A outer s H vs Q E hr h => ⟨t_law_drawn P w K n E0, ?_, pure_law_drawn T h⟩)
  have hu := hr.units
  have nd := sc_law_drawn.nd
  exact (pss_cons (ps_set (i := 2) nd rfl (Or.inl rfl) (pe_callTy cr_tupF (by rfl) T.n_tuple b_tuple (pa_cons (pe_lc (own := [("_law_k", 4)]) (g := (gName 4)) (tt := tYes) rfl nd (pi_range1 rfl T.n_range (pa_cons (pe_dget (hu_of hr) (pv 1) pe_str (fun _ _ => rfl)) pa_nil)) (blkOk_by (by kernel_rfl)) (fun _ _ _ _ _ => (pg_name (i := 4) nd rfl (Or.inl rfl))) (fun _ _ _ _ _ => pts_nil) (fun _ _ _ _ _ => (xcall c_law_taken hr (by decide) rfl pass0 (pa_cons (pv 0) (pa_cons (pe_dget (hu_of hr) (pv 1) pe_str (fun _ _ => rfl)) pa_nil))))) pa_nil)))
    (pss_cons (ps_set (i := 3) nd rfl (Or.inl rfl) (pe_lst (pa_cons (pe_op op_minus (xcall c_law_taken hr (by decide) rfl pass0 (pa_cons (pv 0) (pa_cons pe_int pa_nil))) pe_int) (pa_cons (pe_op op_minus (xcall c_law_taken hr (by decide) rfl pass0 (pa_cons (pv 0) (pa_cons pe_int pa_nil))) pe_int) (pa_cons (pe_op op_minus (pe_op op_pow pe_int pe_int) (xcall c_law_taken hr (by decide) rfl pass0 (pa_cons (pv 0) (pa_cons pe_int pa_nil)))) pa_nil)))))
    (pss_one (ps_ret (pe_tupF (pa_cons (pv 2) (pa_cons (pe_op op_mul (pe_ix (ix_U hu) (pv 3) (xcall c_law_taken hr (by decide) rfl pass0 (pa_cons (pv 0) (pa_cons pe_int pa_nil))) (fun _ _ => rfl)) (pe_ix (ix_U hu) (pe_lst (pa_cons pe_int (pa_cons pe_int (pa_cons (pe_op op_minus pe_int pe_int) pa_nil)))) (xcall c_law_taken hr (by decide) rfl pass0 (pa_cons (pv 0) (pa_cons pe_int pa_nil))) (fun _ _ => rfl))) pa_nil)))))))
abbrev s_c_put : Stmt := inClass (top 26) 3
theorem sc_c_put : FnScope ["self", "values", "amount", "row"] ["self", "values", "amount"] (defScope s_c_put) := ⟨rfl, rfl, rfl, by decide +kernel, rfl, by decide +kernel, by decide +kernel⟩
theorem ok_c_put {f : Addr} {fd : FuncData} (F : Fun K "put" "Cube.put" s_c_put f fd) (T : Txt K mg n) (TC : TxtS mg) (c_c_need_row : CalleeM P w K mg base CX0 n.cube 1 "need_row" ["self", "values", "amount"] (sp_c_need_row P w K n)) (c_c_touch : CalleeM P w K mg base CX0 n.cube 2 "touch" ["self", "values", "count", "amount"] (sp_c_touch P w K n)) : FnOk P w K mg base CX0 3 f fd ["self", "values", "amount"] (sp_c_put P w K n) := by
  refine F.ok sc_c_put (fun vs H Q E h => len_c_put h) (fun cdv A outer s H vs Q E hr h => ⟨t_c_put P w K n E0, ?_, pure_c_put T h⟩)
  have hu := hr.units
  have nd := sc_c_put.nd
  exact (pss_cons (ps_expr (xmeth c_c_need_row T.cl hr (by decide) pass0 (pv 0) (pa_cons (pv 1) (pa_cons (pv 2) pa_nil))))
    (pss_cons (ps_set (i := 3) nd rfl (Or.inl rfl) (pe_tupF (pa_cons (pv 1) (pa_cons (pv 2) pa_nil))))
    (pss_cons (ps_asg (pe_op op_plus (pe_bg PySem.F.plainAttrs_dict PySem.F.slot_dict_get PySem.F.type_dict_get (mt_kget hu) (pe_fld (pv 0) rfl) (pa_cons (pv 3) (pa_cons pe_int pa_nil))) pe_int) (pg_sub (pe_fld (pv 0) rfl) (pv 3) (set_U hu)))
    (pss_one (ps_expr (xmeth c_c_touch T.cl hr (by decide) pass0 (pv 0) (pa_cons (pv 1) (pa_cons pe_int (pa_cons (pv 2) pa_nil)))))))))
abbrev s_law_deed : Stmt := top 37
theorem sc_law_deed : FnScope ["_law_row", "_law_cube", "_law_m", "_law_way", "_law_table_here", "_law_values", "_law_amount"] ["_law_row", "_law_cube", "_law_m"] (defScope s_law_deed) := ⟨rfl, rfl, rfl, by decide +kernel, rfl, by decide +kernel, by decide +kernel⟩
theorem ok_law_deed {f : Addr} {fd : FuncData} (F : Fun K "_law_deed" "_law_deed" s_law_deed f fd) (T : Txt K mg n) (TC : TxtS mg) (c_law_taken : Callee P w K mg base CX0 1 "_law_taken" ["_law_row", "_law_many"] (sp_law_taken P w K n)) (c_law_table : Callee P w K mg base CX0 2 "_law_table" ["_law_row", "_law_m"] (sp_law_table P w K n)) (c_law_deed_of_table : Callee P w K mg base CX0 7 "_law_deed_of_table" ["_law_cube", "_law_m", "_law_table_here", "_law_way"] (sp_law_deed_of_table P w K n)) (c_c_take : CalleeM P w K mg base CX0 n.cube 3 "take" ["self", "values", "amount"] (sp_c_take P w K n)) (c_law_drawn : Callee P w K mg base CX0 2 "_law_drawn" ["_law_row", "_law_m"] (sp_law_drawn P w K n)) (c_c_put : CalleeM P w K mg base CX0 n.cube 3 "put" ["self", "values", "amount"] (sp_c_put P w K n)) : FnOk P w K mg base CX0 8 f fd ["_law_row", "_law_cube", "_law_m"] (sp_law_deed P w K n) := by
  refine F.ok sc_law_deed (fun vs H Q E h => len_law_deed h) (fun cdv A outer s H vs Q E hr h => ⟨t_law_deed P w K n E0, ?_, pure_law_deed T h⟩)
  have hu := hr.units
  have nd := sc_law_deed.nd
  exact (pss_cons (ps_set (i := 3) nd rfl (Or.inl rfl) (xcall c_law_taken hr (by decide) rfl pass0 (pa_cons (pv 0) (pa_cons pe_int pa_nil))))
    (pss_cons (ps_set (i := 4) nd rfl (Or.inl rfl) (xcall c_law_table hr (by decide) rfl pass0 (pa_cons (pv 0) (pa_cons (pv 2) pa_nil))))
    (pss_cons (ps_if (PW.pt (pw_and (pt_cmpR op_gt (pv 3) pe_int (nomark _)) (pw_and1 (pt_cmpR (op_neD hu) (pv 4) (pe_tupRgF rfl rfl T.n_tuple (prg_1 rfl T.n_range (pe_dget (hu_of hr) (pv 2) pe_str (fun _ _ => rfl)))) (nomark _))))) (pss_one (ps_ret (xcall c_law_deed_of_table hr (by decide) rfl pass0 (pa_cons (pv 1) (pa_cons (pv 2) (pa_cons (pv 4) (pa_cons (pv 3) pa_nil))))))) pss_nil)
    (pss_cons (ps_if (PW.pt (pw_and (pt_cmpR (op_neD hu) (pe_dget (hu_of hr) (pv 2) pe_str (fun _ _ => rfl)) (pe_lst pa_nil) (nomark _)) (pw_and1 (pt_cmpR op_gt (pv 3) pe_int (nomark _))))) (pss_cons (ps_asg (pe_bg PySem.F.plainAttrs_list PySem.F.slot_list_pop PySem.F.type_list_pop mt_popAt (pe_dget (hu_of hr) (pv 2) pe_str (fun _ _ => rfl)) (pa_cons (xcall c_law_taken hr (by decide) rfl pass0 (pa_cons (pv 0) (pa_cons (pe_callB call_lenA (by rfl) T.n_len b_len (pa_cons (pe_dget (hu_of hr) (pv 2) pe_str (fun _ _ => rfl)) pa_nil)) pa_nil))) pa_nil)) (pg_tup rfl (pgs_cons (pg_name (i := 5) nd rfl (Or.inl rfl)) (pgs_cons (pg_name (i := 6) nd rfl (Or.inl rfl)) pgs_nil))))
    (pss_one (ps_ret (pe_cmpR op_isN (xmeth c_c_take T.cl hr (by decide) pass0 (pv 1) (pa_cons (pv 5) (pa_cons (pv 6) pa_nil))) pe_non (nomark _))))) pss_nil)
    (pss_cons (ps_asg (xcall c_law_drawn hr (by decide) rfl pass0 (pa_cons (pv 0) (pa_cons (pv 2) pa_nil))) (pg_tup rfl (pgs_cons (pg_name (i := 5) nd rfl (Or.inl rfl)) (pgs_cons (pg_name (i := 6) nd rfl (Or.inl rfl)) pgs_nil))))
    (pss_cons (ps_if (PW.pt (pw_and (pt_cmpR (op_neD hu) (pe_dget (hu_of hr) (pv 2) pe_str (fun _ _ => rfl)) (pe_lst pa_nil) (nomark _)) (pw_and1 (pt_cmpR (op_eqU hu) (pv 3) pe_int (nomark _))))) (pss_one (ps_asg (pe_ix (ix_U hu) (pe_dget (hu_of hr) (pv 2) pe_str (fun _ _ => rfl)) (xcall c_law_taken hr (by decide) rfl pass0 (pa_cons (pv 0) (pa_cons (pe_callB call_lenA (by rfl) T.n_len b_len (pa_cons (pe_dget (hu_of hr) (pv 2) pe_str (fun _ _ => rfl)) pa_nil)) pa_nil))) (fun _ _ => rfl)) (pg_tup rfl (pgs_cons (pg_name (i := 5) nd rfl (Or.inl rfl)) (pgs_cons (pg_name (i := 6) nd rfl (Or.inl rfl)) pgs_nil))))) pss_nil)
    (pss_cons (ps_expr (pe_bg PySem.F.plainAttrs_list PySem.F.slot_list_append PySem.F.type_list_append mt_append (pe_dget (hu_of hr) (pv 2) pe_str (fun _ _ => rfl)) (pa_cons (pe_tupF (pa_cons (pv 5) (pa_cons (pv 6) pa_nil))) pa_nil)))
    (pss_one (ps_ret (pe_cmpR op_isN (xmeth c_c_put T.cl hr (by decide) pass0 (pv 1) (pa_cons (pv 5) (pa_cons (pv 6) pa_nil))) pe_non (nomark _)))))))))))
abbrev s_law_grown : Stmt := top 39
theorem sc_law_grown : FnScope ["_law_row", "_law_most", "_law_many", "_law_m", "_law_cube", "_law_k"] ["_law_row", "_law_most", "_law_many"] (defScope s_law_grown) := ⟨rfl, rfl, rfl, by decide +kernel, rfl, by decide +kernel, by decide +kernel⟩
theorem ok_law_grown {f : Addr} {fd : FuncData} (F : Fun K "_law_grown" "_law_grown" s_law_grown f fd) (T : Txt K mg n) (TC : TxtS mg) (c_law_fresh : Callee P w K mg base CX0 2 "_law_fresh" ["_law_row", "_law_most"] (sp_law_fresh P w K n)) (c_c_init : CalleeC P w K mg base CX0 n.cube 1 "Cube" ["self", "edges"] (sp_c_init P w K n)) (c_law_taken : Callee P w K mg base CX0 1 "_law_taken" ["_law_row", "_law_many"] (sp_law_taken P w K n)) (c_law_deed : Callee P w K mg base CX0 8 "_law_deed" ["_law_row", "_law_cube", "_law_m"] (sp_law_deed P w K n)) : FnOk P w K mg base CX0 9 f fd ["_law_row", "_law_most", "_law_many"] (sp_law_grown P w K n) := by
  refine F.ok sc_law_grown (fun vs H Q E h => len_law_grown h) (fun cdv A outer s H vs Q E hr h => ⟨t_law_grown P w K n E0, ?_, pure_law_grown T h⟩)
  have hu := hr.units
  have nd := sc_law_grown.nd
  exact (pss_cons (ps_set (i := 3) nd rfl (Or.inl rfl) (xcall c_law_fresh hr (by decide) rfl pass0 (pa_cons (pv 0) (pa_cons (pv 1) pa_nil))))
    (pss_cons (ps_set (i := 4) nd rfl (Or.inl rfl) (xmake c_c_init hr (by decide) rfl pass0 (pa_cons (pe_dget (hu_of hr) (pv 3) pe_str (fun _ _ => rfl)) pa_nil)))
    (pss_cons (ps_for PassesOwn.never rfl (pi_range1 rfl T.n_range (pa_cons (xcall c_law_taken hr (by decide) rfl pass0 (pa_cons (pv 0) (pa_cons (pe_op op_plus (pv 2) pe_int) pa_nil))) pa_nil)) (pg_name (i := 5) nd rfl (Or.inl rfl)) (pss_one (ps_if (pt_not (pt_val (xcall c_law_deed hr (by decide) rfl pass0 (pa_cons (pv 0) (pa_cons (pv 4) (pa_cons (pv 3) pa_nil)))))) (pss_one (ps_ret pe_non)) pss_nil)))
    (pss_one (ps_ret (pe_tupF (pa_cons (pv 4) (pa_cons (pv 3) pa_nil))))))))
abbrev s_law_all : Stmt := top 40
theorem sc_law_all : FnScope ["_law_many", "_law_found", "_law_edge", "_law_table_here"] ["_law_many"] (defScope s_law_all) := ⟨rfl, rfl, rfl, by decide +kernel, rfl, by decide +kernel, by decide +kernel⟩
theorem ok_law_all {f : Addr} {fd : FuncData} (F : Fun K "_law_all" "_law_all" s_law_all f fd) (T : Txt K mg n) (TC : TxtS mg)  : FnOk P w K mg base CX0 1 f fd ["_law_many"] (sp_law_all P w K n) := by
  refine F.ok sc_law_all (fun vs H Q E h => len_law_all h) (fun cdv A outer s H vs Q E hr h => ⟨t_law_all P w K n E0, ?_, pure_law_all T h⟩)
  have hu := hr.units
  have nd := sc_law_all.nd
  exact (pss_cons (ps_set (i := 1) nd rfl (Or.inl rfl) (pe_lst (pa_cons (pe_tupF pa_nil) pa_nil)))
    (pss_cons (ps_for PassesOwn.never rfl (pi_range1 rfl T.n_range (pa_cons (pv 0) pa_nil)) (pg_name (i := 2) nd rfl (Or.inr rfl)) (pss_one (ps_set (i := 1) nd rfl (Or.inl rfl) (pe_op op_plus (pv 1) (pe_lc (own := [("_law_table_here", 3)]) (g := (gName 3)) (tt := tYes) rfl nd (pi_any (pv 1)) (blkOk_by (by kernel_rfl)) (fun _ _ _ _ _ => (pg_name (i := 3) nd rfl (Or.inl rfl))) (fun _ _ _ _ _ => pts_nil) (fun _ _ _ _ _ => (pe_op op_plus (pv 3) (pe_tupF (pa_cons (pv 2) pa_nil)))))))))
    (pss_one (ps_ret (pe_callB (cr_sortU rfl hu) (by rfl) T.n_sorted b_sorted (pa_cons (pv 1) pa_nil))))))
abbrev s_all_tables : Stmt := top 12
theorem sc_all_tables : FnScope ["edges", "found", "edge", "table"] ["edges"] (defScope s_all_tables) := ⟨rfl, rfl, rfl, by decide +kernel, rfl, by decide +kernel, by decide +kernel⟩
theorem ok_all_tables {f : Addr} {fd : FuncData} (F : Fun K "all_tables" "all_tables" s_all_tables f fd) (T : Txt K mg n) (TC : TxtS mg)  : FnOk P w K mg base CX0 1 f fd ["edges"] (sp_all_tables P w K n) := by
  refine F.ok sc_all_tables (fun vs H Q E h => len_all_tables h) (fun cdv A outer s H vs Q E hr h => ⟨t_all_tables P w K n E0, ?_, pure_all_tables T h⟩)
  have hu := hr.units
  have nd := sc_all_tables.nd
  exact (pss_cons (ps_set (i := 1) nd rfl (Or.inl rfl) (pe_lst (pa_cons (pe_tupF pa_nil) pa_nil)))
    (pss_cons (ps_for PassesOwn.never rfl (pi_range1 rfl T.n_range (pa_cons (pv 0) pa_nil)) (pg_name (i := 2) nd rfl (Or.inr rfl)) (pss_one (ps_set (i := 1) nd rfl (Or.inl rfl) (pe_op op_plus (pv 1) (pe_lc (own := [("table", 3)]) (g := (gName 3)) (tt := tYes) rfl nd (pi_any (pv 1)) (blkOk_by (by kernel_rfl)) (fun _ _ _ _ _ => (pg_name (i := 3) nd rfl (Or.inl rfl))) (fun _ _ _ _ _ => pts_nil) (fun _ _ _ _ _ => (pe_op op_plus (pv 3) (pe_tupF (pa_cons (pv 2) pa_nil)))))))))
    (pss_one (ps_ret (pe_callB (cr_sortU rfl hu) (by rfl) T.n_sorted b_sorted (pa_cons (pv 1) pa_nil))))))
abbrev s_sizes_of : Stmt := top 18
theorem sc_sizes_of : FnScope ["cube", "found", "table"] ["cube"] (defScope s_sizes_of) := ⟨rfl, rfl, rfl, by decide +kernel, rfl, by decide +kernel, by decide +kernel⟩
theorem ok_sizes_of {f : Addr} {fd : FuncData} (F : Fun K "sizes_of" "sizes_of" s_sizes_of f fd) (T : Txt K mg n) (TC : TxtS mg) (c_all_tables : Callee P w K mg base CX0 1 "all_tables" ["edges"] (sp_all_tables P w K n)) (c_reckoned : Callee P w K mg base CX0 2 "reckoned" ["road", "known", "table"] (sp_reckoned P w K n)) : FnOk P w K mg base CX0 3 f fd ["cube"] (sp_sizes_of P w K n) := by
  refine F.ok sc_sizes_of (fun vs H Q E h => len_sizes_of h) (fun cdv A outer s H vs Q E hr h => ⟨t_sizes_of P w K n E0, ?_, pure_sizes_of T h⟩)
  have hu := hr.units
  have nd := sc_sizes_of.nd
  exact (pss_cons (ps_set (i := 1) nd rfl (Or.inl rfl) pe_newD)
    (pss_cons (ps_for PassesOwn.never rfl (pi_any (xcall c_all_tables hr (by decide) rfl pass0 (pa_cons (pe_fld (pv 0) rfl) pa_nil))) (pg_name (i := 2) nd rfl (Or.inl rfl)) (pss_one (ps_asg (pe_callB call_lenA (by rfl) T.n_len b_len (pa_cons (xcall c_reckoned hr (by decide) rfl pass0 (pa_cons (pe_fld (pv 0) rfl) (pa_cons (pe_ix (ix_U hu) (pe_fld (pv 0) rfl) (pe_fld (pv 0) rfl) (fun _ _ => rfl)) (pa_cons (pv 2) pa_nil)))) pa_nil)) (pg_sub (pv 1) (pv 2) (set_U hu)))))
    (pss_one (ps_ret (pv 1)))))
abbrev s_goes : Stmt := top 13
theorem sc_goes : FnScope ["road", "table", "edge"] ["road", "table"] (defScope s_goes) := ⟨rfl, rfl, rfl, by decide +kernel, rfl, by decide +kernel, by decide +kernel⟩
theorem ok_goes {f : Addr} {fd : FuncData} (F : Fun K "goes" "goes" s_goes f fd) (T : Txt K mg n) (TC : TxtS mg)  : FnOk P w K mg base CX0 1 f fd ["road", "table"] (sp_goes P w K n) := by
  refine F.ok sc_goes (fun vs H Q E h => len_goes h) (fun cdv A outer s H vs Q E hr h => ⟨t_goes P w K n E0, ?_, pure_goes T h⟩)
  have hu := hr.units
  have nd := sc_goes.nd
  exact (pss_one (ps_ret (pe_cmpR (op_eqU hu) (pe_lc (own := [("edge", 2)]) (g := (gName 2)) (tt := (tTest (tOp (rInU P w K true) (tVar 2) (tVar 0)))) rfl nd (pi_any (pv 1)) (blkOk_by (by kernel_rfl)) (fun _ _ _ _ _ => (pg_name (i := 2) nd rfl (Or.inl rfl))) (fun _ _ _ _ _ => (pts_one (pt_cmpR (op_ninU hu) (pv 2) (pv 0) (by rfl)))) (fun _ _ _ _ _ => (pv 2))) (pe_lst pa_nil) (nomark _))))
abbrev s_best_road : Stmt := top 20
theorem sc_best_road : FnScope ["known", "some", "table", "road"] ["known", "some", "table"] (defScope s_best_road) := ⟨rfl, rfl, rfl, by decide +kernel, rfl, by decide +kernel, by decide +kernel⟩
theorem ok_best_road {f : Addr} {fd : FuncData} (F : Fun K "best_road" "best_road" s_best_road f fd) (T : Txt K mg n) (TC : TxtS mg) (c_goes : Callee P w K mg base CX0 1 "goes" ["road", "table"] (sp_goes P w K n)) : FnOk P w K mg base CX0 2 f fd ["known", "some", "table"] (sp_best_road P w K n) := by
  refine F.ok sc_best_road (fun vs H Q E h => len_best_road h) (fun cdv A outer s H vs Q E hr h => ⟨t_best_road P w K n E0, ?_, pure_best_road T h⟩)
  have hu := hr.units
  have nd := sc_best_road.nd
  exact (pss_one (ps_ret (pe_ix (ix_U hu) (pe_callB (cr_minU rfl hu) (by rfl) TC.n_min b_min (pa_cons (pe_lc (own := [("road", 3)]) (g := (gName 3)) (tt := (tB (tCall (sp_goes P w K n) [] E0 (tCons (tVar 3) (tCons (tVar 2) tNil))))) rfl nd (pi_any (pv 1)) (blkOk_by (by kernel_rfl)) (fun _ _ _ _ _ => (pg_name (i := 3) nd rfl (Or.inl rfl))) (fun _ _ _ _ _ => (pts_one (pt_val (xcall c_goes hr (by decide) rfl pass0 (pa_cons (pv 3) (pa_cons (pv 2) pa_nil)))))) (fun _ _ _ _ _ => (pe_tupF (pa_cons (pe_ix (ix_U hu) (pv 0) (pv 3) (fun _ _ => rfl)) (pa_cons (pe_callB call_lenA (by rfl) T.n_len b_len (pa_cons (pv 3) pa_nil)) (pa_cons (pv 3) pa_nil)))))) pa_nil)) pe_int (fun _ _ => rfl))))
abbrev s_steps : Stmt := top 21
theorem sc_steps : FnScope ["cube", "tables", "table", "known", "some", "found", "road"] ["cube", "tables"] (defScope s_steps) := ⟨rfl, rfl, rfl, by decide +kernel, rfl, by decide +kernel, by decide +kernel⟩
theorem ok_steps {f cS : Addr} {fd : FuncData} (F : FunT K "steps" "steps" s_steps f cS fd) (TB : LamX.TabB base mg cS n.badText) (T : Txt K mg n) (TC : TxtS mg) (c_need_table : Callee P w K mg base CX0 1 "need_table" ["edges", "table"] (sp_need_table P w K n)) (c_sizes_of : Callee P w K mg base CX0 3 "sizes_of" ["cube"] (sp_sizes_of P w K n)) (c_best_road : Callee P w K mg base CX0 2 "best_road" ["known", "some", "table"] (sp_best_road P w K n)) : FnOk P w K mg base CX0 4 f fd ["cube", "tables"] (sp_steps P w K n) := by
  refine F.ok sc_steps (fun vs H Q E h => len_steps h) (fun A outer s H vs Q E hr h => ⟨t_steps P w K n E0, ?_, pure_steps T h⟩)
  have hu := hr.units
  have nd := sc_steps.nd
  exact (pss_cons (ps_for PassesOwn.never rfl (pi_any (pv 1)) (pg_name (i := 2) nd rfl (Or.inl rfl)) (pss_one (ps_expr (xcall c_need_table hr (by decide) rfl pass0 (pa_cons (pe_fld (pv 0) rfl) (pa_cons (pv 2) pa_nil))))))
    (pss_cons (ps_set (i := 3) nd rfl (Or.inl rfl) (xcall c_sizes_of hr (by decide) rfl pass0 (pa_cons (pv 0) pa_nil)))
    (pss_cons (ps_set (i := 4) nd rfl (Or.inl rfl) (pe_callTy (cr_listKD rfl) (by rfl) T.n_list b_list (pa_cons (pe_fld (pv 0) rfl) pa_nil)))
    (pss_cons (ps_set (i := 5) nd rfl (Or.inl rfl) (pe_lst pa_nil))
    (pss_cons (ps_for PassesOwn.never rfl (pi_any (pe_sortK rfl hr (by rfl) T.n_sorted T.n_len (pv 1) rfl rfl rfl rfl rfl (by decide +kernel) rfl TB rfl (stT_mem (by kernel_rfl)) (stT_uni (by kernel_rfl)))) (pg_name (i := 2) nd rfl (Or.inl rfl)) (pss_one (ps_if (pt_cmpR (op_notInD (u65 hr)) (pv 2) (pv 4) (by rfl)) (pss_cons (ps_set (i := 6) nd rfl (Or.inl rfl) (xcall c_best_road hr (by decide) rfl pass0 (pa_cons (pv 3) (pa_cons (pv 4) (pa_cons (pv 2) pa_nil)))))
    (pss_cons (ps_expr (pe_bg PySem.F.plainAttrs_list PySem.F.slot_list_append PySem.F.type_list_append mt_append (pv 5) (pa_cons (pe_tupF (pa_cons (pv 2) (pa_cons (pv 6) (pa_cons (pe_ix (ix_U hu) (pv 3) (pv 6) (fun _ _ => rfl)) pa_nil)))) pa_nil)))
    (pss_one (ps_expr (pe_bg PySem.F.plainAttrs_list PySem.F.slot_list_append PySem.F.type_list_append mt_append (pv 4) (pa_cons (pv 2) pa_nil)))))) pss_nil)))
    (pss_one (ps_ret (pv 5))))))))
abbrev s_law_due : Stmt := top 42
theorem sc_law_due : FnScope ["_law_m", "_law_tables", "_law_some", "_law_found", "_law_left", "_law_many", "_law_table_here", "_law_road", "_law_one"] ["_law_m", "_law_tables"] (defScope s_law_due) := ⟨rfl, rfl, rfl, by decide +kernel, rfl, by decide +kernel, by decide +kernel⟩
theorem ok_law_due {f : Addr} {fd : FuncData} (F : Fun K "_law_due" "_law_due" s_law_due f fd) (T : Txt K mg n) (TC : TxtS mg) (c_law_standing : Callee P w K mg base CX0 1 "_law_standing" ["_law_m"] (sp_law_standing P w K n)) (c_law_all : Callee P w K mg base CX0 1 "_law_all" ["_law_many"] (sp_law_all P w K n)) (c_law_best : Callee P w K mg base CX0 3 "_law_best" ["_law_m", "_law_some", "_law_table_here"] (sp_law_best P w K n)) (c_law_size : Callee P w K mg base CX0 1 "_law_size" ["_law_m", "_law_table_here"] (sp_law_size P w K n)) : FnOk P w K mg base CX0 4 f fd ["_law_m", "_law_tables"] (sp_law_due P w K n) := by
  refine F.ok sc_law_due (fun vs H Q E h => len_law_due h) (fun cdv A outer s H vs Q E hr h => ⟨t_law_due P w K n E0, ?_, pure_law_due T h⟩)
  have hu := hr.units
  have nd := sc_law_due.nd
  exact (pss_cons (ps_set (i := 2) nd rfl (Or.inr rfl) (xcall c_law_standing hr (by decide) rfl pass0 (pa_cons (pv 0) pa_nil)))
    (pss_cons (ps_set (i := 3) nd rfl (Or.inl rfl) (pe_lst pa_nil))
    (pss_cons (ps_setLc (i := 4) (own := [("_law_table_here", 6)]) (g := (gName 6)) (tt := (tAnd (tTest (tOp (rInD K) (tVar 6) (tVar 1))) (tTest (tOp (rNotInD K) (tVar 6) (tVar 2))))) rfl nd rfl rfl (sw_true rfl rfl rfl (by decide +kernel)) (pi_any (xcall c_law_all hr (by decide) rfl pass0 (pa_cons (pe_dget (hu_of hr) (pv 0) pe_str (fun _ _ => rfl)) pa_nil))) (blkOk_by (by kernel_rfl)) (fun _ _ _ _ _ => (pg_name (i := 6) nd rfl (Or.inl rfl))) (fun _ _ _ _ _ => (pts_one (PW.pt (pw_and (pt_cmpR (op_inD (u65 hr)) (pv 6) (pv 1) (by rfl)) (pw_and1 (pt_cmpR (op_notInD (u65 hr)) (pv 6) (pv 2) (by rfl))))))) (fun _ _ _ _ _ => (pv 6)))
    (pss_cons (ps_for PassesOwn.never rfl (pi_revR (by rfl) TC.n_reversed (prg_1 rfl T.n_range (pe_op op_plus (pe_dget (hu_of hr) (pv 0) pe_str (fun _ _ => rfl)) pe_int))) (pg_name (i := 5) nd rfl (Or.inr rfl)) (pss_one (ps_for PassesOwn.never rfl (pi_any (pe_lc (own := [("_law_one", 8)]) (g := (gName 8)) (tt := (tTest (tOp (rEqU P w K) (tCB (rLenA P w K) (tCons (tVar 8) tNil)) (tVar 5)))) rfl nd (pi_any (pv 4)) (blkOk_by (by kernel_rfl)) (fun _ _ _ _ _ => (pg_name (i := 8) nd rfl (Or.inl rfl))) (fun _ _ _ _ _ => (pts_one (pt_cmpR (op_eqU hu) (pe_callB call_lenA (by rfl) T.n_len b_len (pa_cons (pv 8) pa_nil)) (pv 5) (nomark _)))) (fun _ _ _ _ _ => (pv 8)))) (pg_name (i := 6) nd rfl (Or.inl rfl)) (pss_cons (ps_set (i := 7) nd rfl (Or.inl rfl) (xcall c_law_best hr (by decide) rfl pass0 (pa_cons (pv 0) (pa_cons (pv 2) (pa_cons (pv 6) pa_nil)))))
    (pss_cons (ps_expr (pe_bg PySem.F.plainAttrs_list PySem.F.slot_list_append PySem.F.type_list_append mt_append (pv 3) (pa_cons (pe_tupF (pa_cons (pv 6) (pa_cons (pv 7) (pa_cons (xcall c_law_size hr (by decide) rfl pass0 (pa_cons (pv 0) (pa_cons (pv 7) pa_nil))) pa_nil)))) pa_nil)))
    (pss_one (ps_expr (pe_bg PySem.F.plainAttrs_list PySem.F.slot_list_append PySem.F.type_list_append mt_append (pv 2) (pa_cons (pv 6) pa_nil)))))))))
    (pss_one (ps_ret (pv 3)))))))
abbrev s_law_is_least : Stmt := top 43
theorem sc_law_is_least : FnScope ["_law_m", "_law_found", "_law_some", "_law_table_here", "_law_road", "_law_rows", "_law_one"] ["_law_m", "_law_found"] (defScope s_law_is_least) := ⟨rfl, rfl, rfl, by decide +kernel, rfl, by decide +kernel, by decide +kernel⟩
theorem ok_law_is_least {f : Addr} {fd : FuncData} (F : Fun K "_law_is_least" "_law_is_least" s_law_is_least f fd) (T : Txt K mg n) (TC : TxtS mg) (c_law_standing : Callee P w K mg base CX0 1 "_law_standing" ["_law_m"] (sp_law_standing P w K n)) (c_law_size : Callee P w K mg base CX0 1 "_law_size" ["_law_m", "_law_table_here"] (sp_law_size P w K n)) : FnOk P w K mg base CX0 2 f fd ["_law_m", "_law_found"] (sp_law_is_least P w K n) := by
  refine F.ok sc_law_is_least (fun vs H Q E h => len_law_is_least h) (fun cdv A outer s H vs Q E hr h => ⟨t_law_is_least P w K n E0, ?_, pure_law_is_least T h⟩)
  have hu := hr.units
  have nd := sc_law_is_least.nd
  exact (pss_cons (ps_set (i := 2) nd rfl (Or.inl rfl) (pe_op op_plus (xcall c_law_standing hr (by decide) rfl pass0 (pa_cons (pv 0) pa_nil)) (pe_lc (own := [("_law_one", 6)]) (g := (gName 6)) (tt := tYes) rfl nd (pi_any (pv 1)) (blkOk_by (by kernel_rfl)) (fun _ _ _ _ _ => (pg_name (i := 6) nd rfl (Or.inl rfl))) (fun _ _ _ _ _ => pts_nil) (fun _ _ _ _ _ => (pe_ix (ix_U hu) (pv 6) pe_int (fun _ _ => rfl))))))
    (pss_cons (ps_for PassesOwn.never rfl (pi_any (pv 1)) (pg_tup rfl (pgs_cons (pg_name (i := 3) nd rfl (Or.inr rfl)) (pgs_cons (pg_name (i := 4) nd rfl (Or.inl rfl)) (pgs_cons (pg_name (i := 5) nd rfl (Or.inl rfl)) pgs_nil)))) (pss_one (ps_if (pt_cmpR (op_neD hu) (pv 5) (pe_callB (cr_minU rfl hu) (by rfl) TC.n_min b_min (pa_cons (pe_lc (own := [("_law_one", 6)]) (g := (gName 6)) (tt := (tAnd (tTest (tOp (rNeD K) (tVar 6) (tVar 3))) (tTest (tOp (rEqU P w K) (tOp (rMinus P w) (tCB (rSetC P w K) (tCons (tVar 3) tNil)) (tCB (rSetC P w K) (tCons (tVar 6) tNil))) (tCB (rSetC P w K) (tCons (tLst tNil) tNil)))))) rfl nd (pi_any (pv 2)) (blkOk_by (by kernel_rfl)) (fun _ _ _ _ _ => (pg_name (i := 6) nd rfl (Or.inl rfl))) (fun _ _ _ _ _ => (pts_one (PW.pt (pw_and (pt_cmpR (op_neD hu) (pv 6) (pv 3) (nomark _)) (pw_and1 (pt_cmpR (op_eqU hu) (pe_op op_minus (pe_callTy (cr_setC rfl hu) (by rfl) T.n_set b_set (pa_cons (pv 3) pa_nil)) (pe_callTy (cr_setC rfl hu) (by rfl) T.n_set b_set (pa_cons (pv 6) pa_nil))) (pe_callTy (cr_setC rfl hu) (by rfl) T.n_set b_set (pa_cons (pe_lst pa_nil) pa_nil)) (nomark _))))))) (fun _ _ _ _ _ => (xcall c_law_size hr (by decide) rfl pass0 (pa_cons (pv 0) (pa_cons (pv 6) pa_nil))))) pa_nil)) (nomark _)) (pss_one (ps_ret pe_bl)) pss_nil)))
    (pss_one (ps_ret pe_bl))))
abbrev s_sizes : Stmt := top 19
theorem sc_sizes : FnScope ["cube", "known", "table"] ["cube"] (defScope s_sizes) := ⟨rfl, rfl, rfl, by decide +kernel, rfl, by decide +kernel, by decide +kernel⟩
theorem ok_sizes {f : Addr} {fd : FuncData} (F : Fun K "sizes" "sizes" s_sizes f fd) (T : Txt K mg n) (TC : TxtS mg) (c_sizes_of : Callee P w K mg base CX0 3 "sizes_of" ["cube"] (sp_sizes_of P w K n)) : FnOk P w K mg base CX0 4 f fd ["cube"] (sp_sizes P w K n) := by
  refine F.ok sc_sizes (fun vs H Q E h => len_sizes h) (fun cdv A outer s H vs Q E hr h => ⟨t_sizes P w K n E0, ?_, pure_sizes T h⟩)
  have hu := hr.units
  have nd := sc_sizes.nd
  exact (pss_cons (ps_set (i := 1) nd rfl (Or.inr rfl) (xcall c_sizes_of hr (by decide) rfl pass0 (pa_cons (pv 0) pa_nil)))
    (pss_one (ps_ret (pe_lc (own := [("table", 2)]) (g := (gName 2)) (tt := tYes) rfl nd (pi_any (pe_callB (cr_sortKD rfl hu) (by rfl) T.n_sorted b_sorted (pa_cons (pv 1) pa_nil))) (blkOk_by (by kernel_rfl)) (fun _ _ _ _ _ => (pg_name (i := 2) nd rfl (Or.inl rfl))) (fun _ _ _ _ _ => pts_nil) (fun _ _ _ _ _ => (pe_tupF (pa_cons (pv 2) (pa_cons (pe_ix (ix_U hu) (pv 1) (pv 2) (fun _ _ => rfl)) pa_nil))))))))
abbrev s_c_kept : Stmt := inClass (top 26) 13
theorem sc_c_kept : FnScope ["self", "found", "table"] ["self"] (defScope s_c_kept) := ⟨rfl, rfl, rfl, by decide +kernel, rfl, by decide +kernel, by decide +kernel⟩
theorem ok_c_kept {f : Addr} {fd : FuncData} (F : Fun K "kept" "Cube.kept" s_c_kept f fd) (T : Txt K mg n) (TC : TxtS mg)  : FnOk P w K mg base CX0 1 f fd ["self"] (sp_c_kept P w K n) := by
  refine F.ok sc_c_kept (fun vs H Q E h => len_c_kept h) (fun cdv A outer s H vs Q E hr h => ⟨t_c_kept P w K n E0, ?_, pure_c_kept T h⟩)
  have hu := hr.units
  have nd := sc_c_kept.nd
  exact (pss_cons (ps_lock (ps_setLc (i := 1) (own := [("table", 2)]) (g := (gName 2)) (tt := tYes) rfl nd rfl rfl (sw_true rfl rfl rfl (by decide +kernel)) (pi_any (pe_fld (pv 0) rfl)) (blkOk_by (by kernel_rfl)) (fun _ _ _ _ _ => (pg_name (i := 2) nd rfl (Or.inl rfl))) (fun _ _ _ _ _ => pts_nil) (fun _ _ _ _ _ => (pe_tupF (pa_cons (pv 2) (pa_cons (pe_callB call_lenA (by rfl) T.n_len b_len (pa_cons (pe_ix (ix_U hu) (pe_fld (pv 0) rfl) (pv 2) (fun _ _ => rfl)) pa_nil)) pa_nil))))))
    (pss_one (ps_ret (pe_callB (cr_sortU rfl hu) (by rfl) T.n_sorted b_sorted (pa_cons (pe_op op_plus (pv 1) (pe_lock (pe_lc (own := [("table", 2)]) (g := (gName 2)) (tt := tYes) rfl nd (pi_any (pe_fld (pv 0) rfl)) (blkOk_by (by kernel_rfl)) (fun _ _ _ _ _ => (pg_name (i := 2) nd rfl (Or.inl rfl))) (fun _ _ _ _ _ => pts_nil) (fun _ _ _ _ _ => (pe_tupF (pa_cons (pv 2) (pa_cons pe_non pa_nil))))))) pa_nil)))))
abbrev s_c_room : Stmt := inClass (top 26) 14
theorem sc_c_room : FnScope ["self", "table"] ["self"] (defScope s_c_room) := ⟨rfl, rfl, rfl, by decide +kernel, rfl, by decide +kernel, by decide +kernel⟩
theorem ok_c_room {f : Addr} {fd : FuncData} (F : Fun K "room" "Cube.room" s_c_room f fd) (T : Txt K mg n) (TC : TxtS mg)  : FnOk P w K mg base CX0 1 f fd ["self"] (sp_c_room P w K n) := by
  refine F.ok sc_c_room (fun vs H Q E h => len_c_room h) (fun cdv A outer s H vs Q E hr h => ⟨t_c_room P w K n E0, ?_, pure_c_room T h⟩)
  have hu := hr.units
  have nd := sc_c_room.nd
  exact (pss_one (ps_ret (pe_callB (cr_sum rfl) (by rfl) T.n_sum b_sum (pa_cons (pe_lock (pe_lc (own := [("table", 1)]) (g := (gName 1)) (tt := tYes) rfl nd (pi_any (pe_fld (pv 0) rfl)) (blkOk_by (by kernel_rfl)) (fun _ _ _ _ _ => (pg_name (i := 1) nd rfl (Or.inl rfl))) (fun _ _ _ _ _ => pts_nil) (fun _ _ _ _ _ => (pe_callB call_lenA (by rfl) T.n_len b_len (pa_cons (pe_ix (ix_U hu) (pe_fld (pv 0) rfl) (pv 1) (fun _ _ => rfl)) pa_nil))))) pa_nil))))
abbrev s_law_right : Stmt := top 41
theorem sc_law_right : FnScope ["_law_cube", "_law_m", "_law_due_here", "_law_table_here"] ["_law_cube", "_law_m"] (defScope s_law_right) := ⟨rfl, rfl, rfl, by decide +kernel, rfl, by decide +kernel, by decide +kernel⟩
theorem ok_law_right {f : Addr} {fd : FuncData} (F : Fun K "_law_right" "_law_right" s_law_right f fd) (T : Txt K mg n) (TC : TxtS mg) (c_law_size : Callee P w K mg base CX0 1 "_law_size" ["_law_m", "_law_table_here"] (sp_law_size P w K n)) (c_c_kept : CalleeM P w K mg base CX0 n.cube 1 "kept" ["self"] (sp_c_kept P w K n)) (c_law_alike : Callee P w K mg base CX0 6 "_law_alike" ["_law_found", "_law_due_here"] (sp_law_alike P w K n)) (c_law_standing : Callee P w K mg base CX0 1 "_law_standing" ["_law_m"] (sp_law_standing P w K n)) (c_c_room : CalleeM P w K mg base CX0 n.cube 1 "room" ["self"] (sp_c_room P w K n)) : FnOk P w K mg base CX0 7 f fd ["_law_cube", "_law_m"] (sp_law_right P w K n) := by
  refine F.ok sc_law_right (fun vs H Q E h => len_law_right h) (fun cdv A outer s H vs Q E hr h => ⟨t_law_right P w K n E0, ?_, pure_law_right T h⟩)
  have hu := hr.units
  have nd := sc_law_right.nd
  exact (pss_cons (ps_lock (ps_setLc (i := 2) (own := [("_law_table_here", 3)]) (g := (gName 3)) (tt := tYes) rfl nd rfl rfl (sw_true rfl rfl rfl (by decide +kernel)) (pi_any (pe_dget (hu_of hr) (pv 1) pe_str (fun _ _ => rfl))) (blkOk_by (by kernel_rfl)) (fun _ _ _ _ _ => (pg_name (i := 3) nd rfl (Or.inl rfl))) (fun _ _ _ _ _ => pts_nil) (fun _ _ _ _ _ => (pe_tupF (pa_cons (pv 3) (pa_cons (pe_ifExp (pt_val (pe_ix (ix_U hu) (pe_dget (hu_of hr) (pv 1) pe_str (fun _ _ => rfl)) (pv 3) (fun _ _ => rfl))) (xcall c_law_size hr (by decide) rfl pass0 (pa_cons (pv 1) (pa_cons (pv 3) pa_nil))) pe_non) pa_nil))))))
    (pss_cons (ps_set (i := 2) nd rfl (Or.inl rfl) (pe_callB (cr_sortU rfl hu) (by rfl) T.n_sorted b_sorted (pa_cons (pe_op op_plus (pv 2) (pe_lst (pa_cons (pe_tupF (pa_cons (pe_tupRgF rfl rfl T.n_tuple (prg_1 rfl T.n_range (pe_dget (hu_of hr) (pv 1) pe_str (fun _ _ => rfl)))) (pa_cons (xcall c_law_size hr (by decide) rfl pass0 (pa_cons (pv 1) (pa_cons (pe_tupRgF rfl rfl T.n_tuple (prg_1 rfl T.n_range (pe_dget (hu_of hr) (pv 1) pe_str (fun _ _ => rfl)))) pa_nil))) pa_nil))) pa_nil))) pa_nil)))
    (pss_cons (ps_if (pt_not (pt_val (xcall c_law_alike hr (by decide) rfl pass0 (pa_cons (xmeth0 c_c_kept T.cl hr (by decide) pass0 (pv 0)) (pa_cons (pv 2) pa_nil))))) (pss_one (ps_ret pe_bl)) pss_nil)
    (pss_one (ps_ret (xcall c_law_alike hr (by decide) rfl pass0 (pa_cons (xmeth0 c_c_room T.cl hr (by decide) pass0 (pv 0)) (pa_cons (pe_callB (cr_sum rfl) (by rfl) T.n_sum b_sum (pa_cons (pe_lc (own := [("_law_table_here", 3)]) (g := (gName 3)) (tt := tYes) rfl nd (pi_any (xcall c_law_standing hr (by decide) rfl pass0 (pa_cons (pv 1) pa_nil))) (blkOk_by (by kernel_rfl)) (fun _ _ _ _ _ => (pg_name (i := 3) nd rfl (Or.inl rfl))) (fun _ _ _ _ _ => pts_nil) (fun _ _ _ _ _ => (xcall c_law_size hr (by decide) rfl pass0 (pa_cons (pv 1) (pa_cons (pv 3) pa_nil))))) pa_nil)) pa_nil))))))))
abbrev s_law : Stmt := top 44
theorem sc_law : FnScope ["_law_script", "_law_row", "_law_grown_here", "_law_cube", "_law_m", "_law_due_here", "_law_turn", "_law_tables", "_law_handed", "_law_found", "_law_told", "_law_table_here", "_law_k"] ["_law_script"] (defScope s_law) := ⟨rfl, rfl, rfl, by decide +kernel, rfl, by decide +kernel, by decide +kernel⟩
theorem ok_law {f : Addr} {fd : FuncData} (F : Fun K "law" "law" s_law f fd) (T : Txt K mg n) (TC : TxtS mg) (c_law_grown : Callee P w K mg base CX0 9 "_law_grown" ["_law_row", "_law_most", "_law_many"] (sp_law_grown P w K n)) (c_law_all : Callee P w K mg base CX0 1 "_law_all" ["_law_many"] (sp_law_all P w K n)) (c_law_size : Callee P w K mg base CX0 1 "_law_size" ["_law_m", "_law_table_here"] (sp_law_size P w K n)) (c_law_taken : Callee P w K mg base CX0 1 "_law_taken" ["_law_row", "_law_many"] (sp_law_taken P w K n)) (c_law_table : Callee P w K mg base CX0 2 "_law_table" ["_law_row", "_law_m"] (sp_law_table P w K n)) (c_steps : Callee P w K mg base CX0 4 "steps" ["cube", "tables"] (sp_steps P w K n)) (c_law_due : Callee P w K mg base CX0 4 "_law_due" ["_law_m", "_law_tables"] (sp_law_due P w K n)) (c_law_alike : Callee P w K mg base CX0 6 "_law_alike" ["_law_found", "_law_due_here"] (sp_law_alike P w K n)) (c_law_is_least : Callee P w K mg base CX0 2 "_law_is_least" ["_law_m", "_law_found"] (sp_law_is_least P w K n)) (c_sizes : Callee P w K mg base CX0 4 "sizes" ["cube"] (sp_sizes P w K n)) (c_law_right : Callee P w K mg base CX0 7 "_law_right" ["_law_cube", "_law_m"] (sp_law_right P w K n)) : FnOk P w K mg base CX0 10 f fd ["_law_script"] (sp_law04 P w K n) := by
  refine F.ok sc_law (fun vs H Q E h => len_law04 h) (fun cdv A outer s H vs Q E hr h => ⟨t_law_k04 P w K n E0, ?_, pure_law_k04 T h⟩)
  have hu := hr.units
  have nd := sc_law.nd
  exact (pss_cons (ps_set (i := 1) nd rfl (Or.inr rfl) (pe_lst (pa_cons (pv 0) (pa_cons pe_int (pa_cons pe_int pa_nil)))))
    (pss_cons (ps_set (i := 2) nd rfl (Or.inl rfl) (xcall c_law_grown hr (by decide) rfl pass0 (pa_cons (pv 1) (pa_cons pe_int (pa_cons pe_int pa_nil)))))
    (pss_cons (ps_if (pt_cmpR op_isN (pv 2) pe_non (nomark _)) (pss_one (ps_ret pe_bl)) pss_nil)
    (pss_cons (ps_asg (pv 2) (pg_tup rfl (pgs_cons (pg_name (i := 3) nd rfl (Or.inl rfl)) (pgs_cons (pg_name (i := 4) nd rfl (Or.inr rfl)) pgs_nil))))
    (pss_cons (ps_setLc (i := 5) (own := [("_law_table_here", 11)]) (g := (gName 11)) (tt := tYes) rfl nd rfl rfl (sw_true rfl rfl rfl (by decide +kernel)) (pi_any (xcall c_law_all hr (by decide) rfl pass0 (pa_cons (pe_dget (hu_of hr) (pv 4) pe_str (fun _ _ => rfl)) pa_nil))) (blkOk_by (by kernel_rfl)) (fun _ _ _ _ _ => (pg_name (i := 11) nd rfl (Or.inl rfl))) (fun _ _ _ _ _ => pts_nil) (fun _ _ _ _ _ => (pe_tupF (pa_cons (pv 11) (pa_cons (xcall c_law_size hr (by decide) rfl pass0 (pa_cons (pv 4) (pa_cons (pv 11) pa_nil))) pa_nil)))))
    (pss_cons (ps_for PassesOwn.never rfl (pi_range1 rfl T.n_range (pa_cons pe_int pa_nil)) (pg_name (i := 6) nd rfl (Or.inl rfl)) (pss_cons (ps_setLc (i := 7) (own := [("_law_k", 12)]) (g := (gName 12)) (tt := tYes) rfl nd rfl rfl (sw_true rfl rfl rfl (by decide +kernel)) (pi_range1 rfl T.n_range (pa_cons (xcall c_law_taken hr (by decide) rfl pass0 (pa_cons (pv 1) (pa_cons pe_int pa_nil))) pa_nil)) (blkOk_by (by kernel_rfl)) (fun _ _ _ _ _ => (pg_name (i := 12) nd rfl (Or.inl rfl))) (fun _ _ _ _ _ => pts_nil) (fun _ _ _ _ _ => (xcall c_law_table hr (by decide) rfl pass0 (pa_cons (pv 1) (pa_cons (pv 4) pa_nil)))))
    (pss_cons (ps_set (i := 8) nd rfl (Or.inl rfl) (pe_callTy call_list_of (by rfl) T.n_list b_list (pa_cons (pv 7) pa_nil)))
    (pss_cons (ps_set (i := 9) nd rfl (Or.inl rfl) (xcall c_steps hr (by decide) rfl pass0 (pa_cons (pv 3) (pa_cons (pv 8) pa_nil))))
    (pss_cons (ps_if (PW.pt (pw_or (pt_not (pt_val (xcall c_law_alike hr (by decide) rfl pass0 (pa_cons (pv 9) (pa_cons (xcall c_law_due hr (by decide) rfl pass0 (pa_cons (pv 4) (pa_cons (pv 7) pa_nil))) pa_nil))))) (pw_or (pt_cmpR (op_neD hu) (pv 8) (pv 7) (nomark _)) (pw_or1 (pt_not (pt_val (xcall c_law_is_least hr (by decide) rfl pass0 (pa_cons (pv 4) (pa_cons (pv 9) pa_nil))))))))) (pss_one (ps_ret pe_bl)) pss_nil)
    (pss_cons (ps_set (i := 10) nd rfl (Or.inl rfl) (xcall c_sizes hr (by decide) rfl pass0 (pa_cons (pv 3) pa_nil)))
    (pss_cons (ps_if (PW.pt (pw_or (pt_not (pt_val (xcall c_law_alike hr (by decide) rfl pass0 (pa_cons (pv 10) (pa_cons (pv 5) pa_nil))))) (pw_or1 (pt_not (pt_val (xcall c_law_right hr (by decide) rfl pass0 (pa_cons (pv 3) (pa_cons (pv 4) pa_nil)))))))) (pss_one (ps_ret pe_bl)) pss_nil)
    (pss_cons (ps_expr (pe_bg PySem.F.plainAttrs_list PySem.F.slot_list_append PySem.F.type_list_append mt_append (pv 9) (pa_cons pe_int pa_nil)))
    (pss_one (ps_expr (pe_bm0 PySem.F.plainAttrs_list PySem.F.slot_list_reverse PySem.F.type_list_reverse mt_reverse (pv 10))))))))))))
    (pss_one (ps_ret pe_bl))))))))
end
theorem all_mk {l : PySem.W.OpenLaw} {w : World} {K : PySem.W.Frag} {h : Heap} {mg : Str → Option Value} {fa C f1 f2 f3 f4 f5 f6 f7 f8 f9 f10 f11 f12 f13 f14 f15 f16 f17 f18 f19 f20 f21 f22 f23 f24 f25 f26 f27 f28 f29 f30 f31 f32 f33 f34 f35 f36 f37 f38 f39 f40 f41 : Addr} (X : K.In h) (G : h.Ns mainGlobals mg) (hfa : mg "law" = some (.ref fa))
    {od1 an1 od2 an2 od3 an3 od4 an4 od5 an5 od6 an6 od7 an7 od8 an8 od9 an9 od10 an10 od11 an11 od12 an12 od13 an13 od14 an14 od15 an15 od16 an16 od17 an17 od18 an18 od19 an19 od20 an20 od21 an21 od22 an22 od23 an23 od24 an24 od25 an25 od26 an26 od27 an27 od28 an28 od29 an29 od30 an30 od31 an31 od32 an32 od33 an33 od34 an34 od35 an35 od36 an36 od37 an37 od38 an38 od39 an39 od40 an40 od41 an41 : Option Addr} {sl1 sl2 sl3 sl4 sl5 sl6 sl7 sl8 sl9 sl10 sl11 sl12 sl13 sl14 sl15 sl16 sl17 sl18 sl19 sl20 sl21 sl22 sl23 sl24 sl25 sl26 sl27 sl28 sl29 sl30 sl31 sl32 sl33 sl34 sl35 sl36 sl37 sl38 sl39 sl40 sl41 : Array (Option Value)} {oc1 kV1 dc1 pm1 cd1 ct1 oc2 kV2 dc2 pm2 cd2 ct2 oc3 kV3 dc3 pm3 cd3 ct3 oc4 kV4 dc4 pm4 cd4 ct4 oc5 kV5 dc5 pm5 cd5 ct5 oc6 kV6 dc6 pm6 cd6 ct6 oc7 kV7 dc7 pm7 cd7 ct7 oc8 kV8 dc8 pm8 cd8 ct8 oc9 kV9 dc9 pm9 cd9 ct9 oc10 kV10 dc10 pm10 cd10 ct10 oc11 kV11 dc11 pm11 cd11 ct11 oc12 kV12 dc12 pm12 cd12 ct12 oc13 kV13 dc13 pm13 cd13 ct13 oc14 kV14 dc14 pm14 cd14 ct14 oc15 kV15 dc15 pm15 cd15 ct15 oc16 kV16 dc16 pm16 cd16 ct16 oc17 kV17 dc17 pm17 cd17 ct17 oc18 kV18 dc18 pm18 cd18 ct18 oc19 kV19 dc19 pm19 cd19 ct19 oc20 kV20 dc20 pm20 cd20 ct20 oc21 kV21 dc21 pm21 cd21 ct21 oc22 kV22 dc22 pm22 cd22 ct22 oc23 kV23 dc23 pm23 cd23 ct23 oc24 kV24 dc24 pm24 cd24 ct24 oc25 kV25 dc25 pm25 cd25 ct25 oc26 kV26 dc26 pm26 cd26 ct26 oc27 kV27 dc27 pm27 cd27 ct27 oc28 kV28 dc28 pm28 cd28 ct28 oc29 kV29 dc29 pm29 cd29 ct29 oc30 kV30 dc30 pm30 cd30 ct30 oc31 kV31 dc31 pm31 cd31 ct31 oc32 kV32 dc32 pm32 cd32 ct32 oc33 kV33 dc33 pm33 cd33 ct33 oc34 kV34 dc34 pm34 ct34 oc35 kV35 dc35 pm35 cd35 ct35 oc36 kV36 dc36 pm36 cd36 ct36 oc37 kV37 dc37 pm37 cd37 ct37 oc38 kV38 dc38 pm38 cd38 ct38 oc39 kV39 dc39 pm39 cd39 ct39 oc40 kV40 dc40 pm40 cd40 ct40 oc41 kV41 dc41 pm41 cd41 ct41 : Value} {te tv : Tok}
    {cS PS : Addr} {eS : Value} {ddS : Option Addr} {vsS : Array Value} {slS : Array (Option Value)}
    (aC : PySem.W.nsIn K mainGlobals "Cube" = some (some (.ref C)))
    (a1 : PySem.W.nsIn K mainGlobals "_law_taken" = some (some (.ref f1)))
    (l1 : K.lookup f1 = some ⟨oc1, od1, .func (PySem.W.fnOf "_law_taken" "_law_taken" (defArgs s_law_taken) (defBody s_law_taken) (defScope s_law_taken) .none kV1 dc1 pm1 an1 cd1 ct1), sl1⟩)
    (c1 : PySem.W.codeIn K cd1 "_law_taken" = true)
    (k1 : PySem.W.keepIn K (.ref f1) = true)
    (a2 : PySem.W.nsIn K mainGlobals "_law_fresh" = some (some (.ref f2)))
    (l2 : K.lookup f2 = some ⟨oc2, od2, .func (PySem.W.fnOf "_law_fresh" "_law_fresh" (defArgs s_law_fresh) (defBody s_law_fresh) (defScope s_law_fresh) .none kV2 dc2 pm2 an2 cd2 ct2), sl2⟩)
    (c2 : PySem.W.codeIn K cd2 "_law_fresh" = true)
    (k2 : PySem.W.keepIn K (.ref f2) = true)
    (a3 : PySem.W.findIn K (.ref C) "__init__" = some (some (.ref f3)))
    (i3 : PySem.W.isFn K (.ref f3) = true)
    (l3 : K.lookup f3 = some ⟨oc3, od3, .func (PySem.W.fnOf "__init__" "Cube.__init__" (defArgs s_c_init) (defBody s_c_init) (defScope s_c_init) .none kV3 dc3 pm3 an3 cd3 ct3), sl3⟩)
    (c3 : PySem.W.codeIn K cd3 "Cube.__init__" = true)
    (k3 : PySem.W.keepIn K (.ref f3) = true)
    (a4 : PySem.W.nsIn K mainGlobals "_law_table" = some (some (.ref f4)))
    (l4 : K.lookup f4 = some ⟨oc4, od4, .func (PySem.W.fnOf "_law_table" "_law_table" (defArgs s_law_table) (defBody s_law_table) (defScope s_law_table) .none kV4 dc4 pm4 an4 cd4 ct4), sl4⟩)
    (c4 : PySem.W.codeIn K cd4 "_law_table" = true)
    (k4 : PySem.W.keepIn K (.ref f4) = true)
    (a5 : PySem.W.nsIn K mainGlobals "_law_standing" = some (some (.ref f5)))
    (l5 : K.lookup f5 = some ⟨oc5, od5, .func (PySem.W.fnOf "_law_standing" "_law_standing" (defArgs s_law_standing) (defBody s_law_standing) (defScope s_law_standing) .none kV5 dc5 pm5 an5 cd5 ct5), sl5⟩)
    (c5 : PySem.W.codeIn K cd5 "_law_standing" = true)
    (k5 : PySem.W.keepIn K (.ref f5) = true)
    (a6 : PySem.W.nsIn K mainGlobals "_law_size" = some (some (.ref f6)))
    (l6 : K.lookup f6 = some ⟨oc6, od6, .func (PySem.W.fnOf "_law_size" "_law_size" (defArgs s_law_size) (defBody s_law_size) (defScope s_law_size) .none kV6 dc6 pm6 an6 cd6 ct6), sl6⟩)
    (c6 : PySem.W.codeIn K cd6 "_law_size" = true)
    (k6 : PySem.W.keepIn K (.ref f6) = true)
    (a7 : PySem.W.nsIn K mainGlobals "_law_ranked" = some (some (.ref f7)))
    (l7 : K.lookup f7 = some ⟨oc7, od7, .func (PySem.W.fnOf "_law_ranked" "_law_ranked" (defArgs s_law_ranked) (defBody s_law_ranked) (defScope s_law_ranked) .none kV7 dc7 pm7 an7 cd7 ct7), sl7⟩)
    (c7 : PySem.W.codeIn K cd7 "_law_ranked" = true)
    (k7 : PySem.W.keepIn K (.ref f7) = true)
    (a8 : PySem.W.nsIn K mainGlobals "_law_best" = some (some (.ref f8)))
    (l8 : K.lookup f8 = some ⟨oc8, od8, .func (PySem.W.fnOf "_law_best" "_law_best" (defArgs s_law_best) (defBody s_law_best) (defScope s_law_best) .none kV8 dc8 pm8 an8 cd8 ct8), sl8⟩)
    (c8 : PySem.W.codeIn K cd8 "_law_best" = true)
    (k8 : PySem.W.keepIn K (.ref f8) = true)
    (a9 : PySem.W.nsIn K mainGlobals "need_table" = some (some (.ref f9)))
    (l9 : K.lookup f9 = some ⟨oc9, od9, .func (PySem.W.fnOf "need_table" "need_table" (defArgs s_need_table) (defBody s_need_table) (defScope s_need_table) .none kV9 dc9 pm9 an9 cd9 ct9), sl9⟩)
    (c9 : PySem.W.codeIn K cd9 "need_table" = true)
    (k9 : PySem.W.keepIn K (.ref f9) = true)
    (a10 : PySem.W.findIn K (.ref C) "roads" = some (some (.ref f10)))
    (i10 : PySem.W.isFn K (.ref f10) = true)
    (l10 : K.lookup f10 = some ⟨oc10, od10, .func (PySem.W.fnOf "roads" "Cube.roads" (defArgs s_c_roads) (defBody s_c_roads) (defScope s_c_roads) .none kV10 dc10 pm10 an10 cd10 ct10), sl10⟩)
    (c10 : PySem.W.codeIn K cd10 "Cube.roads" = true)
    (k10 : PySem.W.keepIn K (.ref f10) = true)
    (a11 : PySem.W.nsIn K mainGlobals "places_of" = some (some (.ref f11)))
    (l11 : K.lookup f11 = some ⟨oc11, od11, .func (PySem.W.fnOf "places_of" "places_of" (defArgs s_places_of) (defBody s_places_of) (defScope s_places_of) .none kV11 dc11 pm11 an11 cd11 ct11), sl11⟩)
    (c11 : PySem.W.codeIn K cd11 "places_of" = true)
    (k11 : PySem.W.keepIn K (.ref f11) = true)
    (a12 : PySem.W.nsIn K mainGlobals "added" = some (some (.ref f12)))
    (l12 : K.lookup f12 = some ⟨oc12, od12, .func (PySem.W.fnOf "added" "added" (defArgs s_added) (defBody s_added) (defScope s_added) .none kV12 dc12 pm12 an12 cd12 ct12), sl12⟩)
    (c12 : PySem.W.codeIn K cd12 "added" = true)
    (k12 : PySem.W.keepIn K (.ref f12) = true)
    (a13 : PySem.W.nsIn K mainGlobals "reckoned" = some (some (.ref f13)))
    (l13 : K.lookup f13 = some ⟨oc13, od13, .func (PySem.W.fnOf "reckoned" "reckoned" (defArgs s_reckoned) (defBody s_reckoned) (defScope s_reckoned) .none kV13 dc13 pm13 an13 cd13 ct13), sl13⟩)
    (c13 : PySem.W.codeIn K cd13 "reckoned" = true)
    (k13 : PySem.W.keepIn K (.ref f13) = true)
    (a14 : PySem.W.findIn K (.ref C) "make" = some (some (.ref f14)))
    (i14 : PySem.W.isFn K (.ref f14) = true)
    (l14 : K.lookup f14 = some ⟨oc14, od14, .func (PySem.W.fnOf "make" "Cube.make" (defArgs s_c_make) (defBody s_c_make) (defScope s_c_make) .none kV14 dc14 pm14 an14 cd14 ct14), sl14⟩)
    (c14 : PySem.W.codeIn K cd14 "Cube.make" = true)
    (k14 : PySem.W.keepIn K (.ref f14) = true)
    (a15 : PySem.W.findIn K (.ref C) "keep" = some (some (.ref f15)))
    (i15 : PySem.W.isFn K (.ref f15) = true)
    (l15 : K.lookup f15 = some ⟨oc15, od15, .func (PySem.W.fnOf "keep" "Cube.keep" (defArgs s_c_keep) (defBody s_c_keep) (defScope s_c_keep) .none kV15 dc15 pm15 an15 cd15 ct15), sl15⟩)
    (c15 : PySem.W.codeIn K cd15 "Cube.keep" = true)
    (k15 : PySem.W.keepIn K (.ref f15) = true)
    (a16 : PySem.W.nsIn K mainGlobals "_law_alike" = some (some (.ref f16)))
    (l16 : K.lookup f16 = some ⟨oc16, od16, .func (PySem.W.fnOf "_law_alike" "_law_alike" (defArgs s_law_alike) (defBody s_law_alike) (defScope s_law_alike) .none kV16 dc16 pm16 an16 cd16 ct16), sl16⟩)
    (c16 : PySem.W.codeIn K cd16 "_law_alike" = true)
    (k16 : PySem.W.keepIn K (.ref f16) = true)
    (a17 : PySem.W.findIn K (.ref C) "rebuild" = some (some (.ref f17)))
    (i17 : PySem.W.isFn K (.ref f17) = true)
    (l17 : K.lookup f17 = some ⟨oc17, od17, .func (PySem.W.fnOf "rebuild" "Cube.rebuild" (defArgs s_c_rebuild) (defBody s_c_rebuild) (defScope s_c_rebuild) .none kV17 dc17 pm17 an17 cd17 ct17), sl17⟩)
    (c17 : PySem.W.codeIn K cd17 "Cube.rebuild" = true)
    (k17 : PySem.W.keepIn K (.ref f17) = true)
    (a18 : PySem.W.findIn K (.ref C) "need_kept" = some (some (.ref f18)))
    (i18 : PySem.W.isFn K (.ref f18) = true)
    (l18 : K.lookup f18 = some ⟨oc18, od18, .func (PySem.W.fnOf "need_kept" "Cube.need_kept" (defArgs s_c_need_kept) (defBody s_c_need_kept) (defScope s_c_need_kept) .none kV18 dc18 pm18 an18 cd18 ct18), sl18⟩)
    (c18 : PySem.W.codeIn K cd18 "Cube.need_kept" = true)
    (k18 : PySem.W.keepIn K (.ref f18) = true)
    (a19 : PySem.W.findIn K (.ref C) "lose" = some (some (.ref f19)))
    (i19 : PySem.W.isFn K (.ref f19) = true)
    (l19 : K.lookup f19 = some ⟨oc19, od19, .func (PySem.W.fnOf "lose" "Cube.lose" (defArgs s_c_lose) (defBody s_c_lose) (defScope s_c_lose) .none kV19 dc19 pm19 an19 cd19 ct19), sl19⟩)
    (c19 : PySem.W.codeIn K cd19 "Cube.lose" = true)
    (k19 : PySem.W.keepIn K (.ref f19) = true)
    (a20 : PySem.W.findIn K (.ref C) "drop" = some (some (.ref f20)))
    (i20 : PySem.W.isFn K (.ref f20) = true)
    (l20 : K.lookup f20 = some ⟨oc20, od20, .func (PySem.W.fnOf "drop" "Cube.drop" (defArgs s_c_drop) (defBody s_c_drop) (defScope s_c_drop) .none kV20 dc20 pm20 an20 cd20 ct20), sl20⟩)
    (c20 : PySem.W.codeIn K cd20 "Cube.drop" = true)
    (k20 : PySem.W.keepIn K (.ref f20) = true)
    (a21 : PySem.W.nsIn K mainGlobals "_law_deed_of_table" = some (some (.ref f21)))
    (l21 : K.lookup f21 = some ⟨oc21, od21, .func (PySem.W.fnOf "_law_deed_of_table" "_law_deed_of_table" (defArgs s_law_deed_of_table) (defBody s_law_deed_of_table) (defScope s_law_deed_of_table) .none kV21 dc21 pm21 an21 cd21 ct21), sl21⟩)
    (c21 : PySem.W.codeIn K cd21 "_law_deed_of_table" = true)
    (k21 : PySem.W.keepIn K (.ref f21) = true)
    (a22 : PySem.W.findIn K (.ref C) "need_row" = some (some (.ref f22)))
    (i22 : PySem.W.isFn K (.ref f22) = true)
    (l22 : K.lookup f22 = some ⟨oc22, od22, .func (PySem.W.fnOf "need_row" "Cube.need_row" (defArgs s_c_need_row) (defBody s_c_need_row) (defScope s_c_need_row) .none kV22 dc22 pm22 an22 cd22 ct22), sl22⟩)
    (c22 : PySem.W.codeIn K cd22 "Cube.need_row" = true)
    (k22 : PySem.W.keepIn K (.ref f22) = true)
    (a23 : PySem.W.findIn K (.ref C) "touch" = some (some (.ref f23)))
    (i23 : PySem.W.isFn K (.ref f23) = true)
    (l23 : K.lookup f23 = some ⟨oc23, od23, .func (PySem.W.fnOf "touch" "Cube.touch" (defArgs s_c_touch) (defBody s_c_touch) (defScope s_c_touch) .none kV23 dc23 pm23 an23 cd23 ct23), sl23⟩)
    (c23 : PySem.W.codeIn K cd23 "Cube.touch" = true)
    (k23 : PySem.W.keepIn K (.ref f23) = true)
    (a24 : PySem.W.findIn K (.ref C) "take" = some (some (.ref f24)))
    (i24 : PySem.W.isFn K (.ref f24) = true)
    (l24 : K.lookup f24 = some ⟨oc24, od24, .func (PySem.W.fnOf "take" "Cube.take" (defArgs s_c_take) (defBody s_c_take) (defScope s_c_take) .none kV24 dc24 pm24 an24 cd24 ct24), sl24⟩)
    (c24 : PySem.W.codeIn K cd24 "Cube.take" = true)
    (k24 : PySem.W.keepIn K (.ref f24) = true)
    (a25 : PySem.W.nsIn K mainGlobals "_law_drawn" = some (some (.ref f25)))
    (l25 : K.lookup f25 = some ⟨oc25, od25, .func (PySem.W.fnOf "_law_drawn" "_law_drawn" (defArgs s_law_drawn) (defBody s_law_drawn) (defScope s_law_drawn) .none kV25 dc25 pm25 an25 cd25 ct25), sl25⟩)
    (c25 : PySem.W.codeIn K cd25 "_law_drawn" = true)
    (k25 : PySem.W.keepIn K (.ref f25) = true)
    (a26 : PySem.W.findIn K (.ref C) "put" = some (some (.ref f26)))
    (i26 : PySem.W.isFn K (.ref f26) = true)
    (l26 : K.lookup f26 = some ⟨oc26, od26, .func (PySem.W.fnOf "put" "Cube.put" (defArgs s_c_put) (defBody s_c_put) (defScope s_c_put) .none kV26 dc26 pm26 an26 cd26 ct26), sl26⟩)
    (c26 : PySem.W.codeIn K cd26 "Cube.put" = true)
    (k26 : PySem.W.keepIn K (.ref f26) = true)
    (a27 : PySem.W.nsIn K mainGlobals "_law_deed" = some (some (.ref f27)))
    (l27 : K.lookup f27 = some ⟨oc27, od27, .func (PySem.W.fnOf "_law_deed" "_law_deed" (defArgs s_law_deed) (defBody s_law_deed) (defScope s_law_deed) .none kV27 dc27 pm27 an27 cd27 ct27), sl27⟩)
    (c27 : PySem.W.codeIn K cd27 "_law_deed" = true)
    (k27 : PySem.W.keepIn K (.ref f27) = true)
    (a28 : PySem.W.nsIn K mainGlobals "_law_grown" = some (some (.ref f28)))
    (l28 : K.lookup f28 = some ⟨oc28, od28, .func (PySem.W.fnOf "_law_grown" "_law_grown" (defArgs s_law_grown) (defBody s_law_grown) (defScope s_law_grown) .none kV28 dc28 pm28 an28 cd28 ct28), sl28⟩)
    (c28 : PySem.W.codeIn K cd28 "_law_grown" = true)
    (k28 : PySem.W.keepIn K (.ref f28) = true)
    (a29 : PySem.W.nsIn K mainGlobals "_law_all" = some (some (.ref f29)))
    (l29 : K.lookup f29 = some ⟨oc29, od29, .func (PySem.W.fnOf "_law_all" "_law_all" (defArgs s_law_all) (defBody s_law_all) (defScope s_law_all) .none kV29 dc29 pm29 an29 cd29 ct29), sl29⟩)
    (c29 : PySem.W.codeIn K cd29 "_law_all" = true)
    (k29 : PySem.W.keepIn K (.ref f29) = true)
    (a30 : PySem.W.nsIn K mainGlobals "all_tables" = some (some (.ref f30)))
    (l30 : K.lookup f30 = some ⟨oc30, od30, .func (PySem.W.fnOf "all_tables" "all_tables" (defArgs s_all_tables) (defBody s_all_tables) (defScope s_all_tables) .none kV30 dc30 pm30 an30 cd30 ct30), sl30⟩)
    (c30 : PySem.W.codeIn K cd30 "all_tables" = true)
    (k30 : PySem.W.keepIn K (.ref f30) = true)
    (a31 : PySem.W.nsIn K mainGlobals "sizes_of" = some (some (.ref f31)))
    (l31 : K.lookup f31 = some ⟨oc31, od31, .func (PySem.W.fnOf "sizes_of" "sizes_of" (defArgs s_sizes_of) (defBody s_sizes_of) (defScope s_sizes_of) .none kV31 dc31 pm31 an31 cd31 ct31), sl31⟩)
    (c31 : PySem.W.codeIn K cd31 "sizes_of" = true)
    (k31 : PySem.W.keepIn K (.ref f31) = true)
    (a32 : PySem.W.nsIn K mainGlobals "goes" = some (some (.ref f32)))
    (l32 : K.lookup f32 = some ⟨oc32, od32, .func (PySem.W.fnOf "goes" "goes" (defArgs s_goes) (defBody s_goes) (defScope s_goes) .none kV32 dc32 pm32 an32 cd32 ct32), sl32⟩)
    (c32 : PySem.W.codeIn K cd32 "goes" = true)
    (k32 : PySem.W.keepIn K (.ref f32) = true)
    (a33 : PySem.W.nsIn K mainGlobals "best_road" = some (some (.ref f33)))
    (l33 : K.lookup f33 = some ⟨oc33, od33, .func (PySem.W.fnOf "best_road" "best_road" (defArgs s_best_road) (defBody s_best_road) (defScope s_best_road) .none kV33 dc33 pm33 an33 cd33 ct33), sl33⟩)
    (c33 : PySem.W.codeIn K cd33 "best_road" = true)
    (k33 : PySem.W.keepIn K (.ref f33) = true)
    (a34 : PySem.W.nsIn K mainGlobals "steps" = some (some (.ref f34)))
    (l34 : K.lookup f34 = some ⟨oc34, od34, .func (PySem.W.fnOf "steps" "steps" (defArgs s_steps) (defBody s_steps) (defScope s_steps) .none kV34 dc34 pm34 an34 (.ref cS) ct34), sl34⟩)
    (c34 : PySem.W.codeIn K (.ref cS) "steps" = true)
    (k34 : PySem.W.keepIn K (.ref f34) = true)
    (a35 : PySem.W.nsIn K mainGlobals "_law_due" = some (some (.ref f35)))
    (l35 : K.lookup f35 = some ⟨oc35, od35, .func (PySem.W.fnOf "_law_due" "_law_due" (defArgs s_law_due) (defBody s_law_due) (defScope s_law_due) .none kV35 dc35 pm35 an35 cd35 ct35), sl35⟩)
    (c35 : PySem.W.codeIn K cd35 "_law_due" = true)
    (k35 : PySem.W.keepIn K (.ref f35) = true)
    (a36 : PySem.W.nsIn K mainGlobals "_law_is_least" = some (some (.ref f36)))
    (l36 : K.lookup f36 = some ⟨oc36, od36, .func (PySem.W.fnOf "_law_is_least" "_law_is_least" (defArgs s_law_is_least) (defBody s_law_is_least) (defScope s_law_is_least) .none kV36 dc36 pm36 an36 cd36 ct36), sl36⟩)
    (c36 : PySem.W.codeIn K cd36 "_law_is_least" = true)
    (k36 : PySem.W.keepIn K (.ref f36) = true)
    (a37 : PySem.W.nsIn K mainGlobals "sizes" = some (some (.ref f37)))
    (l37 : K.lookup f37 = some ⟨oc37, od37, .func (PySem.W.fnOf "sizes" "sizes" (defArgs s_sizes) (defBody s_sizes) (defScope s_sizes) .none kV37 dc37 pm37 an37 cd37 ct37), sl37⟩)
    (c37 : PySem.W.codeIn K cd37 "sizes" = true)
    (k37 : PySem.W.keepIn K (.ref f37) = true)
    (a38 : PySem.W.findIn K (.ref C) "kept" = some (some (.ref f38)))
    (i38 : PySem.W.isFn K (.ref f38) = true)
    (l38 : K.lookup f38 = some ⟨oc38, od38, .func (PySem.W.fnOf "kept" "Cube.kept" (defArgs s_c_kept) (defBody s_c_kept) (defScope s_c_kept) .none kV38 dc38 pm38 an38 cd38 ct38), sl38⟩)
    (c38 : PySem.W.codeIn K cd38 "Cube.kept" = true)
    (k38 : PySem.W.keepIn K (.ref f38) = true)
    (a39 : PySem.W.findIn K (.ref C) "room" = some (some (.ref f39)))
    (i39 : PySem.W.isFn K (.ref f39) = true)
    (l39 : K.lookup f39 = some ⟨oc39, od39, .func (PySem.W.fnOf "room" "Cube.room" (defArgs s_c_room) (defBody s_c_room) (defScope s_c_room) .none kV39 dc39 pm39 an39 cd39 ct39), sl39⟩)
    (c39 : PySem.W.codeIn K cd39 "Cube.room" = true)
    (k39 : PySem.W.keepIn K (.ref f39) = true)
    (a40 : PySem.W.nsIn K mainGlobals "_law_right" = some (some (.ref f40)))
    (l40 : K.lookup f40 = some ⟨oc40, od40, .func (PySem.W.fnOf "_law_right" "_law_right" (defArgs s_law_right) (defBody s_law_right) (defScope s_law_right) .none kV40 dc40 pm40 an40 cd40 ct40), sl40⟩)
    (c40 : PySem.W.codeIn K cd40 "_law_right" = true)
    (k40 : PySem.W.keepIn K (.ref f40) = true)
    (a41 : PySem.W.nsIn K mainGlobals "law" = some (some (.ref f41)))
    (l41 : K.lookup f41 = some ⟨oc41, od41, .func (PySem.W.fnOf "law" "law" (defArgs s_law) (defBody s_law) (defScope s_law) .none kV41 dc41 pm41 an41 cd41 ct41), sl41⟩)
    (c41 : PySem.W.codeIn K cd41 "law" = true)
    (k41 : PySem.W.keepIn K (.ref f41) = true)
    (pg : PySem.W.plainGet K C Str.empty = true)
    (hd : PySem.W.hasDictIn K C = true)
    (po : PySem.W.plainOver K C = true)
    (sa : PySem.W.findIn K (.ref C) "__setattr__" = some (some (.builtin "object.__setattr__")))
    (mk : PySem.W.makesIn K C = true)
    (kc : PySem.W.keepIn K (.ref C) = true)
    (n_many : PySem.W.findIn K (.ref C) "many" = some none)
    (n_whole : PySem.W.findIn K (.ref C) "whole" = some none)
    (n_inside : PySem.W.findIn K (.ref C) "inside" = some none)
    (n_known : PySem.W.findIn K (.ref C) "known" = some none)
    (n_gone : PySem.W.findIn K (.ref C) "gone" = some none)
    (z_len : PySem.W.nsIn K mainGlobals "len" = some none)
    (z_sorted : PySem.W.nsIn K mainGlobals "sorted" = some none)
    (z_sum : PySem.W.nsIn K mainGlobals "sum" = some none)
    (z_abs : PySem.W.nsIn K mainGlobals "abs" = some none)
    (z_range : PySem.W.nsIn K mainGlobals "range" = some none)
    (z_tuple : PySem.W.nsIn K mainGlobals "tuple" = some none)
    (z_list : PySem.W.nsIn K mainGlobals "list" = some none)
    (z_set : PySem.W.nsIn K mainGlobals "set" = some none)
    (z_int : PySem.W.nsIn K mainGlobals "int" = some none)
    (z_str : PySem.W.nsIn K mainGlobals "str" = some none)
    (z_bool : PySem.W.nsIn K mainGlobals "bool" = some none)
    (z_isinstance : PySem.W.nsIn K mainGlobals "isinstance" = some none)
    (qe : PySem.W.nsIn K mainGlobals "MOST_EDGES" = some (some (.int 4 te)))
    (qv : PySem.W.nsIn K mainGlobals "MOST_VALUE" = some (some (.int 99 tv)))
    (tc : K.lookup cS = some ⟨eS, ddS, .fields vsS, slS⟩)
    (tp : vsS[11]? = some (.ref PS))
    (tn : K.lookup PS = none)
    (th : PySem.W.codeHdIn K cS PS = true)
    (z_min : PySem.W.nsIn K mainGlobals "min" = some none)
    (z_reversed : PySem.W.nsIn K mainGlobals "reversed" = some none)
    (qa : ∃ u, mg "MOST_AMOUNT" = some u ∧ RelV (.int 1000000000) u)
    (OT : ∀ fs, mg "steps" = some (.ref fs) → LamX.OwnTab K fs h)
    : ∃ (fd : FuncData) (c P : Addr), h.get? P = some { cls := .none, data := .fields #[] } ∧ K.lookup P = none ∧ PySem.W.codeHdIn K c P = true ∧ (∀ (s : Shared) (v : Value), BindsTo s fd ⟨[v], []⟩ [("_law_script", v)]) ∧ ∀ base : Heap, K.In base → base.Ns mainGlobals mg → LamX.TabB base mg c P → FnOk l.prog w K mg base CX0 10 fa fd ["_law_script"] (sp_law04 l.prog w K ⟨0, 0, 0, 0, 0, 0, 0, 0, 0, P⟩) := by
  have e := hfa.symm.trans (PySem.W.mg_of X G a41)
  cases e
  have T : Txt K mg ⟨C, 0, 0, 0, 0, 0, 0, 0, 0, PS⟩ := ⟨⟨pg, hd, po, sa⟩, n_many, n_whole, n_inside, n_known, n_gone, PySem.W.mg_none_of X G z_len, PySem.W.mg_none_of X G z_sorted, PySem.W.mg_none_of X G z_sum, PySem.W.mg_none_of X G z_abs, PySem.W.mg_none_of X G z_range, PySem.W.mg_none_of X G z_tuple, PySem.W.mg_none_of X G z_list, PySem.W.mg_none_of X G z_set, PySem.W.mg_none_of X G z_int, PySem.W.mg_none_of X G z_str, PySem.W.mg_none_of X G z_bool, PySem.W.mg_none_of X G z_isinstance, ⟨_, PySem.W.mg_of X G qe, ⟨te, rfl⟩⟩, ⟨_, PySem.W.mg_of X G qv, ⟨tv, rfl⟩⟩, qa⟩
  have TC : TxtS mg := ⟨PySem.W.mg_none_of X G z_min, PySem.W.mg_none_of X G z_reversed⟩
  have F1 := fun_mk (st := s_law_taken) l1 c1 k1
  have b1 := F1.binds (ps := ["_law_row", "_law_many"]) fun _ _ _ _ _ _ us hl => match us, hl with | [_, _], _ => rfl
  have F2 := fun_mk (st := s_law_fresh) l2 c2 k2
  have b2 := F2.binds (ps := ["_law_row", "_law_most"]) fun _ _ _ _ _ _ us hl => match us, hl with | [_, _], _ => rfl
  have F3 := fun_mk (st := s_c_init) l3 c3 k3
  have b3 := F3.binds (ps := ["self", "edges"]) fun _ _ _ _ _ _ us hl => match us, hl with | [_, _], _ => rfl
  have F4 := fun_mk (st := s_law_table) l4 c4 k4
  have b4 := F4.binds (ps := ["_law_row", "_law_m"]) fun _ _ _ _ _ _ us hl => match us, hl with | [_, _], _ => rfl
  have F5 := fun_mk (st := s_law_standing) l5 c5 k5
  have b5 := F5.binds (ps := ["_law_m"]) fun _ _ _ _ _ _ us hl => match us, hl with | [_], _ => rfl
  have F6 := fun_mk (st := s_law_size) l6 c6 k6
  have b6 := F6.binds (ps := ["_law_m", "_law_table_here"]) fun _ _ _ _ _ _ us hl => match us, hl with | [_, _], _ => rfl
  have F7 := fun_mk (st := s_law_ranked) l7 c7 k7
  have b7 := F7.binds (ps := ["_law_m", "_law_some", "_law_table_here"]) fun _ _ _ _ _ _ us hl => match us, hl with | [_, _, _], _ => rfl
  have F8 := fun_mk (st := s_law_best) l8 c8 k8
  have b8 := F8.binds (ps := ["_law_m", "_law_some", "_law_table_here"]) fun _ _ _ _ _ _ us hl => match us, hl with | [_, _, _], _ => rfl
  have F9 := fun_mk (st := s_need_table) l9 c9 k9
  have b9 := F9.binds (ps := ["edges", "table"]) fun _ _ _ _ _ _ us hl => match us, hl with | [_, _], _ => rfl
  have F10 := fun_mk (st := s_c_roads) l10 c10 k10
  have b10 := F10.binds (ps := ["self", "table"]) fun _ _ _ _ _ _ us hl => match us, hl with | [_, _], _ => rfl
  have F11 := fun_mk (st := s_places_of) l11 c11 k11
  have b11 := F11.binds (ps := ["road", "table"]) fun _ _ _ _ _ _ us hl => match us, hl with | [_, _], _ => rfl
  have F12 := fun_mk (st := s_added) l12 c12 k12
  have b12 := F12.binds (ps := ["known", "values", "count", "amount"]) fun _ _ _ _ _ _ us hl => match us, hl with | [_, _, _, _], _ => rfl
  have F13 := fun_mk (st := s_reckoned) l13 c13 k13
  have b13 := F13.binds (ps := ["road", "known", "table"]) fun _ _ _ _ _ _ us hl => match us, hl with | [_, _, _], _ => rfl
  have F14 := fun_mk (st := s_c_make) l14 c14 k14
  have b14 := F14.binds (ps := ["self", "table"]) fun _ _ _ _ _ _ us hl => match us, hl with | [_, _], _ => rfl
  have F15 := fun_mk (st := s_c_keep) l15 c15 k15
  have b15 := F15.binds (ps := ["self", "table"]) fun _ _ _ _ _ _ us hl => match us, hl with | [_, _], _ => rfl
  have F16 := fun_mk (st := s_law_alike) l16 c16 k16
  have b16 := F16.binds (ps := ["_law_found", "_law_due_here"]) fun _ _ _ _ _ _ us hl => match us, hl with | [_, _], _ => rfl
  have F17 := fun_mk (st := s_c_rebuild) l17 c17 k17
  have b17 := F17.binds (ps := ["self", "table"]) fun _ _ _ _ _ _ us hl => match us, hl with | [_, _], _ => rfl
  have F18 := fun_mk (st := s_c_need_kept) l18 c18 k18
  have b18 := F18.binds (ps := ["self", "table"]) fun _ _ _ _ _ _ us hl => match us, hl with | [_, _], _ => rfl
  have F19 := fun_mk (st := s_c_lose) l19 c19 k19
  have b19 := F19.binds (ps := ["self", "table"]) fun _ _ _ _ _ _ us hl => match us, hl with | [_, _], _ => rfl
  have F20 := fun_mk (st := s_c_drop) l20 c20 k20
  have b20 := F20.binds (ps := ["self", "table"]) fun _ _ _ _ _ _ us hl => match us, hl with | [_, _], _ => rfl
  have F21 := fun_mk (st := s_law_deed_of_table) l21 c21 k21
  have b21 := F21.binds (ps := ["_law_cube", "_law_m", "_law_table_here", "_law_way"]) fun _ _ _ _ _ _ us hl => match us, hl with | [_, _, _, _], _ => rfl
  have F22 := fun_mk (st := s_c_need_row) l22 c22 k22
  have b22 := F22.binds (ps := ["self", "values", "amount"]) fun _ _ _ _ _ _ us hl => match us, hl with | [_, _, _], _ => rfl
  have F23 := fun_mk (st := s_c_touch) l23 c23 k23
  have b23 := F23.binds (ps := ["self", "values", "count", "amount"]) fun _ _ _ _ _ _ us hl => match us, hl with | [_, _, _, _], _ => rfl
  have F24 := fun_mk (st := s_c_take) l24 c24 k24
  have b24 := F24.binds (ps := ["self", "values", "amount"]) fun _ _ _ _ _ _ us hl => match us, hl with | [_, _, _], _ => rfl
  have F25 := fun_mk (st := s_law_drawn) l25 c25 k25
  have b25 := F25.binds (ps := ["_law_row", "_law_m"]) fun _ _ _ _ _ _ us hl => match us, hl with | [_, _], _ => rfl
  have F26 := fun_mk (st := s_c_put) l26 c26 k26
  have b26 := F26.binds (ps := ["self", "values", "amount"]) fun _ _ _ _ _ _ us hl => match us, hl with | [_, _, _], _ => rfl
  have F27 := fun_mk (st := s_law_deed) l27 c27 k27
  have b27 := F27.binds (ps := ["_law_row", "_law_cube", "_law_m"]) fun _ _ _ _ _ _ us hl => match us, hl with | [_, _, _], _ => rfl
  have F28 := fun_mk (st := s_law_grown) l28 c28 k28
  have b28 := F28.binds (ps := ["_law_row", "_law_most", "_law_many"]) fun _ _ _ _ _ _ us hl => match us, hl with | [_, _, _], _ => rfl
  have F29 := fun_mk (st := s_law_all) l29 c29 k29
  have b29 := F29.binds (ps := ["_law_many"]) fun _ _ _ _ _ _ us hl => match us, hl with | [_], _ => rfl
  have F30 := fun_mk (st := s_all_tables) l30 c30 k30
  have b30 := F30.binds (ps := ["edges"]) fun _ _ _ _ _ _ us hl => match us, hl with | [_], _ => rfl
  have F31 := fun_mk (st := s_sizes_of) l31 c31 k31
  have b31 := F31.binds (ps := ["cube"]) fun _ _ _ _ _ _ us hl => match us, hl with | [_], _ => rfl
  have F32 := fun_mk (st := s_goes) l32 c32 k32
  have b32 := F32.binds (ps := ["road", "table"]) fun _ _ _ _ _ _ us hl => match us, hl with | [_, _], _ => rfl
  have F33 := fun_mk (st := s_best_road) l33 c33 k33
  have b33 := F33.binds (ps := ["known", "some", "table"]) fun _ _ _ _ _ _ us hl => match us, hl with | [_, _, _], _ => rfl
  have F34 := funT_mk (st := s_steps) l34 c34 k34
  have b34 := F34.binds (ps := ["cube", "tables"]) fun _ _ _ _ _ _ us hl => match us, hl with | [_, _], _ => rfl
  have F35 := fun_mk (st := s_law_due) l35 c35 k35
  have b35 := F35.binds (ps := ["_law_m", "_law_tables"]) fun _ _ _ _ _ _ us hl => match us, hl with | [_, _], _ => rfl
  have F36 := fun_mk (st := s_law_is_least) l36 c36 k36
  have b36 := F36.binds (ps := ["_law_m", "_law_found"]) fun _ _ _ _ _ _ us hl => match us, hl with | [_, _], _ => rfl
  have F37 := fun_mk (st := s_sizes) l37 c37 k37
  have b37 := F37.binds (ps := ["cube"]) fun _ _ _ _ _ _ us hl => match us, hl with | [_], _ => rfl
  have F38 := fun_mk (st := s_c_kept) l38 c38 k38
  have b38 := F38.binds (ps := ["self"]) fun _ _ _ _ _ _ us hl => match us, hl with | [_], _ => rfl
  have F39 := fun_mk (st := s_c_room) l39 c39 k39
  have b39 := F39.binds (ps := ["self"]) fun _ _ _ _ _ _ us hl => match us, hl with | [_], _ => rfl
  have F40 := fun_mk (st := s_law_right) l40 c40 k40
  have b40 := F40.binds (ps := ["_law_cube", "_law_m"]) fun _ _ _ _ _ _ us hl => match us, hl with | [_, _], _ => rfl
  have F41 := fun_mk (st := s_law) l41 c41 k41
  refine ⟨PySem.W.fnOf "law" "law" (defArgs s_law) (defBody s_law) (defScope s_law) .none kV41 dc41 pm41 an41 cd41 ct41, cS, PS, OT _ (PySem.W.mg_of X G a34) cS PS _ _ _ _ _ _ l34 rfl rfl tc tp, tn, th, fun s v => .of_eq rfl, fun base _ _ TB => ?_⟩
  have C1 : Callee l.prog w K mg base CX0 1 "_law_taken" ["_law_row", "_law_many"] (sp_law_taken l.prog w K ⟨C, 0, 0, 0, 0, 0, 0, 0, 0, PS⟩) := ⟨f1, _, ok_law_taken F1 T TC , PySem.W.mg_of X G a1, k1, b1⟩
  have C2 : Callee l.prog w K mg base CX0 2 "_law_fresh" ["_law_row", "_law_most"] (sp_law_fresh l.prog w K ⟨C, 0, 0, 0, 0, 0, 0, 0, 0, PS⟩) := ⟨f2, _, ok_law_fresh F2 T TC C1, PySem.W.mg_of X G a2, k2, b2⟩
  have C3 : CalleeC l.prog w K mg base CX0 C 1 "Cube" ["self", "edges"] (sp_c_init l.prog w K ⟨C, 0, 0, 0, 0, 0, 0, 0, 0, PS⟩) := ⟨f3, _, ok_c_init F3 T TC , ⟨mk, a3, i3, kc⟩, PySem.W.mg_of X G aC, b3⟩
  have C4 : Callee l.prog w K mg base CX0 2 "_law_table" ["_law_row", "_law_m"] (sp_law_table l.prog w K ⟨C, 0, 0, 0, 0, 0, 0, 0, 0, PS⟩) := ⟨f4, _, ok_law_table F4 T TC C1, PySem.W.mg_of X G a4, k4, b4⟩
  have C5 : Callee l.prog w K mg base CX0 1 "_law_standing" ["_law_m"] (sp_law_standing l.prog w K ⟨C, 0, 0, 0, 0, 0, 0, 0, 0, PS⟩) := ⟨f5, _, ok_law_standing F5 T TC , PySem.W.mg_of X G a5, k5, b5⟩
  have C6 : Callee l.prog w K mg base CX0 1 "_law_size" ["_law_m", "_law_table_here"] (sp_law_size l.prog w K ⟨C, 0, 0, 0, 0, 0, 0, 0, 0, PS⟩) := ⟨f6, _, ok_law_size F6 T TC , PySem.W.mg_of X G a6, k6, b6⟩
  have C7 : Callee l.prog w K mg base CX0 2 "_law_ranked" ["_law_m", "_law_some", "_law_table_here"] (sp_law_ranked l.prog w K ⟨C, 0, 0, 0, 0, 0, 0, 0, 0, PS⟩) := ⟨f7, _, ok_law_ranked F7 T TC C6, PySem.W.mg_of X G a7, k7, b7⟩
  have C8 : Callee l.prog w K mg base CX0 3 "_law_best" ["_law_m", "_law_some", "_law_table_here"] (sp_law_best l.prog w K ⟨C, 0, 0, 0, 0, 0, 0, 0, 0, PS⟩) := ⟨f8, _, ok_law_best F8 T TC C7, PySem.W.mg_of X G a8, k8, b8⟩
  have C9 : Callee l.prog w K mg base CX0 1 "need_table" ["edges", "table"] (sp_need_table l.prog w K ⟨C, 0, 0, 0, 0, 0, 0, 0, 0, PS⟩) := ⟨f9, _, ok_need_table F9 T TC , PySem.W.mg_of X G a9, k9, b9⟩
  have C10 : CalleeM l.prog w K mg base CX0 C 1 "roads" ["self", "table"] (sp_c_roads l.prog w K ⟨C, 0, 0, 0, 0, 0, 0, 0, 0, PS⟩) := ⟨f10, _, ok_c_roads F10 T TC , ⟨a10, i10, k10⟩, b10⟩
  have C11 : Callee l.prog w K mg base CX0 1 "places_of" ["road", "table"] (sp_places_of l.prog w K ⟨C, 0, 0, 0, 0, 0, 0, 0, 0, PS⟩) := ⟨f11, _, ok_places_of F11 T TC , PySem.W.mg_of X G a11, k11, b11⟩
  have C12 : Callee l.prog w K mg base CX0 1 "added" ["known", "values", "count", "amount"] (sp_added l.prog w K ⟨C, 0, 0, 0, 0, 0, 0, 0, 0, PS⟩) := ⟨f12, _, ok_added F12 T TC , PySem.W.mg_of X G a12, k12, b12⟩
  have C13 : Callee l.prog w K mg base CX0 2 "reckoned" ["road", "known", "table"] (sp_reckoned l.prog w K ⟨C, 0, 0, 0, 0, 0, 0, 0, 0, PS⟩) := ⟨f13, _, ok_reckoned F13 T TC C11 C12, PySem.W.mg_of X G a13, k13, b13⟩
  have C14 : CalleeM l.prog w K mg base CX0 C 3 "make" ["self", "table"] (sp_c_make l.prog w K ⟨C, 0, 0, 0, 0, 0, 0, 0, 0, PS⟩) := ⟨f14, _, ok_c_make F14 T TC C10 C13, ⟨a14, i14, k14⟩, b14⟩
  have C15 : CalleeM l.prog w K mg base CX0 C 4 "keep" ["self", "table"] (sp_c_keep l.prog w K ⟨C, 0, 0, 0, 0, 0, 0, 0, 0, PS⟩) := ⟨f15, _, ok_c_keep F15 T TC C9 C14, ⟨a15, i15, k15⟩, b15⟩
  have C16 : Callee l.prog w K mg base CX0 6 "_law_alike" ["_law_found", "_law_due_here"] (sp_law_alike l.prog w K ⟨C, 0, 0, 0, 0, 0, 0, 0, 0, PS⟩) := ⟨f16, _, ok_law_alike F16 T (PySem.W.mg_of X G a16) k16 b16 6, PySem.W.mg_of X G a16, k16, b16⟩
  have C17 : CalleeM l.prog w K mg base CX0 C 4 "rebuild" ["self", "table"] (sp_c_rebuild l.prog w K ⟨C, 0, 0, 0, 0, 0, 0, 0, 0, PS⟩) := ⟨f17, _, ok_c_rebuild F17 T TC C9 C14, ⟨a17, i17, k17⟩, b17⟩
  have C18 : CalleeM l.prog w K mg base CX0 C 2 "need_kept" ["self", "table"] (sp_c_need_kept l.prog w K ⟨C, 0, 0, 0, 0, 0, 0, 0, 0, PS⟩) := ⟨f18, _, ok_c_need_kept F18 T TC C9, ⟨a18, i18, k18⟩, b18⟩
  have C19 : CalleeM l.prog w K mg base CX0 C 3 "lose" ["self", "table"] (sp_c_lose l.prog w K ⟨C, 0, 0, 0, 0, 0, 0, 0, 0, PS⟩) := ⟨f19, _, ok_c_lose F19 T TC C18, ⟨a19, i19, k19⟩, b19⟩
  have C20 : CalleeM l.prog w K mg base CX0 C 2 "drop" ["self", "table"] (sp_c_drop l.prog w K ⟨C, 0, 0, 0, 0, 0, 0, 0, 0, PS⟩) := ⟨f20, _, ok_c_drop F20 T TC C9, ⟨a20, i20, k20⟩, b20⟩
  have C21 : Callee l.prog w K mg base CX0 7 "_law_deed_of_table" ["_law_cube", "_law_m", "_law_table_here", "_law_way"] (sp_law_deed_of_table l.prog w K ⟨C, 0, 0, 0, 0, 0, 0, 0, 0, PS⟩) := ⟨f21, _, ok_law_deed_of_table F21 T TC C5 C8 C15 C16 C17 C19 C20, PySem.W.mg_of X G a21, k21, b21⟩
  have C22 : CalleeM l.prog w K mg base CX0 C 1 "need_row" ["self", "values", "amount"] (sp_c_need_row l.prog w K ⟨C, 0, 0, 0, 0, 0, 0, 0, 0, PS⟩) := ⟨f22, _, ok_c_need_row F22 T TC , ⟨a22, i22, k22⟩, b22⟩
  have C23 : CalleeM l.prog w K mg base CX0 C 2 "touch" ["self", "values", "count", "amount"] (sp_c_touch l.prog w K ⟨C, 0, 0, 0, 0, 0, 0, 0, 0, PS⟩) := ⟨f23, _, ok_c_touch F23 T TC C12, ⟨a23, i23, k23⟩, b23⟩
  have C24 : CalleeM l.prog w K mg base CX0 C 3 "take" ["self", "values", "amount"] (sp_c_take l.prog w K ⟨C, 0, 0, 0, 0, 0, 0, 0, 0, PS⟩) := ⟨f24, _, ok_c_take F24 T TC C22 C23, ⟨a24, i24, k24⟩, b24⟩
  have C25 : Callee l.prog w K mg base CX0 2 "_law_drawn" ["_law_row", "_law_m"] (sp_law_drawn l.prog w K ⟨C, 0, 0, 0, 0, 0, 0, 0, 0, PS⟩) := ⟨f25, _, ok_law_drawn F25 T TC C1, PySem.W.mg_of X G a25, k25, b25⟩
  have C26 : CalleeM l.prog w K mg base CX0 C 3 "put" ["self", "values", "amount"] (sp_c_put l.prog w K ⟨C, 0, 0, 0, 0, 0, 0, 0, 0, PS⟩) := ⟨f26, _, ok_c_put F26 T TC C22 C23, ⟨a26, i26, k26⟩, b26⟩
  have C27 : Callee l.prog w K mg base CX0 8 "_law_deed" ["_law_row", "_law_cube", "_law_m"] (sp_law_deed l.prog w K ⟨C, 0, 0, 0, 0, 0, 0, 0, 0, PS⟩) := ⟨f27, _, ok_law_deed F27 T TC C1 C4 C21 C24 C25 C26, PySem.W.mg_of X G a27, k27, b27⟩
  have C28 : Callee l.prog w K mg base CX0 9 "_law_grown" ["_law_row", "_law_most", "_law_many"] (sp_law_grown l.prog w K ⟨C, 0, 0, 0, 0, 0, 0, 0, 0, PS⟩) := ⟨f28, _, ok_law_grown F28 T TC C2 C3 C1 C27, PySem.W.mg_of X G a28, k28, b28⟩
  have C29 : Callee l.prog w K mg base CX0 1 "_law_all" ["_law_many"] (sp_law_all l.prog w K ⟨C, 0, 0, 0, 0, 0, 0, 0, 0, PS⟩) := ⟨f29, _, ok_law_all F29 T TC , PySem.W.mg_of X G a29, k29, b29⟩
  have C30 : Callee l.prog w K mg base CX0 1 "all_tables" ["edges"] (sp_all_tables l.prog w K ⟨C, 0, 0, 0, 0, 0, 0, 0, 0, PS⟩) := ⟨f30, _, ok_all_tables F30 T TC , PySem.W.mg_of X G a30, k30, b30⟩
  have C31 : Callee l.prog w K mg base CX0 3 "sizes_of" ["cube"] (sp_sizes_of l.prog w K ⟨C, 0, 0, 0, 0, 0, 0, 0, 0, PS⟩) := ⟨f31, _, ok_sizes_of F31 T TC C30 C13, PySem.W.mg_of X G a31, k31, b31⟩
  have C32 : Callee l.prog w K mg base CX0 1 "goes" ["road", "table"] (sp_goes l.prog w K ⟨C, 0, 0, 0, 0, 0, 0, 0, 0, PS⟩) := ⟨f32, _, ok_goes F32 T TC , PySem.W.mg_of X G a32, k32, b32⟩
  have C33 : Callee l.prog w K mg base CX0 2 "best_road" ["known", "some", "table"] (sp_best_road l.prog w K ⟨C, 0, 0, 0, 0, 0, 0, 0, 0, PS⟩) := ⟨f33, _, ok_best_road F33 T TC C32, PySem.W.mg_of X G a33, k33, b33⟩
  have C34 : Callee l.prog w K mg base CX0 4 "steps" ["cube", "tables"] (sp_steps l.prog w K ⟨C, 0, 0, 0, 0, 0, 0, 0, 0, PS⟩) := ⟨f34, _, ok_steps F34 TB T TC C9 C31 C33, PySem.W.mg_of X G a34, k34, b34⟩
  have C35 : Callee l.prog w K mg base CX0 4 "_law_due" ["_law_m", "_law_tables"] (sp_law_due l.prog w K ⟨C, 0, 0, 0, 0, 0, 0, 0, 0, PS⟩) := ⟨f35, _, ok_law_due F35 T TC C5 C29 C8 C6, PySem.W.mg_of X G a35, k35, b35⟩
  have C36 : Callee l.prog w K mg base CX0 2 "_law_is_least" ["_law_m", "_law_found"] (sp_law_is_least l.prog w K ⟨C, 0, 0, 0, 0, 0, 0, 0, 0, PS⟩) := ⟨f36, _, ok_law_is_least F36 T TC C5 C6, PySem.W.mg_of X G a36, k36, b36⟩
  have C37 : Callee l.prog w K mg base CX0 4 "sizes" ["cube"] (sp_sizes l.prog w K ⟨C, 0, 0, 0, 0, 0, 0, 0, 0, PS⟩) := ⟨f37, _, ok_sizes F37 T TC C31, PySem.W.mg_of X G a37, k37, b37⟩
  have C38 : CalleeM l.prog w K mg base CX0 C 1 "kept" ["self"] (sp_c_kept l.prog w K ⟨C, 0, 0, 0, 0, 0, 0, 0, 0, PS⟩) := ⟨f38, _, ok_c_kept F38 T TC , ⟨a38, i38, k38⟩, b38⟩
  have C39 : CalleeM l.prog w K mg base CX0 C 1 "room" ["self"] (sp_c_room l.prog w K ⟨C, 0, 0, 0, 0, 0, 0, 0, 0, PS⟩) := ⟨f39, _, ok_c_room F39 T TC , ⟨a39, i39, k39⟩, b39⟩
  have C40 : Callee l.prog w K mg base CX0 7 "_law_right" ["_law_cube", "_law_m"] (sp_law_right l.prog w K ⟨C, 0, 0, 0, 0, 0, 0, 0, 0, PS⟩) := ⟨f40, _, ok_law_right F40 T TC C6 C38 C16 C5 C39, PySem.W.mg_of X G a40, k40, b40⟩
  show FnOk l.prog w K mg base CX0 10 fa _ ["_law_script"] (sp_law04 l.prog w K ⟨C, 0, 0, 0, 0, 0, 0, 0, 0, PS⟩)
  exact ok_law F41 T TC C28 C29 C6 C1 C4 C34 C35 C16 C36 C37 C40
theorem amount_of {p : Program} {lv : List (Str × PySem.W.WData)} {mg : Str → Option Value} {h : Heap} (x : PySem.W.XL p lv mg h) (hm : (("MOST_AMOUNT" : Str), PySem.W.WData.int 1000000000) ∈ lv) : ∃ u, mg "MOST_AMOUNT" = some u ∧ RelV (.int 1000000000) u := by
  obtain ⟨v, h1, h2⟩ := x.2.val _ hm
  refine ⟨v, h1, ?_⟩
  cases h2
  exact ⟨_, rfl⟩

theorem walk {l : PySem.W.OpenLaw} {q : Program} {loose : List Str} {XP : (Str → Option Value) → Heap → Prop} {YP : World → Heap → Prop} {d : DefRec} {K : Params → PySem.W.Frag} (hn : l.most = some 63) (hdf : d.params.defaults = []) (hrec : ((recsOf q).any fun e => e.name == ("steps" : Str)) = true)
    (hY : ∀ (w : World) (h : Heap), YP w h → (K w.params).In h) (hX : ∀ (mg : Str → Option Value) (h : Heap), XP mg h → ∃ u, mg "MOST_AMOUNT" = some u ∧ RelV (.int 1000000000) u)
    (F : ∀ (w : World) (mg : Str → Option Value) (fa : Addr) (h : Heap), (K w.params).In h → h.Ns mainGlobals mg → mg d.name = some (.ref fa) → (∃ u, mg "MOST_AMOUNT" = some u ∧ RelV (.int 1000000000) u) → (∀ fs, mg "steps" = some (.ref fs) → LamX.OwnTab (K w.params) fs h) →
      ∃ (fd : FuncData) (c P : Addr), h.get? P = some { cls := .none, data := .fields #[] } ∧ (K w.params).lookup P = none ∧ PySem.W.codeHdIn (K w.params) c P = true ∧ (∀ (s : Shared) (u : Value), BindsTo s fd ⟨[u], []⟩ [("_law_script", u)]) ∧ ∀ base : Heap, (K w.params).In base → base.Ns mainGlobals mg → LamX.TabB base mg c P → FnOk l.prog w (K w.params) mg base CX0 10 fa fd ["_law_script"] (sp_law04 l.prog w (K w.params) ⟨0, 0, 0, 0, 0, 0, 0, 0, 0, P⟩)) :
    PySem.W.WalkO q loose XP YP l.row.toRowW d [] (fun f vs => PySem.call f vs) := by
  refine Att.attach_call hn hdf fun w s₀ s₁ mg mb fa o pm cd doc a vs ns G Y ho hd hcd hmg hobj hints hlen hg => ?_
  have KX := hY w _ Y
  have own : ∀ fs, mg "steps" = some (.ref fs) → LamX.OwnTab (K w.params) fs s₁.heap := fun fs hfs c P o1 fd1 e dd vs1 sl k1 k2 k3 k4 k5 => by
    obtain ⟨dL, hm, hn1⟩ := List.any_eq_true.mp hrec
    have hn2 : dL.name = ("steps" : Str) := beq_iff_eq.mp hn1
    obtain ⟨a', o', fd', c', P', h1, h2, h3, h4, h5, h6⟩ := G.T.tab dL hm
    rw [hn2, hfs] at h1
    cases h1
    have g1 := KX _ _ k1
    rw [g1] at h2
    cases h2
    rw [k2] at h3
    cases h3
    rw [k3] at h4
    cases h4
    obtain ⟨⟨oc, vc, e1, _, e3, e4⟩, hP⟩ := h6
    have g2 := KX _ _ k4
    rw [g2] at e1
    cases e1
    cases e3
    rw [k5] at e4
    cases e4
    exact hP
  obtain ⟨fd, c, P, hP, nP, hC, hb, hF⟩ := F w mg fa _ KX G.T.g hmg (hX _ _ G.X) own
  exact LamX.law_callTs (k := 10) (cs := [(c, P)]) KX G.T.g G.T.b G.T.builtins G.T.nolimit hg (fun p hp => by rw [List.mem_singleton.mp hp]; exact hP) (fun p hp => by rw [List.mem_singleton.mp hp]; exact nP) (fun p hp => by rw [List.mem_singleton.mp hp]; exact PySem.W.codeHd_of_K KX hC) G.T.bmain hobj hints (Nat.le_trans hlen (by decide)) ⟨rfl, by decide, by decide⟩
    (fun base b1 b2 b3 => hF base b1 b2 (b3 (c, P) List.mem_cons_self)) hb (fun H hH hS => ⟨a, ns, rfl, hS, hlen, fun p hp => by rw [List.mem_singleton.mp hp]; exact LamX.TabS.nil (hH (c, P) List.mem_cons_self), fun _ => rfl⟩) fun H e s' z => z
end KC
end

section
set_option Elab.async false
set_option linter.all false
set_option autoImplicit false
set_option maxRecDepth 100000
set_option maxHeartbeats 4000000
open PySem PySem.W PyProof.Rows in
set_option maxRecDepth 100000 in
set_option maxHeartbeats 0 in
theorem PySem.Challenge.cw_keptcubes_k04_whole_reckoned_with_the_fe_holds : PySem.Challenge.rw_keptcubes_k04_whole_reckoned_with_the_fe.Holds := by
  w_on; o_law; k_head; (case hw => w_witness2)
  k_fill
  refine KC.walk (l := PySem.Challenge.rw_keptcubes_k04_whole_reckoned_with_the_fe) rfl rfl (by first | rfl | kernel_rfl) (fun w h Y => PySem.W.km_in_of Y) ?hX ?F
  case hX => exact fun mg h x => KC.amount_of x (by first | exact List.mem_singleton.mpr rfl | exact List.mem_cons_self | decide)
  case F =>
    intro w mg fa h KX G hmg qa OT
    refine' KC.all_mk KX G hmg ?aC ?a1 ?l1 ?c1 ?k1 ?a2 ?l2 ?c2 ?k2 ?a3 ?i3 ?l3 ?c3 ?k3 ?a4 ?l4 ?c4 ?k4 ?a5 ?l5 ?c5 ?k5 ?a6 ?l6 ?c6 ?k6 ?a7 ?l7 ?c7 ?k7 ?a8 ?l8 ?c8 ?k8 ?a9 ?l9 ?c9 ?k9 ?a10 ?i10 ?l10 ?c10 ?k10 ?a11 ?l11 ?c11 ?k11 ?a12 ?l12 ?c12 ?k12 ?a13 ?l13 ?c13 ?k13 ?a14 ?i14 ?l14 ?c14 ?k14 ?a15 ?i15 ?l15 ?c15 ?k15 ?a16 ?l16 ?c16 ?k16 ?a17 ?i17 ?l17 ?c17 ?k17 ?a18 ?i18 ?l18 ?c18 ?k18 ?a19 ?i19 ?l19 ?c19 ?k19 ?a20 ?i20 ?l20 ?c20 ?k20 ?a21 ?l21 ?c21 ?k21 ?a22 ?i22 ?l22 ?c22 ?k22 ?a23 ?i23 ?l23 ?c23 ?k23 ?a24 ?i24 ?l24 ?c24 ?k24 ?a25 ?l25 ?c25 ?k25 ?a26 ?i26 ?l26 ?c26 ?k26 ?a27 ?l27 ?c27 ?k27 ?a28 ?l28 ?c28 ?k28 ?a29 ?l29 ?c29 ?k29 ?a30 ?l30 ?c30 ?k30 ?a31 ?l31 ?c31 ?k31 ?a32 ?l32 ?c32 ?k32 ?a33 ?l33 ?c33 ?k33 ?a34 ?l34 ?c34 ?k34 ?a35 ?l35 ?c35 ?k35 ?a36 ?l36 ?c36 ?k36 ?a37 ?l37 ?c37 ?k37 ?a38 ?i38 ?l38 ?c38 ?k38 ?a39 ?i39 ?l39 ?c39 ?k39 ?a40 ?l40 ?c40 ?k40 ?a41 ?l41 ?c41 ?k41 ?pg ?hd ?po ?sa ?mk ?kc ?n_many ?n_whole ?n_inside ?n_known ?n_gone ?z_len ?z_sorted ?z_sum ?z_abs ?z_range ?z_tuple ?z_list ?z_set ?z_int ?z_str ?z_bool ?z_isinstance ?qe ?qv ?tc ?tp ?tn ?th ?z_min ?z_reversed qa OT
    (case aC => k_is)
    (case a1 => k_is)
    (case l1 => k_is)
    (case c1 => k_is)
    (case k1 => k_is)
    (case a2 => k_is)
    (case l2 => k_is)
    (case c2 => k_is)
    (case k2 => k_is)
    (case a3 => k_is)
    (case i3 => k_is)
    (case l3 => k_is)
    (case c3 => k_is)
    (case k3 => k_is)
    (case a4 => k_is)
    (case l4 => k_is)
    (case c4 => k_is)
    (case k4 => k_is)
    (case a5 => k_is)
    (case l5 => k_is)
    (case c5 => k_is)
    (case k5 => k_is)
    (case a6 => k_is)
    (case l6 => k_is)
    (case c6 => k_is)
    (case k6 => k_is)
    (case a7 => k_is)
    (case l7 => k_is)
    (case c7 => k_is)
    (case k7 => k_is)
    (case a8 => k_is)
    (case l8 => k_is)
    (case c8 => k_is)
    (case k8 => k_is)
    (case a9 => k_is)
    (case l9 => k_is)
    (case c9 => k_is)
    (case k9 => k_is)
    (case a10 => k_is)
    (case i10 => k_is)
    (case l10 => k_is)
    (case c10 => k_is)
    (case k10 => k_is)
    (case a11 => k_is)
    (case l11 => k_is)
    (case c11 => k_is)
    (case k11 => k_is)
    (case a12 => k_is)
    (case l12 => k_is)
    (case c12 => k_is)
    (case k12 => k_is)
    (case a13 => k_is)
    (case l13 => k_is)
    (case c13 => k_is)
    (case k13 => k_is)
    (case a14 => k_is)
    (case i14 => k_is)
    (case l14 => k_is)
    (case c14 => k_is)
    (case k14 => k_is)
    (case a15 => k_is)
    (case i15 => k_is)
    (case l15 => k_is)
    (case c15 => k_is)
    (case k15 => k_is)
    (case a16 => k_is)
    (case l16 => k_is)
    (case c16 => k_is)
    (case k16 => k_is)
    (case a17 => k_is)
    (case i17 => k_is)
    (case l17 => k_is)
    (case c17 => k_is)
    (case k17 => k_is)
    (case a18 => k_is)
    (case i18 => k_is)
    (case l18 => k_is)
    (case c18 => k_is)
    (case k18 => k_is)
    (case a19 => k_is)
    (case i19 => k_is)
    (case l19 => k_is)
    (case c19 => k_is)
    (case k19 => k_is)
    (case a20 => k_is)
    (case i20 => k_is)
    (case l20 => k_is)
    (case c20 => k_is)
    (case k20 => k_is)
    (case a21 => k_is)
    (case l21 => k_is)
    (case c21 => k_is)
    (case k21 => k_is)
    (case a22 => k_is)
    (case i22 => k_is)
    (case l22 => k_is)
    (case c22 => k_is)
    (case k22 => k_is)
    (case a23 => k_is)
    (case i23 => k_is)
    (case l23 => k_is)
    (case c23 => k_is)
    (case k23 => k_is)
    (case a24 => k_is)
    (case i24 => k_is)
    (case l24 => k_is)
    (case c24 => k_is)
    (case k24 => k_is)
    (case a25 => k_is)
    (case l25 => k_is)
    (case c25 => k_is)
    (case k25 => k_is)
    (case a26 => k_is)
    (case i26 => k_is)
    (case l26 => k_is)
    (case c26 => k_is)
    (case k26 => k_is)
    (case a27 => k_is)
    (case l27 => k_is)
    (case c27 => k_is)
    (case k27 => k_is)
    (case a28 => k_is)
    (case l28 => k_is)
    (case c28 => k_is)
    (case k28 => k_is)
    (case a29 => k_is)
    (case l29 => k_is)
    (case c29 => k_is)
    (case k29 => k_is)
    (case a30 => k_is)
    (case l30 => k_is)
    (case c30 => k_is)
    (case k30 => k_is)
    (case a31 => k_is)
    (case l31 => k_is)
    (case c31 => k_is)
    (case k31 => k_is)
    (case a32 => k_is)
    (case l32 => k_is)
    (case c32 => k_is)
    (case k32 => k_is)
    (case a33 => k_is)
    (case l33 => k_is)
    (case c33 => k_is)
    (case k33 => k_is)
    (case a34 => k_is)
    (case l34 => k_is)
    (case c34 => k_is)
    (case k34 => k_is)
    (case a35 => k_is)
    (case l35 => k_is)
    (case c35 => k_is)
    (case k35 => k_is)
    (case a36 => k_is)
    (case l36 => k_is)
    (case c36 => k_is)
    (case k36 => k_is)
    (case a37 => k_is)
    (case l37 => k_is)
    (case c37 => k_is)
    (case k37 => k_is)
    (case a38 => k_is)
    (case i38 => k_is)
    (case l38 => k_is)
    (case c38 => k_is)
    (case k38 => k_is)
    (case a39 => k_is)
    (case i39 => k_is)
    (case l39 => k_is)
    (case c39 => k_is)
    (case k39 => k_is)
    (case a40 => k_is)
    (case l40 => k_is)
    (case c40 => k_is)
    (case k40 => k_is)
    (case a41 => k_is)
    (case l41 => k_is)
    (case c41 => k_is)
    (case k41 => k_is)
    (case pg => k_is)
    (case hd => k_is)
    (case po => k_is)
    (case sa => k_is)
    (case mk => k_is)
    (case kc => k_is)
    (case n_many => k_is)
    (case n_whole => k_is)
    (case n_inside => k_is)
    (case n_known => k_is)
    (case n_gone => k_is)
    (case z_len => k_is)
    (case z_sorted => k_is)
    (case z_sum => k_is)
    (case z_abs => k_is)
    (case z_range => k_is)
    (case z_tuple => k_is)
    (case z_list => k_is)
    (case z_set => k_is)
    (case z_int => k_is)
    (case z_str => k_is)
    (case z_bool => k_is)
    (case z_isinstance => k_is)
    (case qe => k_is)
    (case qv => k_is)
    (case tc => k_is)
    (case tp => first | rfl | exact Array.getElem?_eq_getElem (by decide))
    (case tn => first | k_is | kernel_rfl | rfl | decide +kernel)
    (case th => first | k_is | kernel_rfl | rfl | decide +kernel)
    (case z_min => k_is)
    (case z_reversed => k_is)
end
