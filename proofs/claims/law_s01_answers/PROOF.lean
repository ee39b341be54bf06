import PyProof.Rows.All
import PyUw55
import Wide.All
import OpenK.AllK
import Wide.FinOn
import Open.SpecLaws
import KE.OsGo
import HandS.ForSpec
import HandS.Comp
import HandS.Dict
import HandS.Iter
import HandS.Conv
import HandS.Zip
import HandS.SetFor
import HandS.Strs
import HandS.TupLen
import HandS.TupAny
import HandS.WordsDict
import HandS.More
import KE.DataMinMax
import KE.SortData
import KE.KTupSum
import KE.GoesMore
import HandS.SortOrd
import HandS.Walk
import HandS.Codes
import HandS.Flow
import PySem.Challenge.RW_cubechain_s01_answers
import HandS.Spec
section
set_option autoImplicit false
set_option Elab.async false
namespace CC
open Uw55

/-! ### lists -/
theorem take_snoc {α : Type} : ∀ {l : List α} {i : Nat} {x : α}, l[i]? = some x → l.take (i + 1) = l.take i ++ [x] := by
  intro l i x h
  rw [List.take_add_one, h]
  rfl

/-! ### the order of rows -/
theorem less_irrefl : ∀ s : List Nat, less s s = false
  | [] => rfl
  | a :: r => by
    show (decide (a < a) || (a == a && less r r)) = false
    rw [less_irrefl r]
    simp
theorem less_cons {a b : Nat} {r s : List Nat} : less (a :: r) (b :: s) = true ↔ a < b ∨ (a = b ∧ less r s = true) := by
  show (decide (a < b) || (a == b && less r s)) = true ↔ _
  simp
theorem less_trans : ∀ {s t u : List Nat}, less s t = true → less t u = true → less s u = true
  | [], [], _, h, _ => by simp [less] at h
  | [], _ :: _, [], _, h => by simp [less] at h
  | [], _ :: _, _ :: _, _, _ => rfl
  | _ :: _, [], _, h, _ => by simp [less] at h
  | _ :: _, _ :: _, [], _, h => by simp [less] at h
  | a :: r, b :: s, c :: t, h1, h2 => by
    rw [less_cons] at h1 h2 ⊢
    rcases h1 with h1 | ⟨h1, k1⟩
    · rcases h2 with h2 | ⟨h2, _⟩
      · exact .inl (by omega)
      · exact .inl (by omega)
    · rcases h2 with h2 | ⟨h2, k2⟩
      · exact .inl (by omega)
      · exact .inr ⟨by omega, less_trans k1 k2⟩
theorem less_total : ∀ (s t : List Nat), less s t = true ∨ s = t ∨ less t s = true
  | [], [] => .inr (.inl rfl)
  | [], _ :: _ => .inl rfl
  | _ :: _, [] => .inr (.inr rfl)
  | a :: r, b :: s => by
    rw [less_cons, less_cons]
    rcases Nat.lt_trichotomy a b with h | h | h
    · exact .inl (.inl h)
    · rcases less_total r s with k | k | k
      · exact .inl (.inr ⟨h, k⟩)
      · exact .inr (.inl (by rw [h, k]))
      · exact .inr (.inr (.inr ⟨h.symm, k⟩))
    · exact .inr (.inr (.inl h))
theorem less_asymm {s t : List Nat} (h : less s t = true) : less t s = false := by
  cases e : less t s with
  | false => rfl
  | true =>
    have := less_trans h e
    rw [less_irrefl] at this
    cases this
theorem less_ne {s t : List Nat} (h : less s t = true) : s ≠ t := fun e => by
  rw [e, less_irrefl] at h
  cases h
theorem not_less {s t : List Nat} (h : less s t = false) : s = t ∨ less t s = true := by
  rcases less_total s t with k | k | k
  · rw [h] at k; cases k
  · exact .inl k
  · exact .inr k

abbrev Sorted (l : List (List Nat)) : Prop := l.Pairwise fun s t => less s t = true
/-- two rising lists with the same members are one -/
theorem sorted_ext : ∀ {l m : List (List Nat)}, Sorted l → Sorted m → (∀ s, s ∈ l ↔ s ∈ m) → l = m
  | [], [], _, _, _ => rfl
  | [], y :: m, _, _, h => absurd ((h y).mpr (List.mem_cons_self ..)) (by simp)
  | x :: l, [], _, _, h => absurd ((h x).mp (List.mem_cons_self ..)) (by simp)
  | x :: l, y :: m, hl, hm, h => by
    obtain ⟨l1, l2⟩ := List.pairwise_cons.mp hl
    obtain ⟨m1, m2⟩ := List.pairwise_cons.mp hm
    have e : x = y := by
      rcases List.mem_cons.mp ((h x).mp (List.mem_cons_self ..)) with e | hx
      · exact e
      · rcases List.mem_cons.mp ((h y).mpr (List.mem_cons_self ..)) with e | hy
        · exact e.symm
        · have := less_trans (m1 x hx) (l1 y hy)
          rw [less_irrefl] at this
          cases this
    subst e
    rw [sorted_ext l2 m2 fun s => ?_]
    constructor
    · intro hs
      rcases List.mem_cons.mp ((h s).mp (List.mem_cons_of_mem _ hs)) with e | k
      · have := l1 s hs
        rw [e, less_irrefl] at this
        cases this
      · exact k
    · intro hs
      rcases List.mem_cons.mp ((h s).mpr (List.mem_cons_of_mem _ hs)) with e | k
      · have := m1 s hs
        rw [e, less_irrefl] at this
        cases this
      · exact k
theorem mem_put {s t : List Nat} : ∀ {l : List (List Nat)}, t ∈ put s l ↔ t = s ∨ t ∈ l
  | [] => by simp [put]
  | u :: l => by
    unfold put
    by_cases e : s = u
    · rw [if_pos e, e]
      simp
    · rw [if_neg e]
      by_cases h : less s u = true
      · rw [if_pos h]
        simp
      · rw [if_neg h, List.mem_cons, mem_put, List.mem_cons]
        constructor
        · rintro (h | h | h)
          · exact .inr (.inl h)
          · exact .inl h
          · exact .inr (.inr h)
        · rintro (h | h | h)
          · exact .inr (.inl h)
          · exact .inl h
          · exact .inr (.inr h)
theorem sorted_put {s : List Nat} : ∀ {l : List (List Nat)}, Sorted l → Sorted (put s l)
  | [], _ => by simp [put, Sorted]
  | u :: l, h => by
    obtain ⟨h1, h2⟩ := List.pairwise_cons.mp h
    unfold put
    by_cases e : s = u
    · rw [if_pos e]
      exact h
    · rw [if_neg e]
      by_cases k : less s u = true
      · rw [if_pos k]
        refine List.pairwise_cons.mpr ⟨fun t ht => ?_, h⟩
        rcases List.mem_cons.mp ht with z | z
        · rw [z]; exact k
        · exact less_trans k (h1 t z)
      · rw [if_neg k]
        refine List.pairwise_cons.mpr ⟨fun t ht => ?_, sorted_put h2⟩
        rcases mem_put.mp ht with z | z
        · rw [z]
          rcases not_less (by simpa using k) with q | q
          · exact absurd q e
          · exact q
        · exact h1 t z
theorem fold_put {α : Type} (f : α → List Nat) : ∀ (ps : List α) (l : List (List Nat)), Sorted l → Sorted (ps.foldl (fun l p => put (f p) l) l) ∧ ∀ t, t ∈ ps.foldl (fun l p => put (f p) l) l ↔ t ∈ l ∨ ∃ p ∈ ps, f p = t
  | [], l, h => ⟨h, fun t => by simp⟩
  | p :: ps, l, h => by
    obtain ⟨h1, h2⟩ := fold_put f ps (put (f p) l) (sorted_put h)
    refine ⟨h1, fun t => ?_⟩
    rw [List.foldl_cons, h2, mem_put]
    constructor
    · rintro ((e | h) | ⟨q, hq, e⟩)
      · exact .inr ⟨p, List.mem_cons_self .., e.symm⟩
      · exact .inl h
      · exact .inr ⟨q, List.mem_cons_of_mem _ hq, e⟩
    · rintro (h | ⟨q, hq, e⟩)
      · exact .inl (.inr h)
      · rcases List.mem_cons.mp hq with z | z
        · rw [z] at e; exact .inl (.inl e.symm)
        · exact .inr ⟨q, z, e⟩
theorem chains_sorted (x : Box) : Sorted x.chains := (fold_put x.chain x.all [] List.Pairwise.nil).1
theorem mem_chains {x : Box} {s : List Nat} : s ∈ x.chains ↔ ∃ p ∈ x.all, x.chain p = s := by
  have h := (fold_put x.chain x.all [] List.Pairwise.nil).2 s
  unfold Box.chains
  rw [h]
  simp

/-! ### paths, level by level -/
/-- the cells beside one, rising -/
def nbs (x : Box) (k : Nat) : List Nat := (List.range x.cells).filter (x.beside k)
def extF (x : Box) (p : List Nat) : List (List Nat) := ((nbs x (p.getLastD 0)).filter fun c => !p.contains c).map fun c => p ++ [c]
def plv (x : Box) : Nat → List (List Nat)
  | 0 => (List.range x.cells).map fun c => [c]
  | k + 1 => (plv x k).flatMap (extF x)
def extR (x : Box) (p : List Nat) : List (List Nat) := ((List.range x.cells).filter fun c => x.beside (p.headD 0) c && !p.contains c).map fun c => c :: p
theorem ext_rev (x : Box) (p : List Nat) : (extR x p).map List.reverse = extF x p.reverse := by
  unfold extR extF nbs
  rw [List.map_map, List.filter_filter]
  have e1 : p.reverse.getLastD 0 = p.headD 0 := by cases p <;> simp
  have e2 : (fun c => (!p.reverse.contains c && x.beside (p.reverse.getLastD 0) c)) = fun c => (x.beside (p.headD 0) c && !p.contains c) := by
    funext c
    rw [e1, List.contains_reverse, Bool.and_comm]
  rw [e2]
  refine List.map_congr_left fun c _ => ?_
  simp
theorem grow_succ (x : Box) (k : Nat) (p : List Nat) : x.grow (k + 1) p = (extR x p).flatMap (x.grow k) := by
  show List.flatMap _ _ = _
  unfold extR
  rw [List.flatMap_map]
def rlv (x : Box) : Nat → List (List Nat)
  | 0 => (List.range x.cells).map fun c => [c]
  | k + 1 => (rlv x k).flatMap (extR x)
theorem plv_rlv (x : Box) : ∀ k, plv x k = (rlv x k).map List.reverse
  | 0 => by
    show (List.range x.cells).map _ = ((List.range x.cells).map _).map _
    rw [List.map_map]
    rfl
  | k + 1 => by
    show (plv x k).flatMap (extF x) = ((rlv x k).flatMap (extR x)).map _
    rw [plv_rlv x k, List.flatMap_map, List.map_flatMap]
    congr 1
    funext p
    exact (ext_rev x p).symm
theorem rlv_grow (x : Box) : ∀ (m j : Nat), (rlv x j).flatMap (x.grow m) = (rlv x (j + m)).map List.reverse
  | 0, j => by
    show (rlv x j).flatMap (fun p => [p.reverse]) = _
    exact List.map_eq_flatMap.symm
  | m + 1, j => by
    have e : (x.grow (m + 1)) = fun p => (extR x p).flatMap (x.grow m) := funext fun p => grow_succ x m p
    rw [e, ← List.flatMap_assoc]
    have h := rlv_grow x m (j + 1)
    rw [show j + (m + 1) = j + 1 + m by omega]
    exact h
theorem all_plv (x : Box) : x.all = plv x (x.cells - 1) := by
  have h := rlv_grow x (x.cells - 1) 0
  rw [Nat.zero_add, ← plv_rlv] at h
  rw [← h]
  unfold Box.all
  show _ = ((List.range x.cells).map _).flatMap _
  rw [List.flatMap_map]
end CC
end
section
set_option autoImplicit false
set_option Elab.async false
namespace CC
open Uw55
/-! ### what a path is -/
structure IsP (x : Box) (p : List Nat) : Prop where
  nd : p.Nodup
  lt : ∀ c ∈ p, c < x.cells
  adj : ∀ (i a b : Nat), p[i]? = some a → p[i + 1]? = some b → x.beside a b = true
theorem mem_nbs {x : Box} {k c : Nat} : c ∈ nbs x k ↔ c < x.cells ∧ x.beside k c = true := by
  unfold nbs
  rw [List.mem_filter, List.mem_range]
theorem mem_extF {x : Box} {q p : List Nat} : p ∈ extF x q ↔ ∃ c, c < x.cells ∧ x.beside (q.getLastD 0) c = true ∧ c ∉ q ∧ p = q ++ [c] := by
  unfold extF
  rw [List.mem_map]
  constructor
  · rintro ⟨c, hc, rfl⟩
    obtain ⟨h1, h2⟩ := List.mem_filter.mp hc
    obtain ⟨h3, h4⟩ := mem_nbs.mp h1
    exact ⟨c, h3, h4, by simpa using h2, rfl⟩
  · rintro ⟨c, h1, h2, h3, rfl⟩
    exact ⟨c, List.mem_filter.mpr ⟨mem_nbs.mpr ⟨h1, h2⟩, by simpa using h3⟩, rfl⟩
theorem IsP.snoc {x : Box} {q : List Nat} {c : Nat} (hq : q ≠ []) : IsP x (q ++ [c]) ↔ IsP x q ∧ c < x.cells ∧ x.beside (q.getLastD 0) c = true ∧ c ∉ q := by
  have hl : q[q.length - 1]? = some (q.getLastD 0) := by
    rw [← List.getLast?_eq_getElem?, List.getLastD_eq_getLast?]
    cases e : q.getLast? with
    | none => exact absurd (List.getLast?_eq_none_iff.mp e) hq
    | some z => rfl
  have h0 : 0 < q.length := List.length_pos_iff.mpr hq
  constructor
  · rintro ⟨nd, lt, adj⟩
    obtain ⟨n1, n2, n3⟩ := List.nodup_append.mp nd
    refine ⟨⟨n1, fun d hd => lt d (List.mem_append_left _ hd), fun i a b ha hb => adj i a b ?_ ?_⟩, lt c (by simp), ?_, fun hc => n3 c hc c (by simp) rfl⟩
    · rw [List.getElem?_append_left (List.getElem?_eq_some_iff.mp ha).1]; exact ha
    · rw [List.getElem?_append_left (List.getElem?_eq_some_iff.mp hb).1]; exact hb
    · refine adj (q.length - 1) _ _ ?_ ?_
      · rw [List.getElem?_append_left (by omega)]; exact hl
      · rw [show q.length - 1 + 1 = q.length by omega, List.getElem?_append_right (Nat.le_refl _)]
        simp
  · rintro ⟨⟨nd, lt, adj⟩, hc, hb, hn⟩
    refine ⟨List.nodup_append.mpr ⟨nd, by simp, fun a ha b hb e => ?_⟩, fun d hd => ?_, fun i a b ha hb' => ?_⟩
    · have : b = c := by simpa using hb
      rw [this] at e
      exact hn (e ▸ ha)
    · rcases List.mem_append.mp hd with h | h
      · exact lt d h
      · have : d = c := by simpa using h
        rw [this]; exact hc
    · by_cases h : i + 1 < q.length
      · rw [List.getElem?_append_left (by omega)] at ha
        rw [List.getElem?_append_left h] at hb'
        exact adj i a b ha hb'
      · have hlt := (List.getElem?_eq_some_iff.mp hb').1
        rw [List.length_append, List.length_singleton] at hlt
        have e : i = q.length - 1 := by omega
        subst e
        rw [List.getElem?_append_left (by omega), hl] at ha
        rw [show q.length - 1 + 1 = q.length by omega, List.getElem?_append_right (Nat.le_refl _)] at hb'
        have e1 : q.getLastD 0 = a := Option.some.inj ha
        have e2 : c = b := by simpa using hb'
        rw [← e1, ← e2]
        exact hb
theorem mem_plv {x : Box} : ∀ {k : Nat} {p : List Nat}, p ∈ plv x k ↔ p.length = k + 1 ∧ IsP x p
  | 0, p => by
    show p ∈ (List.range x.cells).map _ ↔ _
    rw [List.mem_map]
    constructor
    · rintro ⟨c, hc, rfl⟩
      refine ⟨rfl, by simp, fun d hd => ?_, fun i a b _ hb => ?_⟩
      · have : d = c := by simpa using hd
        rw [this]
        exact List.mem_range.mp hc
      · simp at hb
    · rintro ⟨hl, hp⟩
      match p, hl with
      | [c], _ => exact ⟨c, List.mem_range.mpr (hp.lt c (by simp)), rfl⟩
  | k + 1, p => by
    show p ∈ (plv x k).flatMap (extF x) ↔ _
    rw [List.mem_flatMap]
    constructor
    · rintro ⟨q, hq, hp⟩
      obtain ⟨hl, hi⟩ := mem_plv.mp hq
      obtain ⟨c, h1, h2, h3, rfl⟩ := mem_extF.mp hp
      have hne : q ≠ [] := fun e => by rw [e] at hl; simp at hl
      exact ⟨by rw [List.length_append, hl]; rfl, (IsP.snoc hne).mpr ⟨hi, h1, h2, h3⟩⟩
    · rintro ⟨hl, hi⟩
      have hne0 : p ≠ [] := fun e => by rw [e] at hl; simp at hl
      have e := List.dropLast_concat_getLast hne0
      have hdl : p.dropLast.length = k + 1 := by rw [List.length_dropLast, hl]; rfl
      have hne : p.dropLast ≠ [] := fun e => by rw [e] at hdl; simp at hdl
      rw [← e] at hi
      obtain ⟨i1, h1, h2, h3⟩ := (IsP.snoc hne).mp hi
      exact ⟨p.dropLast, mem_plv.mpr ⟨hdl, i1⟩, mem_extF.mpr ⟨p.getLast hne0, h1, h2, h3, e.symm⟩⟩
theorem nodup_extF (x : Box) (q : List Nat) : (extF x q).Nodup := by
  unfold extF nbs
  refine List.pairwise_map.mpr (List.Pairwise.imp (fun h e => ?_) ((List.nodup_range (n := x.cells)).filter _ |>.filter _))
  exact h (by simpa using e)
theorem nodup_plv (x : Box) : ∀ k, (plv x k).Nodup
  | 0 => List.pairwise_map.mpr (List.Pairwise.imp (fun h e => h (by simpa using e)) (List.nodup_range (n := x.cells)))
  | k + 1 => by
    show ((plv x k).flatMap (extF x)).Nodup
    refine List.pairwise_flatMap.mpr ⟨fun q _ => nodup_extF x q, List.Pairwise.imp (fun {a b} hab p hp p' hp' e => ?_) (nodup_plv x k)⟩
    obtain ⟨c, _, _, _, e1⟩ := mem_extF.mp hp
    obtain ⟨c', _, _, _, e2⟩ := mem_extF.mp hp'
    rw [e1, e2] at e
    exact hab (List.append_inj_left' e rfl)
theorem mem_all {x : Box} (h : 1 ≤ x.cells) {p : List Nat} : p ∈ x.all ↔ p.length = x.cells ∧ IsP x p := by
  rw [all_plv, mem_plv, show x.cells - 1 + 1 = x.cells by omega]
theorem nodup_all (x : Box) : x.all.Nodup := by rw [all_plv]; exact nodup_plv x _
/-! ### maps that keep the box -/
structure Keeps (x : Box) (f : Nat → Nat) : Prop where
  lt : ∀ k, k < x.cells → f k < x.cells
  inj : ∀ k l, k < x.cells → l < x.cells → f k = f l → k = l
  bes : ∀ k l, k < x.cells → l < x.cells → x.beside (f k) (f l) = x.beside k l
  trn : ∀ k l m, k < x.cells → l < x.cells → m < x.cells → x.beside k l = true → x.beside l m = true → (x.step_ (f k) (f l) = x.step_ (f l) (f m) ↔ x.step_ k l = x.step_ l m)
theorem Keeps.isP {x : Box} {f : Nat → Nat} (K : Keeps x f) {p : List Nat} (h : IsP x p) : IsP x (p.map f) := by
  refine ⟨List.pairwise_map.mpr (List.Pairwise.imp_of_mem (fun ha hb hab e => hab (K.inj _ _ (h.lt _ ha) (h.lt _ hb) e)) h.nd), fun c hc => ?_, fun i a b ha hb => ?_⟩
  · obtain ⟨d, hd, rfl⟩ := List.mem_map.mp hc
    exact K.lt d (h.lt d hd)
  · rw [List.getElem?_map] at ha hb
    obtain ⟨a', ea, rfl⟩ := Option.map_eq_some_iff.mp ha
    obtain ⟨b', eb, rfl⟩ := Option.map_eq_some_iff.mp hb
    rw [K.bes _ _ (h.lt _ (List.mem_of_getElem? ea)) (h.lt _ (List.mem_of_getElem? eb))]
    exact h.adj i a' b' ea eb
theorem getD_map {f : Nat → Nat} {p : List Nat} {i : Nat} (h : i < p.length) : (p.map f).getD i 0 = f (p.getD i 0) := by
  rw [List.getD_eq_getElem?_getD, List.getD_eq_getElem?_getD, List.getElem?_map, List.getElem?_eq_getElem h]
  rfl
theorem getElem?_getD {p : List Nat} {i : Nat} (h : i < p.length) : p[i]? = some (p.getD i 0) := by
  rw [List.getD_eq_getElem?_getD, List.getElem?_eq_getElem h]
  rfl
theorem Keeps.chain {x : Box} {f : Nat → Nat} (K : Keeps x f) {p : List Nat} (h : IsP x p) : x.chain (p.map f) = x.chain p := by
  unfold Box.chain
  rw [List.length_map]
  refine List.map_congr_left fun i hi => ?_
  have hi := List.mem_range.mp hi
  have h0 := getElem?_getD (p := p) (i := i) (by omega)
  have h1 := getElem?_getD (p := p) (i := i + 1) (by omega)
  have h2 := getElem?_getD (p := p) (i := i + 2) (by omega)
  rw [getD_map (by omega), getD_map (by omega), getD_map (by omega)]
  have t := K.trn _ _ _ (h.lt _ (List.mem_of_getElem? h0)) (h.lt _ (List.mem_of_getElem? h1)) (h.lt _ (List.mem_of_getElem? h2)) (h.adj i _ _ h0 h1) (h.adj (i + 1) _ _ h1 h2)
  by_cases e : x.step_ (p.getD i 0) (p.getD (i + 1) 0) = x.step_ (p.getD (i + 1) 0) (p.getD (i + 2) 0)
  · rw [if_pos e, if_pos (t.mpr e)]
  · rw [if_neg e, if_neg (fun z => e (t.mp z))]
theorem mem_folds {x : Box} (h : 1 ≤ x.cells) {s p : List Nat} : p ∈ x.folds s ↔ p.length = x.cells ∧ IsP x p ∧ x.chain p = s := by
  unfold Box.folds
  rw [List.mem_filter, mem_all h, beq_iff_eq, and_assoc]
theorem Keeps.folds {x : Box} {f : Nat → Nat} (K : Keeps x f) (h : 1 ≤ x.cells) {s p : List Nat} (hp : p ∈ x.folds s) : p.map f ∈ x.folds s := by
  obtain ⟨h1, h2, h3⟩ := (mem_folds h).mp hp
  exact (mem_folds h).mpr ⟨by rw [List.length_map, h1], K.isP h2, by rw [K.chain h2, h3]⟩
end CC
end
section
set_option autoImplicit false
set_option Elab.async false
set_option maxRecDepth 100000
namespace CC
open Uw55
/-! ### the boxes -/
structure Good (x : Box) : Prop where
  a1 : 1 ≤ x.a
  a4 : x.a ≤ 4
  b1 : 1 ≤ x.b
  b4 : x.b ≤ 4
  c1 : 1 ≤ x.c
  c4 : x.c ≤ 4
  n2 : 2 ≤ x.cells
  n12 : x.cells ≤ 12
/-- the image tables of a box -/
def tabs (x : Box) : List (List Nat) := x.syms.map fun s => (List.range x.cells).map (x.move s)
/-- how many paths go on from one by k cells, by a mask of the cells that are taken -/
def nth : List (List Nat) → Nat → List Nat
  | [], _ => []
  | l :: _, 0 => l
  | _ :: r, k + 1 => nth r k
def fulL (rec : Nat → Nat → Nat) (m : Nat) : List Nat → Nat
  | [] => 0
  | c :: r => Nat.add (cond (Nat.beq (Nat.land (Nat.shiftRight m c) 1) 0) (rec c (Nat.lor m (Nat.shiftLeft 1 c))) 0) (fulL rec m r)
def ful (nb : List (List Nat)) : Nat → Nat → Nat → Nat
  | 0, _, _ => 1
  | k + 1, l, m => fulL (ful nb k) m (nth nb l)
def fulS (nb : List (List Nat)) (k : Nat) : List Nat → Nat
  | [] => 0
  | c :: r => Nat.add (ful nb k c (Nat.shiftLeft 1 c)) (fulS nb k r)
def chkN (x : Box) : Bool := Nat.ble (fulS ((List.range x.cells).map (nbs x)) (x.cells - 1) (List.range x.cells)) 3000
def chkD (x : Box) : Bool := (List.range x.cells).all fun c => decide ((nbs x c).length ≤ 4)
def chk1 (x : Box) : Bool := (tabs x).contains (List.range x.cells) && ((tabs x).all fun f => (tabs x).all fun g => (tabs x).contains (g.map fun k => f.getD k 0))
def chk2 (x : Box) : Bool := (tabs x).all fun f => (List.range x.cells).all fun k => (List.range x.cells).all fun l => x.beside (f.getD k 0) (f.getD l 0) == x.beside k l
def chk3 (x : Box) : Bool := (tabs x).all fun f => (List.range x.cells).all fun k => (nbs x k).all fun l => (nbs x l).all fun m =>
    decide (x.step_ (f.getD k 0) (f.getD l 0) = x.step_ (f.getD l 0) (f.getD m 0)) == decide (x.step_ k l = x.step_ l m)
def chk4 (x : Box) : Bool := (tabs x).all fun f => (List.range x.cells).all fun k => decide (f.getD k 0 < x.cells) && (List.range x.cells).all fun l => (f.getD k 0 == f.getD l 0) == (k == l)
def goodB (x : Box) : Bool := decide (2 ≤ x.cells) && decide (x.cells ≤ 12)
def each4 (f : Box → Bool) : Bool := [1, 2, 3, 4].all fun a => [1, 2, 3, 4].all fun b => [1, 2, 3, 4].all fun c => !goodB ⟨a, b, c⟩ || f ⟨a, b, c⟩
theorem in4 {n : Nat} (h1 : 1 ≤ n) (h2 : n ≤ 4) : n ∈ [1, 2, 3, 4] := by
  simp only [List.mem_cons, List.mem_nil_iff]
  omega
theorem each4_of {f : Box → Bool} (h : each4 f = true) (x : Box) (g : Good x) : f x = true := by
  unfold each4 at h
  have h1 := List.all_eq_true.mp (List.all_eq_true.mp (List.all_eq_true.mp h x.a (in4 g.a1 g.a4)) x.b (in4 g.b1 g.b4)) x.c (in4 g.c1 g.c4)
  have h2 : goodB x = true := by
    unfold goodB
    rw [decide_eq_true g.n2, decide_eq_true g.n12]
    rfl
  have h1 : (!goodB x || f x) = true := h1
  rw [h2] at h1
  exact h1
theorem chkN_all : each4 chkN = true := by decide +kernel
theorem chkD_all : each4 chkD = true := by decide +kernel
theorem chk1_all : each4 chk1 = true := by decide +kernel
theorem chk2_all : each4 chk2 = true := by decide +kernel
theorem chk3_all : each4 chk3 = true := by decide +kernel
theorem chk4_all : each4 chk4 = true := by decide +kernel
end CC
end
section
set_option autoImplicit false
set_option Elab.async false
set_option maxRecDepth 100000
namespace CC
open Uw55
/-! ### images -/
def img (t p : List Nat) : List Nat := p.map fun k => t.getD k 0
theorem tab_at {x : Box} {s : List Nat × Nat} {k : Nat} (h : k < x.cells) : ((List.range x.cells).map (x.move s)).getD k 0 = x.move s k := by
  rw [List.getD_eq_getElem?_getD, List.getElem?_map, List.getElem?_range h]
  rfl
theorem mem_tabs {x : Box} {t : List Nat} : t ∈ tabs x ↔ ∃ s ∈ x.syms, (List.range x.cells).map (x.move s) = t := by
  unfold tabs
  rw [List.mem_map]
theorem tabs_keep {x : Box} (g : Good x) {t : List Nat} (ht : t ∈ tabs x) : Keeps x (fun k => t.getD k 0) := by
  have h2 := List.all_eq_true.mp (each4_of chk2_all x g) t ht
  have h3 := List.all_eq_true.mp (each4_of chk3_all x g) t ht
  have h4 := List.all_eq_true.mp (each4_of chk4_all x g) t ht
  refine ⟨fun k hk => ?_, fun k l hk hl e => ?_, fun k l hk hl => ?_, fun k l m hk hl hm b1 b2 => ?_⟩
  · have q := List.all_eq_true.mp h4 k (List.mem_range.mpr hk)
    rw [Bool.and_eq_true] at q
    exact of_decide_eq_true q.1
  · have q := List.all_eq_true.mp h4 k (List.mem_range.mpr hk)
    rw [Bool.and_eq_true] at q
    have r := List.all_eq_true.mp q.2 l (List.mem_range.mpr hl)
    have e' : t.getD k 0 = t.getD l 0 := e
    rw [e', beq_self_eq_true] at r
    have r' := eq_of_beq r
    exact eq_of_beq r'.symm
  · exact eq_of_beq (List.all_eq_true.mp (List.all_eq_true.mp h2 k (List.mem_range.mpr hk)) l (List.mem_range.mpr hl))
  · have q := List.all_eq_true.mp (List.all_eq_true.mp (List.all_eq_true.mp h3 k (List.mem_range.mpr hk)) l (mem_nbs.mpr ⟨hl, b1⟩)) m (mem_nbs.mpr ⟨hm, b2⟩)
    have q := eq_of_beq q
    exact decide_eq_decide.mp q
theorem tabs_one {x : Box} (g : Good x) : List.range x.cells ∈ tabs x := by
  have h := each4_of chk1_all x g
  unfold chk1 at h
  rw [Bool.and_eq_true] at h
  simpa using h.1
theorem tabs_mul {x : Box} (g : Good x) {f t : List Nat} (hf : f ∈ tabs x) (ht : t ∈ tabs x) : img f t ∈ tabs x := by
  have h := each4_of chk1_all x g
  unfold chk1 at h
  rw [Bool.and_eq_true] at h
  exact List.contains_iff_mem.mp (List.all_eq_true.mp (List.all_eq_true.mp h.2 f hf) t ht)
theorem tab_len {x : Box} {t : List Nat} (ht : t ∈ tabs x) : t.length = x.cells := by
  obtain ⟨s, _, rfl⟩ := mem_tabs.mp ht
  rw [List.length_map, List.length_range]
theorem img_img {x : Box} {f t p : List Nat} (ht : t.length = x.cells) (hp : ∀ c ∈ p, c < x.cells) : img f (img t p) = img (img f t) p := by
  unfold img
  rw [List.map_map]
  refine List.map_congr_left fun c hc => ?_
  have hl : c < t.length := by rw [ht]; exact hp c hc
  rw [Function.comp, List.getD_eq_getElem?_getD (l := List.map _ t), List.getElem?_map, List.getElem?_eq_getElem hl, List.getD_eq_getElem?_getD (l := t), List.getElem?_eq_getElem hl]
  rfl
theorem img_one {x : Box} {p : List Nat} (hp : ∀ c ∈ p, c < x.cells) : img (List.range x.cells) p = p := by
  unfold img
  have e : p.map (fun k => (List.range x.cells).getD k 0) = p.map id := List.map_congr_left fun c hc => by
    rw [List.getD_eq_getElem?_getD, List.getElem?_range (hp c hc)]
    rfl
  rw [e, List.map_id]
theorem img_move {x : Box} {s : List Nat × Nat} {p : List Nat} (hp : ∀ c ∈ p, c < x.cells) : img ((List.range x.cells).map (x.move s)) p = p.map (x.move s) :=
  List.map_congr_left fun c hc => tab_at (hp c hc)
theorem img_folds {x : Box} (g : Good x) {t s p : List Nat} (ht : t ∈ tabs x) (hp : p ∈ x.folds s) : img t p ∈ x.folds s :=
  (tabs_keep g ht).folds (Nat.le_trans (by decide) g.n2) hp
/-- the least image of a path, told by what it is; ks: the tables in any order -/
structure IsLeast (x : Box) (p m : List Nat) : Prop where
  is : ∃ t ∈ tabs x, img t p = m
  le : ∀ t ∈ tabs x, less (img t p) m = false
theorem folds_lt {x : Box} (g : Good x) {s p : List Nat} (hp : p ∈ x.folds s) : ∀ c ∈ p, c < x.cells := ((mem_folds (Nat.le_trans (by decide) g.n2)).mp hp).2.1.lt
theorem isFirst_iff {x : Box} {p : List Nat} (hp : ∀ c ∈ p, c < x.cells) : x.isFirst p = true ↔ ∀ t ∈ tabs x, less (img t p) p = false := by
  unfold Box.isFirst
  rw [List.all_eq_true]
  constructor
  · intro h t ht
    obtain ⟨s, hs, rfl⟩ := mem_tabs.mp ht
    have q := h s hs
    rw [img_move hp]
    simpa using q
  · intro h s hs
    have q := h _ (mem_tabs.mpr ⟨s, hs, rfl⟩)
    rw [img_move hp] at q
    rw [q]
    rfl
theorem first_iff {x : Box} (g : Good x) {s m : List Nat} : m ∈ (x.folds s).filter x.isFirst ↔ ∃ p ∈ x.folds s, IsLeast x p m := by
  rw [List.mem_filter]
  constructor
  · rintro ⟨h1, h2⟩
    have hl := folds_lt g h1
    exact ⟨m, h1, ⟨_, tabs_one g, img_one hl⟩, (isFirst_iff hl).mp h2⟩
  · rintro ⟨p, hp, ⟨t, ht, rfl⟩, hle⟩
    have hl := folds_lt g hp
    have hf := img_folds g ht hp
    refine ⟨hf, (isFirst_iff (folds_lt g hf)).mpr fun f hf' => ?_⟩
    rw [img_img (tab_len ht) hl]
    exact hle _ (tabs_mul g hf' ht)
theorem sub_len {α : Type} [DecidableEq α] : ∀ {l m : List α}, l.Nodup → (∀ a ∈ l, a ∈ m) → l.length ≤ m.length
  | [], _, _, _ => Nat.zero_le _
  | a :: l, m, nd, h => by
    obtain ⟨n1, n2⟩ := List.nodup_cons.mp nd
    have hm := h a (List.mem_cons_self ..)
    have q : l.length ≤ (m.erase a).length := sub_len n2 fun b hb => (List.mem_erase_of_ne (fun (e : b = a) => n1 (by rw [← e]; exact hb))).mpr (h b (List.mem_cons_of_mem _ hb))
    rw [List.length_erase_of_mem hm] at q
    have : 0 < m.length := List.length_pos_of_mem hm
    rw [List.length_cons]
    omega
theorem same_len {α : Type} [DecidableEq α] {l m : List α} (h1 : l.Nodup) (h2 : m.Nodup) (h : ∀ a, a ∈ l ↔ a ∈ m) : l.length = m.length :=
  Nat.le_antisymm (sub_len h1 fun a ha => (h a).mp ha) (sub_len h2 fun a ha => (h a).mpr ha)
/-- how many kinds of foldings: the distinct least images -/
theorem ways_eq {x : Box} (g : Good x) {s : List Nat} {ks : List (List Nat)} (nd : ks.Nodup) (h : ∀ m, m ∈ ks ↔ ∃ p ∈ x.folds s, IsLeast x p m) : ks.length = x.ways s := by
  unfold Box.ways
  refine same_len nd ?_ fun m => (h m).trans (first_iff g).symm
  exact ((nodup_all x).filter _).filter _
theorem IsLeast.uniq {x : Box} {p m m' : List Nat} (h : IsLeast x p m) (h' : IsLeast x p m') : m = m' := by
  obtain ⟨t, ht, rfl⟩ := h.is
  obtain ⟨t', ht', rfl⟩ := h'.is
  rcases less_total (img t p) (img t' p) with k | k | k
  · rw [h'.le t ht] at k; cases k
  · exact k
  · rw [h.le t' ht'] at k; cases k
/-- the first least of a row of rows, as a fold -/
theorem min_fold : ∀ (l : List (List Nat)) (a : List Nat), (l.foldl (fun a y => if less y a = true then y else a) a = a ∨ l.foldl (fun a y => if less y a = true then y else a) a ∈ l) ∧
    less a (l.foldl (fun a y => if less y a = true then y else a) a) = false ∧ ∀ y ∈ l, less y (l.foldl (fun a y => if less y a = true then y else a) a) = false
  | [], a => ⟨.inl rfl, less_irrefl a, fun y hy => by cases hy⟩
  | z :: l, a => by
    have step : ∀ b, (less a b = false ∨ b = a) → True := fun _ _ => trivial
    rw [List.foldl_cons]
    by_cases h : less z a = true
    · rw [if_pos h]
      obtain ⟨h1, h2, h3⟩ := min_fold l z
      refine ⟨.inr ?_, ?_, fun y hy => ?_⟩
      · rcases h1 with e | e
        · rw [e]; exact List.mem_cons_self ..
        · exact List.mem_cons_of_mem _ e
      · cases e : less a (l.foldl (fun a y => if less y a = true then y else a) z) with
        | false => rfl
        | true =>
          have := less_trans h e
          rw [h2] at this
          cases this
      · rcases List.mem_cons.mp hy with e | e
        · rw [e]; exact h2
        · exact h3 y e
    · rw [if_neg h]
      obtain ⟨h1, h2, h3⟩ := min_fold l a
      refine ⟨?_, h2, fun y hy => ?_⟩
      · rcases h1 with e | e
        · exact .inl e
        · exact .inr (List.mem_cons_of_mem _ e)
      · rcases List.mem_cons.mp hy with e | e
        · rw [e]
          have h' : less z a = false := by simpa using h
          cases q : less z (l.foldl (fun a y => if less y a = true then y else a) a) with
          | false => rfl
          | true =>
            rcases not_less h' with k | k
            · rw [k, h2] at q; cases q
            · have := less_trans k q
              rw [h2] at this
              cases this
        · exact h3 y e
end CC
end
section
set_option autoImplicit false
set_option Elab.async false
set_option maxRecDepth 100000
namespace CC
open Uw55
/-! ### how many paths -/
theorem beside_comm (x : Box) (k l : Nat) : x.beside k l = x.beside l k := by
  have e : far (x.step_ k l) = far (x.step_ l k) := by
    simp only [Box.step_, far, List.map_cons, List.map_nil, List.foldl_cons, List.foldl_nil]
    omega
  unfold Box.beside
  rw [e]
theorem flat_len {α β : Type} {f : α → List β} {c : Nat} : ∀ {l : List α}, (∀ a ∈ l, (f a).length ≤ c) → (l.flatMap f).length ≤ c * l.length
  | [], _ => by simp
  | a :: l, h => by
    rw [List.flatMap_cons, List.length_append, List.length_cons, Nat.mul_succ]
    have h1 := h a (List.mem_cons_self ..)
    have h2 := flat_len (f := f) (c := c) (l := l) fun b hb => h b (List.mem_cons_of_mem _ hb)
    omega
theorem nbs_len {x : Box} (g : Good x) {c : Nat} (h : c < x.cells) : (nbs x c).length ≤ 4 := by
  have q := List.all_eq_true.mp (each4_of chkD_all x g) c (List.mem_range.mpr h)
  exact of_decide_eq_true q
theorem extF_len4 {x : Box} (g : Good x) {p : List Nat} (hp : IsP x p) (hl : 1 ≤ p.length) : (extF x p).length ≤ 4 := by
  unfold extF
  rw [List.length_map]
  have hne : p ≠ [] := fun e => by rw [e] at hl; simp at hl
  have hc : p.getLastD 0 < x.cells := by
    rw [List.getLastD_eq_getLast?, List.getLast?_eq_some_getLast hne]
    exact hp.lt _ (List.getLast_mem hne)
  exact Nat.le_trans (List.length_filter_le _ _) (nbs_len g hc)
theorem extF_len3 {x : Box} (g : Good x) {p : List Nat} (hp : IsP x p) (hl : 2 ≤ p.length) : (extF x p).length ≤ 3 := by
  unfold extF
  rw [List.length_map]
  have hne : p ≠ [] := fun e => by rw [e] at hl; simp at hl
  have e := List.dropLast_concat_getLast hne
  have hdl : p.dropLast.length = p.length - 1 := List.length_dropLast
  have hne2 : p.dropLast ≠ [] := fun z => by rw [z] at hdl; simp at hdl; omega
  have hlast : p.getLastD 0 = p.getLast hne := by rw [List.getLastD_eq_getLast?, List.getLast?_eq_some_getLast hne]; rfl
  have hp' := hp
  rw [← e] at hp'
  obtain ⟨i1, h1, h2, h3⟩ := (IsP.snoc hne2).mp hp'
  rw [hlast]
  have hd : p.dropLast.getLastD 0 ∈ p.dropLast := by
    rw [List.getLastD_eq_getLast?, List.getLast?_eq_some_getLast hne2]
    exact List.getLast_mem hne2
  have hd2 : p.dropLast.getLastD 0 ∈ p := (List.dropLast_sublist p).subset hd
  have hlt : ((nbs x (p.getLast hne)).filter fun c => !p.contains c).length < (nbs x (p.getLast hne)).length := by
    refine List.length_filter_lt_length_iff_exists.mpr ⟨p.dropLast.getLastD 0, mem_nbs.mpr ⟨hp.lt _ hd2, ?_⟩, ?_⟩
    · rw [beside_comm]; exact h2
    · simpa using hd2
  have := nbs_len g h1
  omega
theorem plv_len {x : Box} (g : Good x) : ∀ k, (plv x (k + 1)).length ≤ 48 * 3 ^ k
  | 0 => by
    have h : (plv x 1).length ≤ 4 * (plv x 0).length := flat_len fun p hp => by
      obtain ⟨h1, h2⟩ := mem_plv.mp hp
      exact extF_len4 g h2 (by omega)
    have h0 : (plv x 0).length = x.cells := by
      show ((List.range x.cells).map _).length = _
      rw [List.length_map, List.length_range]
    have := g.n12
    show (plv x 1).length ≤ 48 * 3 ^ 0
    omega
  | k + 1 => by
    have h : (plv x (k + 2)).length ≤ 3 * (plv x (k + 1)).length := flat_len fun p hp => by
      obtain ⟨h1, h2⟩ := mem_plv.mp hp
      exact extF_len3 g h2 (by omega)
    have ih := plv_len g k
    rw [Nat.pow_succ]
    show (plv x (k + 2)).length ≤ _
    omega
theorem plv_small {x : Box} (g : Good x) {k : Nat} (h : k < x.cells) : (plv x k).length ≤ 3000000 := by
  have hn := g.n12
  match k, h with
  | 0, _ =>
    have h0 : (plv x 0).length = x.cells := by
      show ((List.range x.cells).map _).length = _
      rw [List.length_map, List.length_range]
    omega
  | k + 1, h =>
    have h1 := plv_len g k
    have h2 : 3 ^ k ≤ 3 ^ 10 := Nat.pow_le_pow_right (by decide) (by omega)
    have h3 : 48 * 3 ^ 10 ≤ 3000000 := by decide
    omega
/-! the whole paths, counted -/
theorem nth_map {f : Nat → List Nat} : ∀ {l : List Nat} {k c : Nat}, l[k]? = some c → nth (l.map f) k = f c
  | [], _, _, h => by simp at h
  | a :: l, 0, c, h => by
    have e : a = c := by simpa using h
    rw [← e]
    rfl
  | a :: l, k + 1, c, h => nth_map (l := l) (k := k) (by simpa using h)
theorem nth_nbs {x : Box} {c : Nat} (h : c < x.cells) : nth ((List.range x.cells).map (nbs x)) c = nbs x c := nth_map (List.getElem?_range h)
def Mask (x : Box) (m : Nat) (p : List Nat) : Prop := ∀ c, c < x.cells → (m.testBit c = true ↔ c ∈ p)
theorem bit_clear {m c : Nat} : Nat.beq (Nat.land (Nat.shiftRight m c) 1) 0 = !m.testBit c := by
  unfold Nat.testBit
  have e : Nat.land (Nat.shiftRight m c) 1 = 1 &&& (m >>> c) := Nat.and_comm _ _
  rw [e]
  cases h : (1 &&& (m >>> c)) with
  | zero => rfl
  | succ n => rfl
theorem Mask.put {x : Box} {m c : Nat} {p : List Nat} (h : Mask x m p) : Mask x (Nat.lor m (Nat.shiftLeft 1 c)) (c :: p) := fun d hd => by
  have e : (Nat.lor m (Nat.shiftLeft 1 c)).testBit d = (m.testBit d || decide (c = d)) := by
    show (m ||| 1 <<< c).testBit d = _
    rw [Nat.testBit_or, Nat.one_shiftLeft, Nat.testBit_two_pow]
  rw [e, Bool.or_eq_true, h d hd, decide_eq_true_eq, List.mem_cons]
  constructor
  · rintro (q | q)
    · exact .inr q
    · exact .inl q.symm
  · rintro (q | q)
    · exact .inr q.symm
    · exact .inl q
theorem Mask.one {x : Box} (c : Nat) : Mask x (Nat.shiftLeft 1 c) [c] := fun d _ => by
  have e : (Nat.shiftLeft 1 c).testBit d = decide (c = d) := by
    show (1 <<< c).testBit d = _
    rw [Nat.one_shiftLeft, Nat.testBit_two_pow]
  rw [e, decide_eq_true_eq]
  simp [eq_comm]
theorem ful_grow {x : Box} : ∀ (k : Nat) (p : List Nat) (m : Nat), Mask x m p → p.headD 0 < x.cells → (x.grow k p).length = ful ((List.range x.cells).map (nbs x)) k (p.headD 0) m
  | 0, p, m, _, _ => rfl
  | k + 1, p, m, hm, hp => by
    have key : ∀ l : List Nat, (∀ c ∈ l, c < x.cells) → ((l.filter fun c => !p.contains c).flatMap fun c => x.grow k (c :: p)).length = fulL (ful ((List.range x.cells).map (nbs x)) k) m l := by
      intro l
      induction l with
      | nil => intro _; rfl
      | cons c l ih =>
        intro hl
        have ih := ih fun d hd => hl d (List.mem_cons_of_mem _ hd)
        have hc := hl c (List.mem_cons_self ..)
        unfold fulL
        rw [bit_clear]
        by_cases h : c ∈ p
        · have e : m.testBit c = true := (hm c hc).mpr h
          rw [e, List.filter_cons_of_neg (by simpa using h), ih]
          show _ = 0 + _
          rw [Nat.zero_add]
        · have e : m.testBit c = false := by
            cases q : m.testBit c with
            | false => rfl
            | true => exact absurd ((hm c hc).mp q) h
          rw [e, List.filter_cons_of_pos (by simpa using h), List.flatMap_cons, List.length_append, ih, ful_grow k (c :: p) _ hm.put hc]
          rfl
    have e : x.grow (k + 1) p = (((nbs x (p.headD 0)).filter fun c => !p.contains c).flatMap fun c => x.grow k (c :: p)) := by
      show List.flatMap _ _ = _
      unfold nbs
      rw [List.filter_filter]
      congr 2
      funext c
      rw [Bool.and_comm]
    rw [e, key _ fun c hc => (mem_nbs.mp hc).1]
    show _ = fulL _ m (nth _ _)
    rw [nth_nbs hp]
theorem fulS_len {x : Box} {k : Nat} : ∀ l : List Nat, (∀ c ∈ l, c < x.cells) → (l.flatMap fun c => x.grow k [c]).length = fulS ((List.range x.cells).map (nbs x)) k l
  | [], _ => rfl
  | c :: l, h => by
    rw [List.flatMap_cons, List.length_append, fulS_len l fun d hd => h d (List.mem_cons_of_mem _ hd), ful_grow k [c] _ (Mask.one c) (h c (List.mem_cons_self ..))]
    rfl
theorem all_len {x : Box} (g : Good x) : x.all.length ≤ 3000 := by
  have h := each4_of chkN_all x g
  unfold chkN at h
  have h := Nat.le_of_ble_eq_true h
  rw [← fulS_len _ fun c hc => List.mem_range.mp hc] at h
  exact h
theorem folds_len {x : Box} (g : Good x) (s : List Nat) : (x.folds s).length ≤ 3000 := Nat.le_trans (List.length_filter_le _ _) (all_len g)
end CC
end
section
set_option autoImplicit false
set_option Elab.async false
set_option maxRecDepth 100000
namespace CC
open Uw55
/-! ### the nearest chains -/
structure NearI (s : List Nat) (pre : List (List Nat)) (n : Near) : Prop where
  mem : n.chain ∈ pre
  ap : apart s n.chain = n.changes
  le : ∀ u ∈ pre, n.changes ≤ apart s u
  many : n.many = (pre.filter fun u => apart s u == n.changes).length
  fst : ∀ u ∈ pre, apart s u = n.changes → u = n.chain ∨ less n.chain u = true
def nearF (s : List Nat) (b : Option Near) (t : List Nat) : Option Near := let d := apart s t
  match b with
  | none => some ⟨d, 1, t⟩
  | some n => if d < n.changes then some ⟨d, 1, t⟩ else if d = n.changes then some { n with many := n.many + 1 } else some n
theorem near_go (s : List Nat) : ∀ (l pre : List (List Nat)) (n : Near), NearI s pre n → Sorted (pre ++ l) → ∃ n', l.foldl (nearF s) (some n) = some n' ∧ NearI s (pre ++ l) n'
  | [], pre, n, I, _ => ⟨n, rfl, by rw [List.append_nil]; exact I⟩
  | t :: l, pre, n, I, hs => by
    have hs' : Sorted ((pre ++ [t]) ++ l) := by rw [List.append_assoc]; exact hs
    have hlt : ∀ u ∈ pre, less u t = true := fun u hu => (List.pairwise_append.mp hs).2.2 u hu t (List.mem_cons_self ..)
    have fin : ∀ n', NearI s (pre ++ [t]) n' → nearF s (some n) t = some n' → ∃ n', (t :: l).foldl (nearF s) (some n) = some n' ∧ NearI s (pre ++ t :: l) n' := fun n' I' e => by
      obtain ⟨n2, e2, I2⟩ := near_go s l (pre ++ [t]) n' I' hs'
      refine ⟨n2, by rw [List.foldl_cons, e]; exact e2, ?_⟩
      rw [List.append_assoc] at I2
      exact I2
    have mem1 : ∀ {u}, u ∈ pre ++ [t] → u ∈ pre ∨ u = t := fun {u} hu => by simpa using hu
    by_cases h1 : apart s t < n.changes
    · refine fin ⟨apart s t, 1, t⟩ ⟨by simp, rfl, fun u hu => ?_, ?_, fun u hu e => ?_⟩ (by show (if _ then _ else _) = _; rw [if_pos h1])
      · rcases mem1 hu with h | h
        · exact Nat.le_of_lt (Nat.lt_of_lt_of_le h1 (I.le u h))
        · rw [h]; exact Nat.le_refl _
      · rw [List.filter_append]
        have e : pre.filter (fun u => apart s u == apart s t) = [] := List.filter_eq_nil_iff.mpr fun u hu q => by
          have := I.le u hu
          have := eq_of_beq q
          omega
        show 1 = (List.filter (fun u => apart s u == apart s t) pre ++ _).length
        rw [e]
        simp
      · rcases mem1 hu with h | h
        · have := I.le u h
          have e : apart s u = apart s t := e
          omega
        · exact .inl h
    · by_cases h2 : apart s t = n.changes
      · refine fin { n with many := n.many + 1 } ⟨List.mem_append_left _ I.mem, I.ap, fun u hu => ?_, ?_, fun u hu e => ?_⟩ (by show (if _ then _ else if _ then _ else _) = _; rw [if_neg h1, if_pos h2])
        · rcases mem1 hu with h | h
          · exact I.le u h
          · rw [h, h2]; exact Nat.le_refl _
        · rw [List.filter_append, List.length_append]
          show n.many + 1 = (List.filter (fun u => apart s u == n.changes) pre).length + _
          rw [← I.many]
          simp [h2]
        · rcases mem1 hu with h | h
          · exact I.fst u h e
          · rw [h]; exact .inr (hlt _ I.mem)
      · refine fin n ⟨List.mem_append_left _ I.mem, I.ap, fun u hu => ?_, ?_, fun u hu e => ?_⟩ (by show (if _ then _ else if _ then _ else _) = _; rw [if_neg h1, if_neg h2])
        · rcases mem1 hu with h | h
          · exact I.le u h
          · rw [h]; omega
        · rw [List.filter_append, List.length_append, ← I.many]
          have : (apart s t == n.changes) = false := by simpa using h2
          simp [this]
        · rcases mem1 hu with h | h
          · exact I.fst u h e
          · rw [h] at e; exact absurd e h2
theorem near_spec (x : Box) (s : List Nat) (h : x.chains ≠ []) : ∃ n, x.nearest s = some n ∧ NearI s x.chains n := by
  have hs := chains_sorted x
  unfold Box.nearest
  show ∃ n, x.chains.foldl (nearF s) none = some n ∧ _
  cases e : x.chains with
  | nil => exact absurd e h
  | cons t l =>
    rw [e] at hs
    obtain ⟨n, h1, h2⟩ := near_go s l [t] ⟨apart s t, 1, t⟩ ⟨by simp, rfl, fun u hu => by rw [List.mem_singleton.mp hu]; exact Nat.le_refl _, by simp, fun u hu _ => .inl (List.mem_singleton.mp hu)⟩ hs
    exact ⟨n, h1, h2⟩
/-- what the program finds is that -/
theorem near_is {x : Box} {s : List Nat} {n : Near} {t : List Nat} (I : NearI s x.chains n) (ht : t ∈ x.chains) (h1 : ∀ u ∈ x.chains, apart s t ≤ apart s u) (h2 : ∀ u ∈ x.chains, apart s u = apart s t → less u t = false) : n.changes = apart s t ∧ n.chain = t := by
  have a := I.le t ht
  have b := h1 _ I.mem
  rw [I.ap] at b
  have e : n.changes = apart s t := Nat.le_antisymm a b
  refine ⟨e, ?_⟩
  rcases I.fst t ht e.symm with k | k
  · exact k.symm
  · have := h2 _ I.mem (I.ap.trans e)
    rw [k] at this
    cases this
theorem apart_eq : ∀ (s t : List Nat), s.length = t.length → apart s t = ((List.range s.length).filter fun k => decide (s.getD k 0 ≠ t.getD k 0)).length
  | [], [], _ => rfl
  | a :: s, b :: t, h => by
    have ih := apart_eq s t (by simpa using h)
    unfold apart at ih ⊢
    rw [List.zip_cons_cons, List.length_cons, List.range_succ_eq_map, List.filter_cons, List.filter_cons, List.filter_map]
    have e : ((fun k => decide ((a :: s).getD k 0 ≠ (b :: t).getD k 0)) ∘ Nat.succ) = fun k => decide (s.getD k 0 ≠ t.getD k 0) := rfl
    rw [e]
    by_cases c : a = b
    · have h1 : ((a, b).fst != (a, b).snd) = false := by simpa using c
      have h2 : decide ((a :: s).getD 0 0 ≠ (b :: t).getD 0 0) = false := by simpa using c
      rw [h1, h2, if_neg (by decide), if_neg (by decide), List.length_map, ih]
    · have h1 : ((a, b).fst != (a, b).snd) = true := by simpa using c
      have h2 : decide ((a :: s).getD 0 0 ≠ (b :: t).getD 0 0) = true := by simpa using c
      rw [h1, h2, if_pos rfl, if_pos rfl, List.length_cons, List.length_cons, List.length_map, ih]
/-! ### turns -/
theorem chain_len (x : Box) (p : List Nat) : (x.chain p).length = p.length - 2 := by
  unfold Box.chain
  rw [List.length_map, List.length_range]
theorem chain_01 (x : Box) (p : List Nat) : ∀ z ∈ x.chain p, z ≤ 1 := fun z hz => by
  unfold Box.chain at hz
  obtain ⟨i, _, rfl⟩ := List.mem_map.mp hz
  split <;> omega
theorem chains_len {x : Box} (g : Good x) {s : List Nat} (h : s ∈ x.chains) : s.length = x.cells - 2 := by
  obtain ⟨p, hp, rfl⟩ := mem_chains.mp h
  rw [chain_len, ((mem_all (Nat.le_trans (by decide) g.n2)).mp hp).1]
theorem chains_01 {x : Box} {s : List Nat} (h : s ∈ x.chains) : ∀ z ∈ s, z ≤ 1 := by
  obtain ⟨p, hp, rfl⟩ := mem_chains.mp h
  exact chain_01 x p
theorem sum_turns : ∀ s : List Nat, (∀ z ∈ s, z ≤ 1) → s.sum = turns s
  | [], _ => rfl
  | z :: s, h => by
    have ih := sum_turns s fun y hy => h y (List.mem_cons_of_mem _ hy)
    have hz := h z (List.mem_cons_self ..)
    unfold turns at ih ⊢
    rw [List.sum_cons, ih, List.filter_cons]
    by_cases e : z = 1
    · subst e
      simp
      omega
    · have : z = 0 := by omega
      subst this
      simp
theorem sum_cast : ∀ s : List Nat, (s.map fun n : Nat => (n : Int)).sum = ((s.sum : Nat) : Int)
  | [] => rfl
  | z :: s => by
    rw [List.map_cons, List.sum_cons, sum_cast s, List.sum_cons]
    omega
theorem min_is {t m : Nat} {r : List Nat} (h1 : m ∈ t :: r) (h2 : ∀ y ∈ t :: r, m ≤ y) : r.foldl Nat.min t = m := by
  have key : ∀ (r : List Nat) (t : Nat), (r.foldl Nat.min t ∈ t :: r) ∧ ∀ y ∈ t :: r, r.foldl Nat.min t ≤ y := by
    intro r
    induction r with
    | nil => intro t; exact ⟨by simp, fun y hy => by rw [List.mem_singleton.mp hy]; exact Nat.le_refl _⟩
    | cons a r ih =>
      intro t
      obtain ⟨k1, k2⟩ := ih (Nat.min t a)
      rw [List.foldl_cons]
      have hm : Nat.min t a = t ∨ Nat.min t a = a := by have : Nat.min t a = min t a := rfl; omega
      have hle : Nat.min t a ≤ t ∧ Nat.min t a ≤ a := by have : Nat.min t a = min t a := rfl; omega
      have h0 := k2 _ (List.mem_cons_self ..)
      refine ⟨?_, fun y hy => ?_⟩
      · rcases List.mem_cons.mp k1 with e | e
        · rw [e]
          rcases hm with q | q
          · rw [q]; simp
          · rw [q]; simp
        · exact List.mem_cons_of_mem _ (List.mem_cons_of_mem _ e)
      · rcases List.mem_cons.mp hy with e | e
        · rw [e]; omega
        · rcases List.mem_cons.mp e with e | e
          · rw [e]; omega
          · exact k2 y (List.mem_cons_of_mem _ e)
  obtain ⟨k1, k2⟩ := key r t
  exact Nat.le_antisymm (k2 m h1) (h2 _ k1)
theorem max_is {t m : Nat} {r : List Nat} (h1 : m ∈ t :: r) (h2 : ∀ y ∈ t :: r, y ≤ m) : r.foldl Nat.max t = m := by
  have key : ∀ (r : List Nat) (t : Nat), (r.foldl Nat.max t ∈ t :: r) ∧ ∀ y ∈ t :: r, y ≤ r.foldl Nat.max t := by
    intro r
    induction r with
    | nil => intro t; exact ⟨by simp, fun y hy => by rw [List.mem_singleton.mp hy]; exact Nat.le_refl _⟩
    | cons a r ih =>
      intro t
      obtain ⟨k1, k2⟩ := ih (Nat.max t a)
      rw [List.foldl_cons]
      have hm : Nat.max t a = t ∨ Nat.max t a = a := by have : Nat.max t a = max t a := rfl; omega
      have hle : t ≤ Nat.max t a ∧ a ≤ Nat.max t a := by have : Nat.max t a = max t a := rfl; omega
      have h0 := k2 _ (List.mem_cons_self ..)
      refine ⟨?_, fun y hy => ?_⟩
      · rcases List.mem_cons.mp k1 with e | e
        · rw [e]
          rcases hm with q | q
          · rw [q]; simp
          · rw [q]; simp
        · exact List.mem_cons_of_mem _ (List.mem_cons_of_mem _ e)
      · rcases List.mem_cons.mp hy with e | e
        · rw [e]; omega
        · rcases List.mem_cons.mp e with e | e
          · rw [e]; omega
          · exact k2 y (List.mem_cons_of_mem _ e)
  obtain ⟨k1, k2⟩ := key r t
  exact Nat.le_antisymm (h2 _ k1) (k2 m h1)
theorem count_cast (l : List Nat) (m : Nat) : (l.map fun n : Nat => (n : Int)).count (m : Int) = (l.filter fun n => n == m).length := by
  induction l with
  | nil => rfl
  | cons a l ih =>
    rw [List.map_cons, List.count_cons, ih, List.filter_cons]
    by_cases e : a = m
    · subst e
      simp
    · have h1 : ((a : Int) == (m : Int)) = false := by
        rw [beq_eq_false_iff_ne]
        omega
      have h2 : (a == m) = false := by simpa using e
      rw [h1, h2]
      simp
/-! ### rising rows of whole numbers -/
theorem rise_ext : ∀ {l m : List Int}, l.Pairwise (· < ·) → m.Pairwise (· < ·) → (∀ s, s ∈ l ↔ s ∈ m) → l = m
  | [], [], _, _, _ => rfl
  | [], y :: m, _, _, h => absurd ((h y).mpr (List.mem_cons_self ..)) (by simp)
  | x :: l, [], _, _, h => absurd ((h x).mp (List.mem_cons_self ..)) (by simp)
  | x :: l, y :: m, hl, hm, h => by
    obtain ⟨l1, l2⟩ := List.pairwise_cons.mp hl
    obtain ⟨m1, m2⟩ := List.pairwise_cons.mp hm
    have e : x = y := by
      rcases List.mem_cons.mp ((h x).mp (List.mem_cons_self ..)) with e | hx
      · exact e
      · rcases List.mem_cons.mp ((h y).mpr (List.mem_cons_self ..)) with e | hy
        · exact e.symm
        · have a := m1 x hx
          have b := l1 y hy
          omega
    subst e
    rw [rise_ext l2 m2 fun s => ?_]
    constructor
    · intro hs
      rcases List.mem_cons.mp ((h s).mp (List.mem_cons_of_mem _ hs)) with e | k
      · have := l1 s hs
        omega
      · exact k
    · intro hs
      rcases List.mem_cons.mp ((h s).mpr (List.mem_cons_of_mem _ hs)) with e | k
      · have := m1 s hs
        omega
      · exact k
theorem range_rise (n : Nat) (q : Nat → Bool) : (((List.range n).filter q).map fun k : Nat => (k : Int)).Pairwise (· < ·) := by
  refine List.pairwise_map.mpr (List.Pairwise.imp (fun {a b} (h : a < b) => ?_) (List.Pairwise.filter q (List.pairwise_lt_range (n := n))))
  omega
/-! ### the first fault -/
def wrongAt (x : Box) (p : List Nat) (i : Nat) : Bool := decide (x.cells ≤ p.getD i 0) || ((p.take i).contains (p.getD i 0) || (decide (0 < i) && !x.beside (p.getD (i - 1) 0) (p.getD i 0)))
theorem fault_some {x : Box} {p : List Nat} {i : Nat} (hi : i < p.length) (h : wrongAt x p i = true) (hb : ∀ j, j < i → wrongAt x p j = false) : x.fault p = some i := by
  unfold Box.fault
  refine List.find?_range_eq_some.mpr ⟨h, List.mem_range.mpr hi, fun j hj => ?_⟩
  have := hb j hj
  unfold wrongAt at this
  rw [this]
  rfl
theorem fault_none {x : Box} {p : List Nat} (hb : ∀ j, j < p.length → wrongAt x p j = false) : x.fault p = none := by
  unfold Box.fault
  refine List.find?_eq_none.mpr fun j hj => ?_
  have := hb j (List.mem_range.mp hj)
  unfold wrongAt at this
  rw [this]
  decide
end CC
end
section
set_option Elab.async false
set_option linter.all false
set_option maxRecDepth 100000
set_option maxHeartbeats 2000000
/-! Rules that the layer lacks. -/
namespace CC
open PySem PySem.Spec PyProof.Rows L2
section
variable {X : Cx}
/-- sum(t), t a tuple of whole numbers -/
def rSumT (K : PySem.W.Frag) : List V → Hp → VK → Prop := fun vs H Q => ∃ (a : Addr) (ns : List Int), vs = [V.ref a] ∧ SqT K H a (ns.map V.int) ∧ Q (.int ns.sum) H
theorem cr_sumT (hc : X.calm = true) : CallR X (.builtin "sum") (rSumT X.K) := by
  intro pins s σ H vs us Q I r h
  obtain ⟨a, ns, rfl, hs, q⟩ := h
  obtain ⟨its, rv, ht, _⟩ := I.tuple hs
  rw [Vals.ref1 r]
  have hi := rv.ints
  obtain ⟨ps, e⟩ := hi.allInts.items
  have hn : numsOf (intItems ps).toList = ns := by rw [← e]; exact hi.numsOf
  rw [nums_intItems] at hn
  rw [e] at ht
  refine PySem.W.ktm_sumG (I.ok.hd hc) ht fun h' tk t' hk => ?_
  rw [preSum_eq, List.take_of_length_le (by simp), hn]
  exact ⟨.int _, H, I.kept hk, ⟨_, rfl⟩, q⟩
/-- min(xs), xs a list of alike data: an item that is the least -/
def rMinD (K : PySem.W.Frag) : List V → Hp → VK → Prop := fun vs H Q => ∃ (a : Addr) (ws : List V) (x : PyData) (xs : List PyData), vs = [V.ref a] ∧ SqL K H a ws ∧ DpAll K H ws (x :: xs) ∧ PySem.W.AlikeAll (x :: xs) ∧ PyData.depthAll (x :: xs) ≤ 60 ∧
  ∀ (i : Nat) (u : V), ws[i]? = some u → (x :: xs).getD i .none = PySem.W.minD x xs → Q u H
theorem cr_minD (hc : X.calm = true) (hu : X.A.units + 64 < cLine) : CallR X (.builtin "min") (rMinD X.K) := by
  intro pins s σ H vs us Q I r h
  obtain ⟨a, ws, x, xs, rfl, hs, hd, ha, hdp, q⟩ := h
  obtain ⟨its, rv, hl, _⟩ := I.list hs
  rw [Vals.ref1 r]
  obtain ⟨as, hr⟩ := Dp.readsAll I _ _ its hd rv
  have hr' : ReadsAll s.heap its.toArray.toList (x :: xs) as := hr
  have hn : its.toArray.size = xs.length + 1 := PySem.W.readsAll_len hr'
  have hh := I.ok.hd hc
  refine call_min_walkH (PySem.W.iter_listW (A := X.A.in1) hh hl.isList fun s2 e W st hfp hw hk => ?_)
  refine ⟨_, _, _, _, _, _, _, s.heap, _, rfl, W, st, hfp, by omega, hw, hk, PySem.W.cmpIn_lt (A := X.A.in1) hr' ha (by show X.A.units + 1 + _ < _; omega), fun v s' hP m => ?_⟩
  obtain ⟨h', tk, rfl, hk'⟩ := PySem.W.moved_old e rfl m
  have e2 := (PySem.W.argBest_fold PySem.W.dataLt PyData.none x xs xs.length (Nat.le_refl _)).2
  rw [List.take_length] at e2
  have e1 : its.toArray.size - 1 = xs.length := by omega
  rw [e1] at hP
  generalize hi : argBest (fun i j => PySem.W.dataLt ((x :: xs).getD i .none) ((x :: xs).getD j .none)) xs.length = i at hP e2
  have hP2 : its[i]? = some v := by simpa using hP
  have hlt : i < ws.length := by rw [rv.length]; exact (List.getElem?_eq_some_iff.mp hP2).1
  obtain ⟨u, hu', ru⟩ := rv.get (List.getElem?_eq_getElem hlt)
  rw [hP2] at hu'
  cases hu'
  exact ⟨ws[i], H, I.kept hk', ru, q i _ (List.getElem?_eq_getElem hlt) e2⟩
/-- xs == [], xs a list of anything -/
def rEqN (K : PySem.W.Frag) : R2 := fun x y H Q => ∃ (a b : Addr) (xs : List V), x = .ref a ∧ y = .ref b ∧ SqL K H a xs ∧ SqL K H b [] ∧ Q (.bl xs.isEmpty) H
theorem op_eqN (hu : X.A.units + 64 < cLine) : OpR X (compareOp .Eq) (rEqN X.K) := by
  intro pins s σ H x y v u Q I rx ry h
  obtain ⟨a, b, xs, rfl, rfl, ha, hb, q⟩ := h
  cases rx
  cases ry
  obtain ⟨its, rv, hl, _⟩ := I.list ha
  obtain ⟨its2, rv2, hl2, _⟩ := I.list hb
  cases rv2
  have hlen := rv.length
  cases xs with
  | nil =>
    cases rv
    refine SeqAt.eq_listAt (e := fun _ => true) hl.isList hl2.isList rfl (by omega) (fun j h1 _ => absurd h1 (by simp)) ⟨.bl true, H, I, rfl, q⟩
  | cons z zs =>
    refine SeqAt.eq_list_lengthsAt hl.isList hl2.isList ?_ (by omega) ⟨.bl false, H, I, rfl, q⟩
    rw [List.size_toArray, ← hlen]
    rfl
end
end CC
end
section
set_option Elab.async false
set_option linter.all false
set_option maxRecDepth 100000
set_option maxHeartbeats 2000000
namespace CC
open PySem PySem.Spec PyProof.Rows L2
/-! ### enumerate(t), t a tuple -/
theorem enum1_new {v : Value} {o : Obj} {G : Heap → Prop} (B : Begins v o G) :
    Meets (Builtin.«enumerate.__new__» ⟨[.type "enumerate", v], []⟩) (fun _ R s => G s.heap ∧
      R (.ok (.ret (.ref (s.heap.push o).objs.size))) { s with heap := (s.heap.push o).push { cls := .type "enumerate", data := .fields #[.none, .bool false, .ref s.heap.objs.size, rawInt 0, .none, .none] } }) :=
  .of_wp fun prog w A R s h => by
    obtain ⟨hp, g, d, tk, os⟩ := s
    obtain ⟨h1, h⟩ := h
    have sub1 := sub_enumerate
    have it1 : ∀ {A' : Around} {E : Value → Shared → Prop} {Q : Value → Shared → Prop}, Q (.ref hp.objs.size) ⟨hp.push o, g, d, tk, os⟩ → wpAny (model prog w) A' (pyIter v) Q E ⟨hp, g, d, tk, os⟩ := fun q => B.iter prog w _ _ ⟨hp, g, d, tk, os⟩ _ h1 q
    wp_walk using it1
    refine wpAny_stack_any fun st => wpAny_pure ?_
    split
    · rename_i c _ _ _ _ _
      cases (c == Value.type "enumerate") <;> (wp_walk using it1; exact ⟨_, rfl, h⟩)
    · wp_walk using it1
      exact ⟨_, rfl, h⟩
section
variable {prog : Program} {w : World} {A : Around} {E : Value → Shared → Prop} {s : Shared}
theorem call_enumT {l : Addr} {items : Array Value} {Q : Value → Shared → Prop} (hT : s.heap.IsTuple l items)
    (h : ∀ h', IsEnum h' (s.heap.objs.size + 1) s.heap.objs.size 0 .none → h'.IsTupleIter s.heap.objs.size l 0 → (∀ b o, s.heap.get? b = some o → h'.get? b = some o) → Q (.ref (s.heap.objs.size + 1)) { s with heap := h' }) :
    wpAny (model prog w) A (call (.type "enumerate") [.ref l]) Q E s := by
  refine callType_new F.called_enumerate (by decide) (F.typeCall_enumerate_1 _) (F.newCall_enumerate_1 _) (fun obj => F.args_object_init_2 obj _) F.entry_enumerate_new (enum1_new (begins_tuple l items)) ⟨hT, ?_⟩
  generalize ho : ({ cls := .type "tuple_iterator", data := .fields #[.ref l, .int 0 0] } : Obj) = o
  have hz : (s.heap.push o).objs.size = s.heap.objs.size + 1 := Heap.size_push ..
  have h2 := Heap.get?_push_size (s.heap.push o) (o := { cls := .type "enumerate", data := .fields #[.none, .bool false, .ref s.heap.objs.size, rawInt 0, .none, .none] }) rfl
  show _ ∧ _
  rw [hz] at h2 ⊢
  refine ⟨⟨_, h2, rfl⟩, h _ h2 ⟨o, Heap.get?_push_of_some _ (Heap.get?_push_size _ (by rw [← ho]; rfl)), by rw [← ho], by rw [← ho]; rfl⟩ fun b u e => Heap.get?_push_of_some _ (Heap.get?_push_of_some _ e)⟩
end
/-- the tuple at a, each item in a new pair with its place -/
def Itet (K : PySem.W.Frag) (a : Addr) : It :=
  ⟨fun i H => ∃ (xs : List V) (x : V), SqT K H a xs ∧ xs[i]? = some x, fun i H v H' => ∃ T x, v = .ref T ∧ H T = none ∧ H' = upd H T (.tup [.int (i : Nat), x]) ∧ ∀ xs, SqT K H a xs → xs[i]? = some x, fun i H => ∃ xs : List V, SqT K H a xs ∧ xs.length = i⟩
theorem enum_ne {h : Heap} {e it a : Addr} {i : Int} {old : Value} {items : Array Value} (he : IsEnum h e it i old) (ht : h.IsTuple a items) : e ≠ a := fun z => by
  obtain ⟨o, ho, hc, _⟩ := ht
  rw [← z] at ho
  have he' := he.symm.trans ho
  cases he'
  exact absurd (Value.type.inj hc) (by decide)
theorem tupIter_ne {h : Heap} {it a : Addr} {i : Nat} {items : Array Value} (hi : h.IsTupleIter it a i) (ht : h.IsTuple a items) : a ≠ it := fun z => by
  obtain ⟨o, ho, hc, _⟩ := ht
  obtain ⟨o', ho', hc', _⟩ := hi
  rw [z] at ho
  rw [ho] at ho'
  cases ho'
  rw [hc] at hc'
  exact absurd (Value.type.inj hc') (by decide)
theorem turn_enumT {P : Program} {w : World} {K : PySem.W.Frag} {elts : List Expr} {kk : Nat} {tpos : Pos} (a e it : Addr) :
    Turn P w K (.Tuple elts kk tpos) (Itet K a) [e, it] e (fun i h => (∃ old, IsEnum h e it ((i : Nat) : Int) old) ∧ h.IsTupleIter it a i ∧ e ≠ it) where
  mem := by simp
  obj := fun i h st b hb => by
    obtain ⟨⟨old, he⟩, ⟨o, ho, hc, hd⟩, _⟩ := st
    rcases (by simpa using hb : b = e ∨ b = it) with rfl | rfl
    · exact ⟨_, he, fun v q => nomatch q⟩
    · exact ⟨o, ho, fun v q => by rw [hd] at q; cases q⟩
  keep := fun i h h' st k => by
    obtain ⟨⟨old, he⟩, hi, hne⟩ := st
    exact ⟨⟨old, k e (by simp) _ he⟩, hi.at fun o q => k it (by simp) o q, hne⟩
  item := by
    intro X hP hw hK hc i pins s σ H E I hf st hg
    subst hP hw hK
    obtain ⟨⟨old, he⟩, hit, hne⟩ := st
    obtain ⟨xs, x, hq, hx⟩ := hg
    obtain ⟨its, rv, p, hz⟩ := I.tuple hq
    obtain ⟨u, hu, ru⟩ := rv.get hx
    have hel : e < s.heap.objs.size := Heap.lt_size he
    have hil : it < s.heap.objs.size := by obtain ⟨_, q, _⟩ := hit; exact Heap.lt_size q
    have nai := tupIter_ne hit p
    have nea := enum_ne he p
    have hlt : i < its.toArray.size := by simpa using (List.getElem?_eq_some_iff.mp hu).1
    refine wpAny_pyNext_enum_itemD (Draws.tuple (A := X.A.in1) (I.ok.hd hc) it a nai its.toArray) he ⟨hit, p⟩ hlt hne (by simp only [List.mem_cons, List.mem_nil_iff, or_false, not_or]; exact ⟨hne, nea⟩) fun y h' tk hy ho hst' hT hsz hk => ?_
    have ey : y = u := by
      have : its[i]? = some y := by simpa using hy
      rw [hu] at this
      exact (Option.some.inj this).symm
    subst ey
    refine ⟨_, rfl, wpAny_letOwnedTupleGo_enum (s := { s with heap := h', toks := tk + 1 }) ho fun h'' he' sb => ?_⟩
    have hT2 := (sb.2 _ (Nat.ne_of_gt hel)).trans hT
    have new : ObjOk X.prog X.w (upd H s.heap.objs.size (.tup [.int (i : Nat), x])) h'' s.heap.objs.size (.tup [.int (i : Nat), x]) :=
      ⟨by show 2 ≤ sizeLine; decide, [.int i tk, y], .cons ⟨_, rfl⟩ (.cons ru .nil), ⟨_, hT2, rfl, _, rfl⟩⟩
    have I1 : Inv X pins σ (upd H s.heap.objs.size (.tup [.int (i : Nat), x])) { s with heap := h'', toks := tk + 1 } :=
      I.turnedNew (ch := [e, it]) (fun b ob hb q => by
        simp only [List.mem_cons, List.mem_nil_iff, or_false, not_or] at hb
        exact (sb.2 b hb.1).trans (hk b ob hb.1 hb.2 q)) hf (Nat.le_refl _) new
    refine ⟨.ref s.heap.objs.size, _, I1, rfl, ⟨_, x, rfl, I.hok.fresh (Nat.le_refl _), rfl, fun ys hy => by rw [I.tuple_inj hy hq]; exact hx⟩, ⟨⟨y, ?_⟩, hst'.1.at fun o q => (sb.2 it (Ne.symm hne)).trans q, hne⟩, fun b hb => ?_⟩
    · rw [show ((i + 1 : Nat) : Int) = (i : Int) + 1 by omega]
      exact he'
    · have hb' : b < s.heap.objs.size := by
        rcases (by simpa using hb : b = e ∨ b = it) with rfl | rfl
        · exact hel
        · exact hil
      rw [upd_ne (Nat.ne_of_lt hb')]
      exact (hf b hb).1
  done := by
    intro X hP hw hK hc i pins s σ H E I hf st hg
    subst hP hw hK
    obtain ⟨⟨old, he⟩, hit, hne⟩ := st
    obtain ⟨xs, hq, hx⟩ := hg
    obtain ⟨its, rv, p, hz⟩ := I.tuple hq
    obtain ⟨f0, f1, f2, f3, f4, f5⟩ := hf it (by simp)
    have hl := rv.length
    have ei : i = its.toArray.size := by rw [List.size_toArray]; omega
    subst ei
    exact wpAny_pyNext_enum_endD (Draws.tuple (A := X.A.in1) (I.ok.hd hc) it a (tupIter_ne hit p) its.toArray) he ⟨hit, p⟩ fun h' eb => ⟨rfl, I.turned (t' := s.toks) (fun b o hb q => eb b o hb q) f0 f1 f3 f4 f5⟩
  self := fun A i s Q E st h => by
    obtain ⟨⟨_, he⟩, _⟩ := st
    exact wpAny_pyIter_enum he h
def iEnumT (K : PySem.W.Frag) (ta : TA) : TI := fun σ H R => ta σ H fun vs H1 => ∃ a xs, vs = [.ref a] ∧ SqT K H1 a xs ∧ R (Itet K a) H1
theorem pi_enumT {X : Cx} {e : Expr} {ta : TA} {p pos tpos : Pos} {elts : List Expr} {kk : Nat} (hg : Gl X "enumerate") (hm : X.mg "enumerate" = none) (ha : PA X [e] ta) (hs : starEach [e] X.env = [(false, eval e X.env)] := by rfl) :
    PI X (.Tuple elts kk tpos) (.Call (.Name "enumerate" p) [e] [] pos) (iEnumT X.K ta) := by
  refine ⟨fun pins s σ H R I h => ?_⟩
  refine Call_ (ld_blt I hg hm boot_enumerate (PyProof.Rows.callWith_type1 (thn (ha.run pos pins s σ H _ I h) fun us s1 ⟨vs, H1, I1, r1, q1⟩ => ?_) hs rfl))
  obtain ⟨a, xs, ex, hq, q⟩ := q1
  subst ex
  rw [Vals.ref1 r1]
  obtain ⟨its, rv, p', hz⟩ := I1.tuple hq
  refine call_enumT p' fun h' he hit hk => wpAny_pyIter_enum he ?_
  refine ⟨s1.heap.objs.size + 1, [s1.heap.objs.size + 1, s1.heap.objs.size], _, _, H1, rfl, I1.kept (t' := s1.toks) hk, turn_enumT a (s1.heap.objs.size + 1) s1.heap.objs.size, ⟨⟨.none, he⟩, hit, Nat.succ_ne_self _⟩, fun b hb => ?_, q⟩
  have hle : s1.heap.objs.size ≤ b := by
    rcases (by simpa using hb : b = s1.heap.objs.size + 1 ∨ b = s1.heap.objs.size) with z | z
    · rw [z]; exact Nat.le_add_right _ _
    · rw [z]; exact Nat.le_refl _
  exact I1.fpOk hle (I1.hok.fresh hle)
/-- the loop: an invariant by the turn -/
theorem for_enumT {K : PySem.W.Frag} {a : Addr} {xs : List V} {g : TG} {tb : TS} {D : Ends} {σ : L2.St} {H : Hp} (Pv : Nat → L2.St → Hp → Prop) (h0 : Pv 0 σ H) (hl : ∀ i σ H, Pv i σ H → SqT K H a xs)
    (hs : ∀ (i : Nat) (x : V) (T : Addr) (σ : L2.St) (H : Hp), xs[i]? = some x → Pv i σ H → H T = none → g (.ref T) σ (upd H T (.tup [.int (i : Nat), x])) fun σ2 H2 => tb { D with nx := Pv (i + 1), ct := Pv (i + 1), bk := D.nx } σ2 H2)
    (hd : ∀ σ H, Pv xs.length σ H → D.nx σ H) :
    ∃ W : Nat → Nat → L2.St → Hp → Prop, (∃ m, W 0 m σ H) ∧ ∀ i m σ H, W i m σ H → ((Itet K a).stop i H ∧ D.nx σ H) ∨ ((Itet K a).go i H ∧ ∃ Nx : L2.St → Hp → Prop, (∀ σ' H', Nx σ' H' → ∃ m', m' < m ∧ W (i + 1) m' σ' H') ∧
      ∀ x H', (Itet K a).yld i H x H' → g x σ H' fun σ2 H2 => tb { D with nx := Nx, ct := Nx, bk := D.nx } σ2 H2) := by
  refine ⟨fun i m σ H => m = xs.length - i ∧ i ≤ xs.length ∧ Pv i σ H, ⟨xs.length, by simp, Nat.zero_le _, h0⟩, ?_⟩
  rintro i m σ H ⟨rfl, hi, p⟩
  have q := hl i σ H p
  by_cases hlt : i < xs.length
  · refine .inr ⟨⟨xs, xs[i], q, by simp [hlt]⟩, Pv (i + 1), fun σ' H' p' => ⟨xs.length - (i + 1), by omega, rfl, hlt, p'⟩, fun v H' y => ?_⟩
    obtain ⟨T, x, rfl, hT, rfl, hx⟩ := y
    exact hs i x T σ H (hx xs q) p hT
  · have e : i = xs.length := by omega
    subst e
    exact .inl ⟨⟨xs, q, rfl⟩, hd σ H p⟩
end CC
end
section
set_option Elab.async false
set_option linter.all false
set_option maxRecDepth 100000
set_option maxHeartbeats 4000000
namespace CC
open PySem PySem.Spec PyProof.Rows L2
/-! ### set(xs), xs a list of whole numbers -/
abbrev obSet (w : World) : Obj := { cls := .type "set", dict := none, data := .set #[] 0 (.fresh 0 0 (!w.params.followText "set-order")) }
section
variable {P : Program} {w : World} {A : Around} {E : Value → Shared → Prop} {s : Shared}
theorem call_setL {l : Addr} {items : Array Value} (ns : List Int) {Q : Value → Shared → Prop} (hh : A.handled = none) (hl : s.heap.IsList l items) (hit : IntsAre items.toList ns) (hb : ns.length + 1 < scanBound)
    (h : ∀ (h' : Heap) (tk c : Nat), SetR w h' s.heap.objs.size (fun j => decide (j ∈ ns)) c → c ≤ ns.length → (∀ b o, s.heap.get? b = some o → h'.get? b = some o) → Q (.ref s.heap.objs.size) { s with heap := h', toks := tk }) :
    wpAny (model P w) A (call (.type "set") [.ref l]) Q E s := by
  have hsz : items.size = ns.length := by
    have q := IntsAre.length hit
    rw [Array.length_toList] at q
    exact q
  have vals : ∀ (i : Nat) (v : Value), items[i]? = some v → ∃ k t, ns[i]? = some k ∧ v = .int k t := fun i v hv => by
    have hi : i < ns.length := by rw [← hsz]; exact (Array.getElem?_eq_some_iff.mp hv).1
    obtain ⟨t, e⟩ := PyProof.Rows.IntsAre.int_at hit i v (by rw [Array.getElem?_toList]; exact hv)
    refine ⟨ns[i], t, List.getElem?_eq_getElem hi, ?_⟩
    rw [e, List.getD_eq_getElem?_getD, List.getElem?_eq_getElem hi] <;> rfl
  obtain ⟨c0, tl, hmro⟩ := F.called_set.mro
  have hmade := F.called_set.made
  have hsub := F.called_set.sub
  refine wpAny_call (codeAny_of_tree ?_)
  show wpAny _ _ (callAny (.type "set") _) _ _ _
  refine wpAny_pure ⟨Code.quiet_builtin _ (by decide +kernel), codeAny_builtin F.entry_type_call ?_⟩
  rw [Around.under_plain (weight_type_call_type "set" [.ref l] []) rfl]
  have n1 := F.called_set.notType
  have n2 := F.called_set.canCreate
  have n3 := F.typeCall_set_1 (.ref l)
  repeat (any_goals (first | assumption | wp_step))
  refine codeAny_mono (code_set_led1 (.ref l) (E := E) (Q₁ := fun obj s1 => obj = .ref s.heap.objs.size ∧ s1 = { s with heap := s.heap.push (obSet w) }) ⟨rfl, rfl⟩) fun r s1 hr => ?_
  match r, hr with
  | .error e, hr => exact hr
  | .ok (.ret obj), hr =>
    obtain ⟨rfl, rfl⟩ := hr
    have hS : (s.heap.push (obSet w)).get? s.heap.objs.size = some (obSet w) := Heap.get?_push_size _ rfl
    have hT : Shared.TypeIs { s with heap := s.heap.push (obSet w) } (.ref s.heap.objs.size) "set" := ⟨_, hS, rfl⟩
    have m1 := F.called_set.init.lookup
    have m2 := F.called_set.init.bind (.ref s.heap.objs.size)
    repeat (any_goals (first | assumption | wp_step))
    refine codeAny_mono (codeAny_call_builtin (R := wants (fun r s2 => r = .none ∧ ∃ h' tk c, s2 = { s with heap := h', toks := tk } ∧ SetR w h' s.heap.objs.size (fun j => decide (j ∈ ns)) c ∧ c ≤ ns.length ∧
        (∀ b o, s.heap.get? b = some o → h'.get? b = some o)) E) F.called_set.init.plain F.entry_set_init (check_set_init_1 hT ?_)) fun r2 s2 hr2 => ?_
    · obtain ⟨⟨oc, od, odt, osl⟩, hol, hcl, nl, hdl⟩ := hl
      simp only at hcl hdl
      subst hcl hdl
      have hol' : (s.heap.push (obSet w)).get? l = some { cls := .type "list", dict := od, data := .seq items nl, slots := osl } := Heap.get?_push_of_some _ hol
      have k1 := F.sub_list_set
      have k2 := F.sub_list_frozenset
      have k3 : (Value.type "list" == Value.type "dict") = false := by decide
      have hl1 : (s.heap.push (obSet w)).IsList l items := ⟨_, hol', rfl, nl, rfl⟩
      have hlS : l < s.heap.objs.size := Heap.lt_size hol
      have hz1 : (s.heap.push (obSet w)).objs.size = s.heap.objs.size + 1 := Heap.size_push ..
      unfold Builtin.«set.__init__» noKeywords Builtin.Frozenset.updateFrom
      generalize hPI : pyIter = PI
      wp_walk
      subst hPI
      refine wpAny_pyIter_list hl1 (wpAny_bind (wpAny_runValue ?_))
      refine set_update_ints ((Walks.list (A := A.in1.in1.in1) (by simp [hh]) (s.heap.push (obSet w)).objs.size l (by rw [hz1]; exact Nat.ne_of_lt (Nat.lt_succ_of_lt hlS)) items).toS) s.heap.objs.size
        (by
          rw [hz1]
          simp only [List.mem_cons, List.mem_nil_iff, or_false, not_or]
          exact ⟨Nat.ne_of_lt (Nat.lt_succ_self _), Nat.ne_of_gt hlS⟩) ns hsz hb vals (items.size - 0) 0 _ (by omega) (Nat.zero_le _)
        ⟨⟨_, Heap.get?_push_size _ rfl, rfl, rfl⟩, (hl1.push _)⟩ ⟨0, Nat.le_refl 0, setR_new_at (Heap.get?_push_of_some _ hS)⟩ ?_
      intro s' c' hm hc' hS'
      obtain ⟨h', g2, d', tk', os'⟩ := s'
      obtain rfl : g2 = s.gens := hm.gens
      obtain rfl : d' = s.drawn := hm.drawn
      obtain rfl : os' = s.os := hm.os
      show wpAny _ _ _ _ _ _
      refine wpAny_pure ?_
      show wpAny _ _ (ret Value.none) _ _ _
      rw [hsz] at hc'
      refine wpAny_pure ⟨rfl, h', tk', c', rfl, hS', hc', fun b o e => ?_⟩
      have hb0 : b < s.heap.objs.size := Heap.lt_size e
      refine hm.heap b o ?_ (Heap.get?_push_of_some _ (Heap.get?_push_of_some _ e))
      rw [hz1]
      simp only [List.mem_cons, List.mem_nil_iff, or_false, not_or]
      exact ⟨Nat.ne_of_lt hb0, Nat.ne_of_lt (Nat.lt_succ_of_lt hb0)⟩
    · match r2, hr2 with
      | .error e, hr2 => exact hr2
      | .ok (.ret r), hr2 =>
        obtain ⟨rfl, h', tk, c', rfl, hS', hc', hk'⟩ := hr2
        repeat (any_goals (first | assumption | wp_step))
        exact h _ _ _ hS' hc' hk'
end
section
variable {X : Cx}
/-- set(xs): all its numbers lie from 0 below m, so it has at most m -/
def rSetL (K : PySem.W.Frag) (w : World) : List V → Hp → VK → Prop := fun vs H Q => ∃ (l : Addr) (ns : List Int) (m : Nat), vs = [V.ref l] ∧ SqL K H l (ns.map V.int) ∧ ns.length ≤ 4000 ∧ (∀ z ∈ ns, 0 ≤ z ∧ z < m) ∧ ∀ a c, H a = none → c ≤ m → Q (.ref a) (upd H a (SetO w a (fun j => decide (j ∈ ns)) c))
theorem setR_few {w : World} {h : Heap} {a : Addr} {ns : List Int} {c m : Nat} (hS : SetR w h a (fun j => decide (j ∈ ns)) c) (hm : ∀ z ∈ ns, 0 ≤ z ∧ z < m) : c ≤ m := by
  obtain ⟨o, es, ep, t, _, _, _, _, nd, hk, _, _, hn, _⟩ := hS
  have q : (es.toList.map keyOf).length ≤ ((List.range m).map fun k : Nat => (k : Int)).length := sub_len nd fun z hz => by
    obtain ⟨h1, h2⟩ := hm z (of_decide_eq_true ((hk z).mpr hz))
    exact List.mem_map.mpr ⟨z.toNat, List.mem_range.mpr (by omega), by omega⟩
  rw [List.length_map, List.length_map, List.length_range, Array.length_toList, hn] at q
  exact q
theorem cr_setL (hc : X.calm = true) : CallR X (.type "set") (rSetL X.K X.w) := by
  intro pins s σ H vs us Q I r h
  obtain ⟨l, ns, m, rfl, hs, hl, hm, q⟩ := h
  obtain ⟨its, rv, pl, _⟩ := I.list hs
  rw [Vals.ref1 r]
  refine call_setL ns (I.ok.hd hc) pl.isList (by simpa using rv.ints) (by unfold scanBound; omega) fun h' tk c hS hc' hk => ?_
  exact ⟨.ref s.heap.objs.size, _, I.laid (t' := tk) hk (Nat.le_refl _) (setO_new hS), rfl, q _ c (I.hok.fresh (Nat.le_refl _)) (setR_few hS hm)⟩
end
end CC
end
section
set_option Elab.async false
set_option linter.all false
set_option maxRecDepth 100000
set_option maxHeartbeats 4000000
namespace CC
open PySem PySem.Spec PyProof.Rows L2
/-! ### rows of numbers as values, as keys, as data -/
def vi (l : List Nat) : List V := l.map fun n : Nat => V.int (n : Int)
def ki (l : List Nat) : List Key := l.map fun n : Nat => Sum.inl (n : Int)
def encT (l : List Nat) : PyData := .tuple (l.map fun n : Nat => PyData.int (n : Int))
def toI (l : List Nat) : List Int := l.map fun n : Nat => (n : Int)
theorem vi_toI (l : List Nat) : vi l = (toI l).map V.int := by
  unfold vi toI
  rw [List.map_map]
  rfl
theorem kV_ki (l : List Nat) : (ki l).map kV = vi l := by
  unfold ki vi
  rw [List.map_map]
  rfl
theorem ki_inj {l m : List Nat} (h : ki l = ki m) : l = m := by
  unfold ki at h
  exact (List.map_inj_right (fun a b e => by have := Sum.inl.inj e; omega)).mp h
theorem vi_inj {l m : List Nat} (h : vi l = vi m) : l = m := by
  unfold vi at h
  exact (List.map_inj_right (fun a b e => by have := V.int.inj e; omega)).mp h
theorem vi_len (l : List Nat) : (vi l).length = l.length := List.length_map ..
theorem dataLt_rows : ∀ (s t : List Nat), PyProof.Rows.lexLt PyProof.Rows.itemOrd (PySem.W.keyToksAll (s.map fun n : Nat => PyData.int (n : Int))) (PySem.W.keyToksAll (t.map fun n : Nat => PyData.int (n : Int))) = Uw55.less s t
  | [], [] => PyProof.Rows.lex_irrefl _
  | [], y :: ys => by
    rw [List.map_nil, List.map_cons, PySem.W.toks_all_cons]
    simp only [PySem.W.keyToksAll]
    rw [PyProof.Rows.lex_diff (O := PyProof.Rows.itemOrd) (by simp)]
    rfl
  | x :: xs, [] => by
    rw [List.map_nil, List.map_cons, PySem.W.toks_all_cons]
    simp only [PySem.W.keyToksAll]
    rw [PyProof.Rows.lex_diff (O := PyProof.Rows.itemOrd) (by simp)]
    rfl
  | x :: xs, y :: ys => by
    have ha : PySem.W.alike (.int (x : Int)) (.int (y : Int)) = true := by simp only [PySem.W.alike]
    rw [List.map_cons, List.map_cons]
    show _ = (decide (x < y) || (x == y && Uw55.less xs ys))
    by_cases h : x = y
    · subst h
      rw [PySem.W.dataLt_all_yes ha (by simp [PyData.eqv]), dataLt_rows xs ys]
      simp
    · rw [PySem.W.dataLt_all_no ha (by simp [PyData.eqv]; omega), PySem.W.dataLt_int]
      have e : (x == y) = false := by simpa using h
      rw [e, Bool.false_and, Bool.or_false]
      exact decide_eq_decide.mpr (by omega)
theorem dataLt_encT (s t : List Nat) : PySem.W.dataLt (encT s) (encT t) = Uw55.less s t := (PySem.W.dataLt_tuple _ _).trans (dataLt_rows s t)
theorem alike_rows : ∀ s t : List Nat, PySem.W.alikeAll (s.map fun n : Nat => PyData.int (n : Int)) (t.map fun n : Nat => PyData.int (n : Int)) = true
  | [], _ => by rw [List.map_nil, PySem.W.alikeAll]
  | _ :: _, [] => by rw [List.map_nil, List.map_cons, PySem.W.alikeAll]
  | x :: xs, y :: ys => by
    rw [List.map_cons, List.map_cons, PySem.W.alikeAll, alike_rows xs ys]
    simp only [PySem.W.alike]
    rfl
theorem alike_encT (s t : List Nat) : PySem.W.alike (encT s) (encT t) = true := by
  unfold encT
  simp only [PySem.W.alike]
  exact alike_rows s t
theorem depth_rows : ∀ s : List Nat, PyData.depthAll (s.map fun n : Nat => PyData.int (n : Int)) ≤ 1
  | [] => by rw [List.map_nil, PyData.depthAll]; omega
  | x :: xs => by
    have ih := depth_rows xs
    rw [List.map_cons, PyData.depthAll, PyData.depth]
    omega
theorem depth_encT (s : List Nat) : (encT s).depth ≤ 2 := by
  unfold encT
  rw [PyData.depth]
  have := depth_rows s
  omega
theorem reads_rows {h : Heap} : ∀ {s : List Nat} {us : List Value}, Vals (vi s) us → ReadsAll h us (s.map fun n : Nat => PyData.int (n : Int)) []
  | [], _, .nil => .nil
  | n :: s, _, .cons r t => by
    obtain ⟨tk, rfl⟩ := r
    exact .cons (.int _ _) (reads_rows t)
/-- the tuple at b holds the row s -/
abbrev TupAt (H : Hp) (b : Addr) (s : List Nat) : Prop := H b = some (.tup (vi s))
abbrev Tups (H : Hp) (bs : List Addr) (ss : List (List Nat)) : Prop := Paired (TupAt H) bs ss
section
variable {X : Cx}
/-- sorted(d), d a dict whose keys are rows of one length: its keys in order -/
def rSortedT : List V → Hp → VK → Prop := fun vs H Q => ∃ (d : Addr) (kvs : List (List Key × V)) (ks : List (List Nat)) (n : Nat), vs = [V.ref d] ∧ H d = some (.dT kvs) ∧ kvs.map (·.1) = ks.map ki ∧ (∀ k ∈ ks, k.length = n) ∧ (1 ≤ n ∨ ks.length < 2) ∧
  ∀ p bs ss, ss.Perm ks → ss.Pairwise (fun s t => Uw55.less t s = false) → Tups H bs ss → H p = none → Q (.ref p) (upd H p (.lst (bs.map V.ref)))
theorem tups_of {H : Hp} : ∀ {kvs : List (List Key × V)} {xs : List (List Key × Addr × Value)} {ks : List (List Nat)}, Paired (fun (p : List Key × V) (q : List Key × Addr × Value) => p.1 = q.1 ∧ H q.2.1 = some (.tup (p.1.map kV)) ∧ RelV p.2 q.2.2) kvs xs → kvs.map (·.1) = ks.map ki →
    PySem.W.EachIs (fun v k => ∃ b, v = Value.ref b ∧ TupAt H b k) (xs.map fun x => Value.ref x.2.1) ks
  | [], _, [], .nil, _ => .nil
  | [], _, _ :: _, .nil, h => by cases h
  | _ :: _, _, [], .cons _ _, h => by cases h
  | p :: kvs, q :: xs, k :: ks, .cons r t, h => by
    obtain ⟨h1, h2⟩ := List.cons.inj h
    have h1 : p.1 = ki k := h1
    refine .cons ⟨_, rfl, ?_⟩ (tups_of t h2)
    have := r.2.1
    rw [h1, kV_ki] at this
    exact this
theorem each_tups {H : Hp} : ∀ {vs : List Value} {ks : List (List Nat)}, PySem.W.EachIs (fun v k => ∃ b, v = Value.ref b ∧ TupAt H b k) vs ks → ∃ bs : List Addr, vs = bs.map Value.ref ∧ Tups H bs ks
  | _, _, .nil => ⟨[], rfl, .nil⟩
  | _, _, .cons ⟨b, e, hb⟩ t => by
    obtain ⟨bs, e2, h2⟩ := each_tups t
    exact ⟨b :: bs, by rw [e, e2]; rfl, .cons hb h2⟩
theorem le_encT : PySem.W.dataLe false encT = fun s t => !Uw55.less t s := by
  rw [PySem.W.dataLe_eq]
  funext s t
  show (!PySem.W.dataLt (encT t) (encT s)) = _
  rw [dataLt_encT]
theorem cr_sortedT (hc : X.calm = true) (hu : X.A.units + 64 < cLine) : CallR X (.builtin "sorted") rSortedT := by
  intro pins s σ H vs us Q I r h
  obtain ⟨d, kvs, ks, n, rfl, hd, hk, hn, h1n, q⟩ := h
  rw [Vals.ref1 r]
  obtain ⟨z, hs, xs, pr, o, es, ep, ho, hx, hdt, he, hnd⟩ := (show ObjOk X.prog X.w H s.heap d (.dT kvs) from I.hok d _ hd)
  have l1 : es.size = xs.length := size_of_entries he
  have l2 : kvs.length = xs.length := Paired.length pr
  refine Calls.call_function_entry PyProof.Rows.kind_sorted PyProof.Rows.plain_sorted PyProof.Rows.entry_sorted (PyProof.Rows.args_sorted1 _) ?_
  unfold Builtin.«sorted»
  refine wpAny_bind (m := checkCount "sorted" 1 1 _) (wpAny_pure ?_)
  refine wpAny_bind (PySem.W.kdu_collect (A := X.A.in1) (kdl_raw hs hx hdt) (I.ok.hd hc) ho (by omega) fun h' tk acc kp it => ?_)
  have ea : acc.toList = xs.map fun x => Value.ref x.2.1 := by
    have hl : acc.toList.length = xs.length := by rw [Array.length_toList, it.1]; exact l1
    refine List.ext_getElem? fun j => ?_
    rw [List.getElem?_map]
    cases hj : acc.toList[j]? with
    | none =>
      have h1 := List.getElem?_eq_none_iff.mp hj
      rw [List.getElem?_eq_none (by omega)]
      rfl
    | some v =>
      obtain ⟨en, hen, hv⟩ := it.2 j v (by rw [← Array.getElem?_toList]; exact hj)
      have qe := entry_at he j
      rw [hen] at qe
      cases hb : xs[j]? with
      | none => rw [hb] at qe; exact nomatch (show some en = none from qe)
      | some b =>
        rw [hb] at qe
        have e2 : en = entryOfKey (tupleKind (mixKind X.prog X.w)) b := Option.some.inj qe
        rw [hv, e2]
        rfl
  have I1 : Inv X pins σ H { s with heap := h', toks := tk } := I.kept kp
  have each := tups_of pr hk
  rw [← ea] at each
  have hlen : acc.toList.length = ks.length := each.length
  have hkl : ks.length ≤ sizeLine := by rw [← hlen, ea, List.length_map, ← l2]; exact z
  refine wpAny_bind (wpAny_newList ?_ (by rw [hlen]; exact hkl))
  generalize hL : h'.objs.size = L
  have hoL : (h'.push (seqObj "list" acc.toList.toArray 0)).get? L = some (seqObj "list" acc.toList.toArray 0) := by rw [← hL]; exact Heap.get?_push_size _ rfl
  show wpAny _ _ _ _ _ { s with heap := h'.push (seqObj "list" acc.toList.toArray 0), toks := tk }
  have fin : ∀ (out : List Value) (ss : List (List Nat)), PySem.W.EachIs (fun v k => ∃ b, v = Value.ref b ∧ TupAt H b k) out ss → ss.Perm ks → ss.Pairwise (fun s t => Uw55.less t s = false) →
      EP X pins σ Q (.ref L) { s with heap := PyProof.Rows.sortedHeap (h'.push (seqObj "list" acc.toList.toArray 0)) L acc.toList out.toArray, toks := tk } := fun out ss e hp hss => by
    obtain ⟨bs, rfl, ht⟩ := each_tups e
    obtain ⟨e', he'⟩ := PyProof.Rows.sortedHeap_at (vs := acc.toList) (out := (bs.map Value.ref).toArray) hoL
    have hz : (bs.map V.ref).length ≤ sizeLine := by
      rw [List.length_map, Paired.length ht, hp.length_eq]
      exact hkl
    refine ⟨.ref L, upd H L (.lst (bs.map V.ref)), I1.laid (t' := tk) (fun b u e => ?_) (Nat.le_of_eq hL) (show ObjOk X.prog X.w _ _ _ (.lst (bs.map V.ref)) from ⟨hz, bs.map Value.ref, e', vals_refs bs, he'⟩), rfl, q L bs ss hp hss ht (I1.hok.fresh (Nat.le_of_eq hL))⟩
    have hb : b < h'.objs.size := Heap.lt_size e
    rw [PyProof.Rows.sortedHeap_old (by rw [← hL]; exact Nat.ne_of_lt hb) (by rw [size_push']; exact Nat.lt_succ_of_lt hb)]
    exact Heap.get?_push_of_some _ e
  rcases h1n with h1n | h1n
  · have er : PySem.W.EachIs (fun v k => ∃ as, Reads (h'.push (seqObj "list" acc.toList.toArray 0)) v (encT k) as ∧ L ∉ as) acc.toList ks := each.mono fun v k ⟨b, e, hb⟩ => by
      subst e
      obtain ⟨_, its, rv, ob, hob, hcb, nb, hdb⟩ := I1.hok b _ hb
      exact ⟨[], .tuple (Heap.get?_push_of_some _ hob) hcb hdb (reads_rows rv), by simp⟩
    refine wpAny_bind (wpAny_holding (PySem.W.list_sort_data (A := X.A.in1) (s := { s with heap := h'.push (seqObj "list" acc.toList.toArray 0), toks := tk }) (enc := encT) hoL each er ?_ ?_ hkl (fun k hk => ?_) fun out _ eo => ?_))
    · intro a ha b hb
      obtain ⟨s1, _, rfl⟩ := List.mem_map.mp ha
      obtain ⟨s2, _, rfl⟩ := List.mem_map.mp hb
      exact alike_encT s1 s2
    · refine .inl fun a ha => ?_
      obtain ⟨s1, hs1, rfl⟩ := List.mem_map.mp ha
      have := hn s1 hs1
      match s1, this with
      | [], h => exact absurd h1n (by rw [← h]; decide)
      | x :: r, _ => exact ⟨_, _, rfl⟩
    · have := depth_encT k
      show X.A.units + 1 + 1 + _ < _
      omega
    · refine wpAny_pure ⟨_, rfl, fin out _ eo (List.mergeSort_perm _ _) ?_⟩
      rw [le_encT]
      refine List.Pairwise.imp (fun {a b} h => by simpa using h) (List.pairwise_mergeSort (le := fun s t => !Uw55.less t s) (fun a b c hab hbc => ?_) (fun a b => ?_) ks)
      · have h1 : Uw55.less b a = false := by simpa using hab
        have h2 : Uw55.less c b = false := by simpa using hbc
        cases e : Uw55.less c a with
        | false => rfl
        | true =>
          rcases not_less h1 with k | k
          · rw [k, e] at h2; cases h2
          · rw [less_trans e k] at h2; cases h2
      · rcases less_total a b with k | k | k
        · rw [less_asymm k]; rfl
        · rw [k, less_irrefl]; rfl
        · rw [less_asymm k]; simp
  · refine wpAny_bind (wpAny_holding (wpAny_call_entry PyProof.Rows.slot_list_sort ⟨_, hoL, rfl⟩ PyProof.Rows.entry_list_sort
      (SrtO.list_sort_ord (s := { s with heap := h'.push (seqObj "list" acc.toList.toArray 0), toks := tk }) (ltv := fun _ _ => false) ⟨fun _ _ _ => rfl, fun _ _ _ _ _ => rfl⟩ hoL (by rw [hlen]; exact hkl) (fun h2 => absurd h2 (by omega)) fun out _ hb => ⟨_, rfl, ?_⟩)
      (PyProof.Rows.args_list_sort _)))
    have eo : out = acc.toList := by
      have hp := hb.perm
      have hl := hp.length_eq
      match out, hl, hp with
      | [], hl, hp => exact (List.eq_nil_of_length_eq_zero (by rw [← hl]; rfl)).symm
      | [x], hl, hp => exact List.singleton_perm.mp hp
      | x :: y :: r, hl, hp => rw [hlen] at hl; simp at hl; omega
    subst eo
    refine wpAny_pure ⟨_, rfl, fin _ ks each (List.Perm.refl _) ?_⟩
    match ks, h1n with
    | [], _ => exact List.Pairwise.nil
    | [k], _ => exact List.pairwise_singleton _ _
    | _ :: _ :: _, h => exact absurd h (by simp)
end
end CC
end
section
set_option Elab.async false
set_option linter.all false
set_option maxRecDepth 100000
set_option maxHeartbeats 2000000
namespace CC
open PySem PySem.Spec PyProof.Rows L2
/-! ### the text by places -/
def top (i : Nat) : Stmt := PySem.Challenge.pw_cubechain_s01_answers.main.body.getD i (.Pass ⟨0, 0, 0, 0⟩)
abbrev sSpot : Stmt := top 1
abbrev sCell : Stmt := top 2
abbrev sMany : Stmt := top 3
abbrev sCells : Stmt := top 4
abbrev sBeside : Stmt := top 5
abbrev sNeigh : Stmt := top 6
abbrev sTurns : Stmt := top 7
abbrev sChain : Stmt := top 8
abbrev sWrong : Stmt := top 9
abbrev sPaths : Stmt := top 13
abbrev sMoved : Stmt := top 14
abbrev sEnds : Stmt := top 15
abbrev sImages : Stmt := top 16
abbrev sLeast : Stmt := top 17
abbrev sFar : Stmt := top 20
abbrev sRows : Stmt := top 33
abbrev sAns : Stmt := top 34
abbrev mF (i : Nat) : Stmt := inClass (top 19) i
abbrev mH (i : Nat) : Stmt := inClass (top 29) i
/-! ### a def, a method, as it stands behind the top -/
structure Dfn (K : PySem.W.Frag) (mg : Str → Option Value) (x : Str) (st : Stmt) (ps : List Str) : Prop where
  ex : ∃ f fd, C8.Def K mg x st f fd ∧ Binds K fd ps []
structure Mtd (K : PySem.W.Frag) (C : Addr) (m qual : Str) (st : Stmt) (ps : List Str) : Prop where
  ex : ∃ f fd, Cls K C ∧ Meth K C m f ∧ C8.Fun K m qual st f fd ∧ Binds K fd ps []
section
variable {P : Program} {w : World} {K : PySem.W.Frag} {mg : Str → Option Value} {base : Heap}
theorem Dfn.cal {x : Str} {st : Stmt} {N ps : List Str} {k : Nat} {sp : Sp} (D : Dfn K mg x st ps) (S : FnScope N ps (C8.fnScope st)) (len : ∀ vs H Q E, sp vs H Q E → vs.length = ps.length)
    (hbody : ∀ (f : Addr) (cdv : Value) (A : Around) (outer : List Env) (s : Shared) (H : Hp) (vs : List V) (Q : VK) (E : XK), Room k (A.deeper (envOfC x (C8.fnScope st) s.heap.objs.size f cdv)) → sp vs H Q E →
      ∃ t, PSs (cxOf C8.CX0 P w K mg base N x (C8.fnScope st) f cdv A outer s H E).nox (C8.fnBody st) t ∧ t { nx := fun _ H' => Q .non H', rt := Q } (start N vs) H) : C8.Cal P w K mg base (k + 1) x sp [] := by
  obtain ⟨f, fd, D, b⟩ := D.ex
  exact C8.cal0 D b .nil S len (hbody f)
theorem Mtd.met {m qual : Str} {C : Addr} {st : Stmt} {N ps : List Str} {k : Nat} {sp : Sp} (D : Mtd K C m qual st ps) (S : FnScope N ps (C8.fnScope st)) (len : ∀ vs H Q E, sp vs H Q E → vs.length = ps.length)
    (hbody : ∀ (f : Addr) (cdv : Value) (A : Around) (outer : List Env) (s : Shared) (H : Hp) (vs : List V) (Q : VK) (E : XK), Room k (A.deeper (envOfC qual (C8.fnScope st) s.heap.objs.size f cdv)) → sp vs H Q E →
      ∃ t, PSs (cxOf C8.CX0 P w K mg base N qual (C8.fnScope st) f cdv A outer s H E).nox (C8.fnBody st) t ∧ t { nx := fun _ H' => Q .non H', rt := Q } (start N vs) H) : C8.Met P w K mg base (k + 1) C m sp [] := by
  obtain ⟨f, fd, c, me, D, b⟩ := D.ex
  exact C8.met0 c me D b S len (hbody f)
end
/-- the built-in names that the program uses are not its own -/
structure Blt (mg : Str → Option Value) : Prop where
  «sum» : mg "sum" = none
  «abs» : mg "abs" = none
  «zip» : mg "zip" = none
  «len» : mg "len" = none
  «range» : mg "range" = none
  «list» : mg "list" = none
  «tuple» : mg "tuple" = none
  «int» : mg "int" = none
  «enumerate» : mg "enumerate" = none
  «all» : mg "all" = none
  «min» : mg "min" = none
  «max» : mg "max" = none
  «sorted» : mg "sorted" = none
  «set» : mg "set" = none
/-! ### heaps -/
theorem same_upd {H : Hp} {p : Addr} {o : HO} (h : H p = none) : Same H (upd H p o) := fun b x e => by
  rw [upd_ne (ne_of_none e h)]
  exact e
theorem sm_T {K : PySem.W.Frag} {H H' : Hp} {a : Addr} {xs : List V} (e : Same H H') (h : SqT K H a xs) : SqT K H' a xs := by
  rcases h with (h | ⟨o, h⟩) | h
  · exact .inl (.inl (e _ _ h))
  · exact .inl (.inr ⟨o, e _ _ h⟩)
  · exact .inr h
theorem sqT {K : PySem.W.Frag} {H : Hp} {a : Addr} {xs : List V} (h : H a = some (.tup xs)) : SqT K H a xs := .inl (.inl h)
theorem sqL {K : PySem.W.Frag} {H : Hp} {a : Addr} {xs : List V} (h : H a = some (.lst xs)) : SqL K H a xs := .inl (.inl h)
/-- all but what stands at D -/
def But (D : Addr) (H H' : Hp) : Prop := ∀ b o, b ≠ D → H b = some o → H' b = some o
theorem But.upd {D : Addr} {H : Hp} {o : HO} : But D H (upd H D o) := fun b u hb e => by rw [upd_ne hb]; exact e
theorem sm_but {D : Addr} {H H' : Hp} (s : Same H H') : But D H H' := fun b o _ e => s b o e
theorem sm_write {H1 H : Hp} {D : Addr} {o : HO} (s : Same H1 H) (n : H1 D = none) : Same H1 (L2.upd H D o) := fun b u e => by
  rw [upd_ne (ne_of_none e n)]
  exact s b u e
theorem tup_ne {H : Hp} {t D : Addr} {xs ys : List V} (h : H t = some (.tup xs)) (hD : H D = some (.lst ys)) : t ≠ D := ne_of h hD (by intro z; cases z)
theorem paired_map {α β : Type} {F : α → β → Prop} {γ : Type} {f : γ → α} : ∀ {l : List γ} {m : List β}, Paired F (l.map f) m ↔ Paired (fun c b => F (f c) b) l m
  | [], _ => ⟨fun h => by cases h; exact .nil, fun h => by cases h; exact .nil⟩
  | c :: l, _ => ⟨fun h => by cases h with | cons a t => exact .cons a (paired_map.mp t), fun h => by cases h with | cons a t => exact .cons a (paired_map.mpr t)⟩
theorem Paired.at {α β : Type} {F : α → β → Prop} : ∀ {l : List α} {m : List β} {i : Nat} {a : α}, Paired F l m → l[i]? = some a → ∃ b, m[i]? = some b ∧ F a b
  | _, _, _, _, .nil, h => by simp at h
  | _, _, 0, _, .cons r _, h => ⟨_, rfl, by cases (show some _ = some _ from h); exact r⟩
  | _, _, i + 1, _, .cons _ t, h => Paired.at (i := i) t (by simpa using h)
theorem Paired.at' {α β : Type} {F : α → β → Prop} : ∀ {l : List α} {m : List β} {i : Nat} {b : β}, Paired F l m → m[i]? = some b → ∃ a, l[i]? = some a ∧ F a b
  | _, _, _, _, .nil, h => by simp at h
  | _, _, 0, _, .cons r _, h => ⟨_, rfl, by cases (show some _ = some _ from h); exact r⟩
  | _, _, i + 1, _, .cons _ t, h => Paired.at' (i := i) t (by simpa using h)
theorem Paired.snoc {α β : Type} {F : α → β → Prop} {a : α} {b : β} (h : F a b) : ∀ {l : List α} {m : List β}, Paired F l m → Paired F (l ++ [a]) (m ++ [b])
  | _, _, .nil => .cons h .nil
  | _, _, .cons r t => .cons r (Paired.snoc h t)
theorem Paired.append {α β : Type} {F : α → β → Prop} : ∀ {l l' : List α} {m m' : List β}, Paired F l m → Paired F l' m' → Paired F (l ++ l') (m ++ m')
  | _, _, _, _, .nil, s => s
  | _, _, _, _, .cons r t, s => .cons r (Paired.append t s)
theorem Tups.mono {H H' : Hp} {bs : List Addr} {ss : List (List Nat)} (h : Tups H bs ss) (s : ∀ b xs, H b = some (.tup xs) → H' b = some (.tup xs)) : Tups H' bs ss := Paired.mapP h fun b _ e => s b _ e
theorem Tups.same {H H' : Hp} {bs : List Addr} {ss : List (List Nat)} (h : Tups H bs ss) (s : Same H H') : Tups H' bs ss := h.mono fun b _ e => s b _ e
theorem Tups.but {H H' : Hp} {D : Addr} {ys : List V} {bs : List Addr} {ss : List (List Nat)} (h : Tups H bs ss) (hD : H D = some (.lst ys)) (s : But D H H') : Tups H' bs ss := h.mono fun b _ e => s b _ (tup_ne e hD) e
/-! ### walks -/
theorem walk_zipT {K : PySem.W.Frag} {a b : Addr} {xs ys : List V} {n : Nat} (hn : n = min xs.length ys.length) : Walk (RZ.ItzT K a b) n (fun H => SqT K H a xs ∧ SqT K H b ys) (YPair (fun i => xs[i]?) (fun i => ys[i]?)) := by
  subst hn
  refine ⟨fun i _ hi q => ?_, fun _ q => ⟨xs, ys, q.1, q.2, by omega⟩, fun i H v H' _ q y => ?_⟩
  · have h1 : i < xs.length := by omega
    have h2 : i < ys.length := by omega
    exact ⟨xs, ys, xs[i], ys[i], q.1, q.2, by simp [h1], by simp [h2]⟩
  · obtain ⟨T, x, z, h1, h2, h3, h4, h5⟩ := y
    exact ⟨T, x, z, h1, h2, h3, h4 xs q.1, h5 ys q.2⟩
/-! ### a comprehension -/
theorem lc_gen {β : Type} {J : It} {n : Nat} {G : Hp → Prop} {Y : Nat → Hp → V → Hp → Prop} (w : Walk J n G Y) {g : TG} {tt : TT} {te : TE} {vs : List Nat} {σ : L2.St} {H1 : Hp} {D : Addr} {Qd : Hp → Prop}
    (R : Hp → V → β → Prop) (f : Nat → Option β) (nD : H1 D = none) (hn : n ≤ sizeLine) (hG : ∀ H, Same H1 H → G H)
    (hst : ∀ H H' y z ys, H D = some (.lst ys) → But D H H' → y ≠ .ref D → R H y z → R H' y z)
    (hs : ∀ (i : Nat) (x : V) (H H' : Hp) (ys : List V) (K1 : V → Hp → Prop) (K0 : Hp → Prop), i < n → Same H1 H → H D = some (.lst ys) → Y i H x H' →
      (∀ y H4 z, Same H H4 → y ≠ .ref D → f i = some z → R H4 y z → K1 y H4) → (∀ H3, Same H H3 → f i = none → K0 H3) →
      g x (wipe σ vs) H' fun σ2 H2 => wipe σ2 vs = wipe σ vs ∧ tt σ2 H2 fun b H3 => if b = true then te σ2 H3 K1 else K0 H3)
    (hd : ∀ H ys, Same H1 H → H D = some (.lst ys) → Paired (R H) ys ((List.range n).filterMap f) → Qd H) :
    ∃ W : Nat → Nat → Hp → Prop, (∃ m, W 0 m (upd H1 D (.lst []))) ∧ ∀ i m H, W i m H →
      (J.stop i H ∧ Qd H) ∨ (J.go i H ∧ ∃ Nx : Hp → Prop, (∀ H', Nx H' → ∃ m', m' < m ∧ W (i + 1) m' H') ∧ ∀ x H', J.yld i H x H' → g x (wipe σ vs) H' fun σ2 H2 => wipe σ2 vs = wipe σ vs ∧ tt σ2 H2 fun b H3 =>
        if b = true then te σ2 H3 fun y H4 => ∃ acc, H4 D = some (.lst acc) ∧ acc.length < sizeLine ∧ Nx (upd H4 D (.lst (acc ++ [y]))) else Nx H3) := by
  refine lc_it w (fun i H => Same H1 H ∧ ∃ ys, H D = some (.lst ys) ∧ ys.length ≤ i ∧ Paired (fun y z => R H y z ∧ y ≠ .ref D) ys ((List.range i).filterMap f)) ⟨same_upd nD, [], upd_same, Nat.zero_le _, .nil⟩ (fun i H _ p => hG H p.1) ?_ ?_
  · rintro i x H H' hi ⟨s, ys, hD, hl, hp⟩ y
    refine hs i x H H' ys _ _ hi s hD y (fun y H4 z s4 hy hz r => ?_) (fun H3 s3 hz => ?_)
    · refine ⟨ys, s4 _ _ hD, by omega, sm_write (s.trans s4) nD, ys ++ [y], upd_same, by rw [List.length_append]; simp; omega, ?_⟩
      rw [List.range_succ, List.filterMap_append]
      have e : List.filterMap f [i] = [z] := by simp [hz]
      rw [e]
      have hD4 := s4 _ _ hD
      refine Paired.append (Paired.mapP hp fun y' z' q => ⟨hst H4 _ y' z' ys hD4 But.upd q.2 (hst H H4 y' z' ys hD (sm_but s4) q.2 q.1), q.2⟩) (.cons ⟨hst H4 _ y z ys hD4 But.upd hy r, hy⟩ .nil)
    · refine ⟨s.trans s3, ys, s3 _ _ hD, by omega, ?_⟩
      rw [List.range_succ, List.filterMap_append]
      have e : List.filterMap f [i] = [] := by simp [hz]
      rw [e, List.append_nil]
      exact Paired.mapP hp fun y' z' q => ⟨hst H H3 y' z' ys hD (sm_but s3) q.2 q.1, q.2⟩
  · rintro H ⟨s, ys, hD, _, hp⟩
    exact hd H ys s hD (Paired.mapP hp fun _ _ q => q.1)
/-! what the items of such a list are -/
def RI : Hp → V → Int → Prop := fun _ y z => y = .int z
def RB : Hp → V → Bool → Prop := fun _ y z => y = .bl z
def RT : Hp → V → List Nat → Prop := fun H y z => ∃ t, y = .ref t ∧ TupAt H t z
def RL : Hp → V → List Nat → Prop := fun H y z => ∃ l, y = .ref l ∧ H l = some (.lst (vi z))
theorem RI.st {D : Addr} : ∀ (H H' : Hp) (y : V) (z : Int) (ys : List V), H D = some (.lst ys) → But D H H' → y ≠ .ref D → RI H y z → RI H' y z := fun _ _ _ _ _ _ _ _ h => h
theorem RB.st {D : Addr} : ∀ (H H' : Hp) (y : V) (z : Bool) (ys : List V), H D = some (.lst ys) → But D H H' → y ≠ .ref D → RB H y z → RB H' y z := fun _ _ _ _ _ _ _ _ h => h
theorem RT.st {D : Addr} : ∀ (H H' : Hp) (y : V) (z : List Nat) (ys : List V), H D = some (.lst ys) → But D H H' → y ≠ .ref D → RT H y z → RT H' y z := fun _ _ _ _ _ hD b _ ⟨t, e, h⟩ => ⟨t, e, b t _ (tup_ne h hD) h⟩
theorem RL.st {D : Addr} : ∀ (H H' : Hp) (y : V) (z : List Nat) (ys : List V), H D = some (.lst ys) → But D H H' → y ≠ .ref D → RL H y z → RL H' y z := fun _ _ _ _ _ _ b n ⟨l, e, h⟩ => ⟨l, e, b l _ (fun q => n (by rw [e, q])) h⟩
theorem pairedI {H : Hp} : ∀ {ys : List V} {zs : List Int}, Paired (RI H) ys zs → ys = zs.map V.int
  | _, _, .nil => rfl
  | _, _, .cons h t => by rw [pairedI t, List.map_cons, show _ = V.int _ from h]
theorem pairedB {H : Hp} : ∀ {ys : List V} {zs : List Bool}, Paired (RB H) ys zs → ys = zs.map V.bl
  | _, _, .nil => rfl
  | _, _, .cons h t => by rw [pairedB t, List.map_cons, show _ = V.bl _ from h]
theorem pairedT {H : Hp} : ∀ {ys : List V} {zs : List (List Nat)}, Paired (RT H) ys zs → ∃ ts : List Addr, ys = ts.map V.ref ∧ Tups H ts zs
  | _, _, .nil => ⟨[], rfl, .nil⟩
  | _, _, .cons ⟨t, e, h⟩ r => by
    obtain ⟨ts, e2, h2⟩ := pairedT r
    exact ⟨t :: ts, by rw [e, e2]; rfl, .cons h h2⟩
theorem fm_some {β : Type} {n : Nat} {f : Nat → Option β} {g : Nat → β} (h : ∀ i, i < n → f i = some (g i)) : (List.range n).filterMap f = (List.range n).map g := by
  induction n with
  | zero => rfl
  | succ n ih =>
    rw [List.range_succ, List.filterMap_append, List.map_append, ih fun i hi => h i (by omega)]
    have e := h n (by omega)
    simp [e]
end CC
end
section
set_option Elab.async false
set_option linter.all false
set_option maxRecDepth 100000
set_option maxHeartbeats 2000000
namespace CC
open PySem PySem.Spec PyProof.Rows L2
open Uw55 (Box)
def spot (x : Box) (k : Nat) : List Nat := [x.at_ k 0, x.at_ k 1, x.at_ k 2]
abbrev BoxAt (K : PySem.W.Frag) (H : Hp) (ab : Addr) (x : Box) : Prop := SqT K H ab [.int x.a, .int x.b, .int x.c]
theorem fdiv_nat (k a : Nat) : ((k : Int)).fdiv (a : Int) = ((k / a : Nat) : Int) := by
  rw [Int.fdiv_eq_ediv_of_nonneg _ (by omega)]
  omega
theorem sub_mul_div (k a : Nat) : (k : Int) - (a : Int) * ((k / a : Nat) : Int) = ((k % a : Nat) : Int) := by
  have h := Nat.div_add_mod k a
  have h2 : ((a * (k / a) + k % a : Nat) : Int) = (k : Int) := by rw [h]
  rw [Int.natCast_add, Int.natCast_mul] at h2
  omega
def spSpot (K : PySem.W.Frag) : Sp := fun vs H Q _ => ∃ (ab : Addr) (x : Box) (k : Nat), vs = [.ref ab, .int k] ∧ BoxAt K H ab x ∧ Good x ∧ ∀ H' p, Same H H' → H' p = some (.tup (vi (spot x k))) → Q (.ref p) H'
def spCell (K : PySem.W.Frag) : Sp := fun vs H Q _ => ∃ (ab q : Addr) (x : Box) (i j k : Nat), vs = [.ref ab, .ref q] ∧ BoxAt K H ab x ∧ Good x ∧ i ≤ 1000 ∧ j ≤ 1000 ∧ k ≤ 1000 ∧ SqT K H q [.int i, .int j, .int k] ∧ Q (.int ((i + x.a * (j + x.b * k) : Nat) : Int)) H
def spMany (K : PySem.W.Frag) : Sp := fun vs H Q _ => ∃ (ab : Addr) (a b c : Nat), vs = [.ref ab] ∧ SqT K H ab [.int a, .int b, .int c] ∧ a ≤ 1000 ∧ b ≤ 1000 ∧ Q (.int ((a * b * c : Nat) : Int)) H
def rgI (n : Nat) : List V := (List.range n).map fun i : Nat => V.int (i : Int)
def spCells (K : PySem.W.Frag) : Sp := fun vs H Q _ => ∃ (ab : Addr) (x : Box), vs = [.ref ab] ∧ BoxAt K H ab x ∧ Good x ∧ ∀ p, H p = none → Q (.ref p) (upd H p (.lst (rgI x.cells)))
theorem cells_mul (x : Box) : x.a * x.b * x.c = x.cells := by
  unfold Uw55.Box.cells
  rw [Nat.mul_assoc]
section
variable {P : Program} {w : World} {K : PySem.W.Frag} {mg : Str → Option Value} {base : Heap}
theorem scSpot : FnScope ["box", "cell", "a", "b", "c", "y", "z"] ["box", "cell"] (C8.fnScope sSpot) := C8.fnScope_by (by decide +kernel)
theorem cal_spot (D : Dfn K mg "spot_of" sSpot ["box", "cell"]) : C8.Cal P w K mg base 1 "spot_of" (spSpot K) [] := by
  refine D.cal scSpot (fun vs H Q E h => ?_) (fun f cdv A outer s H vs Q E hr h => ?_)
  · obtain ⟨ab, x, k, rfl, _⟩ := h
    rfl
  · obtain ⟨ab, x, k, rfl, hb, g, q⟩ := h
    refine ⟨_, pss_cons (ps_asg (pv 0) (pg_tup rfl (pgs_cons (pg_name (i := 2) scSpot.nd rfl (.inl rfl)) (pgs_cons (pg_name (i := 3) scSpot.nd rfl (.inl rfl)) (pgs_cons (pg_name (i := 4) scSpot.nd rfl (.inl rfl)) pgs_nil)))))
      (pss_cons (ps_set (i := 5) scSpot.nd rfl (.inl rfl) (pe_op op_fdivN (pv 1) (pv 2)))
      (pss_cons (ps_set (i := 6) scSpot.nd rfl (.inl rfl) (pe_op op_fdivN (pv 5) (pv 3)))
      (pss_one (ps_ret (pe_tup (pa_cons (pe_op op_sub (pv 1) (pe_op op_mul (pv 2) (pv 5))) (pa_cons (pe_op op_sub (pv 5) (pe_op op_mul (pv 3) (pv 6))) (pa_cons (pv 6) pa_nil)))))))), ?_⟩
    have a1 := g.a1
    have a4 := g.a4
    have b1 := g.b1
    have b4 := g.b4
    refine ⟨_, rfl, ab, _, rfl, hb, rfl, _, _, rfl, _, _, rfl, _, _, rfl, rfl, ?_⟩
    refine ⟨_, rfl, _, rfl, _, _, rfl, rfl, ⟨by omega, by omega⟩, ?_⟩
    refine ⟨_, rfl, _, rfl, _, _, rfl, rfl, ⟨by omega, by omega⟩, ?_⟩
    refine ⟨_, rfl, _, rfl, _, rfl, _, _, rfl, rfl, .inl ⟨by omega, by omega⟩, _, _, rfl, rfl, _, rfl, _, rfl, _, rfl, _, _, rfl, rfl, .inl ⟨by omega, by omega⟩, _, _, rfl, rfl, _, rfl, (by show 3 ≤ sizeLine; decide), fun p hp => ?_⟩
    refine q _ p (same_upd hp) ?_
    rw [upd_same]
    show some (HO.tup [V.int ((k : Int) - (x.a : Int) * ((k : Int).fdiv (x.a : Int))), V.int (((k : Int).fdiv (x.a : Int)) - (x.b : Int) * (((k : Int).fdiv (x.a : Int)).fdiv (x.b : Int))), V.int (((k : Int).fdiv (x.a : Int)).fdiv (x.b : Int))]) = _
    rw [fdiv_nat, fdiv_nat, sub_mul_div, sub_mul_div, Nat.div_div_eq_div_mul]
    rfl
theorem scCell : FnScope ["box", "spot", "a", "b", "c"] ["box", "spot"] (C8.fnScope sCell) := C8.fnScope_by (by decide +kernel)
theorem cal_cell (D : Dfn K mg "cell_at" sCell ["box", "spot"]) : C8.Cal P w K mg base 1 "cell_at" (spCell K) [] := by
  refine D.cal scCell (fun vs H Q E h => ?_) (fun f cdv A outer s H vs Q E hr h => ?_)
  · obtain ⟨ab, q, x, i, j, k, rfl, _⟩ := h
    rfl
  · obtain ⟨ab, sq, x, i, j, k, rfl, hb, g, hi, hj, hk, hs, q⟩ := h
    refine ⟨_, pss_cons (ps_asg (pv 0) (pg_tup rfl (pgs_cons (pg_name (i := 2) scCell.nd rfl (.inl rfl)) (pgs_cons (pg_name (i := 3) scCell.nd rfl (.inl rfl)) (pgs_cons (pg_name (i := 4) scCell.nd rfl (.inl rfl)) pgs_nil)))))
      (pss_one (ps_ret (pe_op op_add (pe_ix ix_tup (pv 1) pe_int (fun _ _ => rfl)) (pe_op op_mul (pv 2) (pe_op op_add (pe_ix ix_tup (pv 1) pe_int (fun _ _ => rfl)) (pe_op op_mul (pv 3) (pe_ix ix_tup (pv 1) pe_int (fun _ _ => rfl)))))))), ?_⟩
    have a4 := g.a4
    have b4 := g.b4
    refine ⟨_, rfl, ab, _, rfl, hb, rfl, _, _, rfl, _, _, rfl, _, _, rfl, rfl, ?_⟩
    refine ⟨_, rfl, sq, _, 0, _, rfl, rfl, hs, atI_nat (j := 0) rfl, _, rfl, _, rfl, sq, _, 1, _, rfl, rfl, hs, atI_nat (j := 1) rfl, _, rfl, _, rfl, sq, _, 2, _, rfl, rfl, hs, atI_nat (j := 2) rfl, _, _, rfl, rfl, .inl ⟨by omega, by omega⟩, _, _, rfl, rfl, _, _, rfl, rfl, .inl ⟨by omega, by omega⟩, _, _, rfl, rfl, ?_⟩
    have e : ((i + x.a * (j + x.b * k) : Nat) : Int) = (i : Int) + (x.a : Int) * ((j : Int) + (x.b : Int) * (k : Int)) := by
      rw [Int.natCast_add, Int.natCast_mul, Int.natCast_add, Int.natCast_mul]
    rw [e] at q
    exact q
theorem scMany : FnScope ["box"] ["box"] (C8.fnScope sMany) := C8.fnScope_by (by decide +kernel)
theorem cal_many (D : Dfn K mg "how_many" sMany ["box"]) : C8.Cal P w K mg base 1 "how_many" (spMany K) [] := by
  refine D.cal scMany (fun vs H Q E h => ?_) (fun f cdv A outer s H vs Q E hr h => ?_)
  · obtain ⟨ab, a, b, c, rfl, _⟩ := h
    rfl
  · obtain ⟨ab, a, b, c, rfl, hb, ha, hb2, q⟩ := h
    refine ⟨_, pss_one (ps_ret (pe_op op_mul (pe_op op_mul (pe_ix ix_tup (pv 0) pe_int (fun _ _ => rfl)) (pe_ix ix_tup (pv 0) pe_int (fun _ _ => rfl))) (pe_ix ix_tup (pv 0) pe_int (fun _ _ => rfl)))), ?_⟩
    have hab : (a : Int) * (b : Int) = ((a * b : Nat) : Int) := (Int.natCast_mul a b).symm
    have hle : a * b ≤ 1000 * 1000 := Nat.mul_le_mul ha hb2
    refine ⟨_, rfl, ab, _, 0, _, rfl, rfl, hb, atI_nat (j := 0) rfl, _, rfl, ab, _, 1, _, rfl, rfl, hb, atI_nat (j := 1) rfl, _, _, rfl, rfl, .inl ⟨by omega, by omega⟩, _, rfl, ab, _, 2, _, rfl, rfl, hb, atI_nat (j := 2) rfl, _, _, rfl, rfl, .inl ?_, ?_⟩
    · rw [hab]
      exact ⟨by omega, by omega⟩
    · show Q (V.int ((a : Int) * (b : Int) * (c : Int))) H
      rw [hab, ← Int.natCast_mul]
      exact q
theorem scCells : FnScope ["box"] ["box"] (C8.fnScope sCells) := C8.fnScope_by (by decide +kernel)
theorem rgV_rgI (n : Nat) : rgV 0 (n : Int) = rgI n := by
  unfold rgV rgI
  rw [show ((n : Int) - 0).toNat = n by omega]
  refine List.map_congr_left fun i _ => ?_
  rw [Int.zero_add]
theorem cal_cells (T : Blt mg) (D : Dfn K mg "all_cells" sCells ["box"]) (G : C8.Cal P w K mg base 1 "how_many" (spMany K) []) : C8.Cal P w K mg base 2 "all_cells" (spCells K) [] := by
  refine D.cal scCells (fun vs H Q E h => ?_) (fun f cdv A outer s H vs Q E hr h => ?_)
  · obtain ⟨ab, x, rfl, _⟩ := h
    rfl
  · obtain ⟨ab, x, rfl, hb, g, q⟩ := h
    refine ⟨_, pss_one (ps_ret (pe_listRg rfl (by rfl) T.list (prg_1 (by rfl) T.range (C8.pe_c G hr (by decide) (by rfl) (pa_cons (pv 0) pa_nil))))), ?_⟩
    have a4 := g.a4
    have b4 := g.b4
    have n12 := g.n12
    refine ⟨_, rfl, ab, x.a, x.b, x.c, rfl, hb, by omega, by omega, _, rfl, ?_, fun p hp => ?_⟩
    · rw [cells_mul]
      exact RgOk.of_le (by omega) (by omega) (by omega) (by omega)
    · rw [cells_mul, rgV_rgI]
      exact q p hp
end
end CC
end
section
set_option Elab.async false
set_option linter.all false
set_option maxRecDepth 100000
set_option maxHeartbeats 2000000
namespace CC
open PySem PySem.Spec PyProof.Rows L2
open Uw55 (Box)
def absI (z : Int) : Int := if z < 0 then -z else z
def gapI (x : Box) (k l i : Nat) : Int := absI (((spot x k).getD i 0 : Nat) - ((spot x l).getD i 0 : Nat))
theorem vi_at {l : List Nat} {i : Nat} {u : V} (h : (vi l)[i]? = some u) : u = .int (l.getD i 0 : Nat) := by
  unfold vi at h
  rw [List.getElem?_map] at h
  obtain ⟨n, e, rfl⟩ := Option.map_eq_some_iff.mp h
  rw [List.getD_eq_getElem?_getD, e]
  rfl
theorem beside_is (x : Box) (k l : Nat) : decide (V.int (([gapI x k l 0, gapI x k l 1, gapI x k l 2] : List Int).sum) = V.int 1) = x.beside k l := by
  have e : (([gapI x k l 0, gapI x k l 1, gapI x k l 2] : List Int).sum) = ((Uw55.far (x.step_ k l) : Nat) : Int) := by
    simp only [Box.step_, Uw55.far, List.map_cons, List.map_nil, List.foldl_cons, List.foldl_nil, gapI, absI, spot, List.getD_cons_zero, List.getD_cons_succ, List.sum_cons, List.sum_nil]
    omega
  rw [e]
  unfold Uw55.Box.beside
  by_cases h : Uw55.far (x.step_ k l) = 1
  · rw [h]; rfl
  · have h1 : (Uw55.far (x.step_ k l) == 1) = false := by simpa using h
    rw [h1]
    exact decide_eq_false fun z => h (by have := V.int.inj z; omega)
def spBeside (K : PySem.W.Frag) : Sp := fun vs H Q _ => ∃ (ab : Addr) (x : Box) (k l : Nat), vs = [.ref ab, .int k, .int l] ∧ BoxAt K H ab x ∧ Good x ∧ ∀ H', Same H H' → Q (.bl (x.beside k l)) H'
section
variable {P : Program} {w : World} {K : PySem.W.Frag} {mg : Str → Option Value} {base : Heap}
theorem scBes : FnScope ["box", "one", "other", "p", "q"] ["box", "one", "other"] (C8.fnScope sBeside) := C8.fnScope_by (by decide +kernel)
theorem cal_beside (T : Blt mg) (D : Dfn K mg "are_beside" sBeside ["box", "one", "other"]) (G : C8.Cal P w K mg base 1 "spot_of" (spSpot K) []) : C8.Cal P w K mg base 2 "are_beside" (spBeside K) [] := by
  refine D.cal scBes (fun vs H Q E h => ?_) (fun f cdv A outer s H vs Q E hr h => ?_)
  · obtain ⟨ab, x, k, l, rfl, _⟩ := h
    rfl
  · obtain ⟨ab, x, k, l, rfl, hb, g, q⟩ := h
    refine ⟨_, pss_one (ps_ret (pe_cmpR op_eq (pe_callB (cr_sum rfl) (by rfl) T.sum (by decide +kernel) (pa_cons
      (pe_lc (own := [("p", 3), ("q", 4)]) (g := gTup K 2 (gCons (gName 3) (gCons (gName 4) gNil))) (tt := tYes) rfl scBes.nd (RZ.pi_zipA (by rfl) T.zip (pa_cons (C8.pe_c G hr (by decide) (by rfl) (pa_cons (pv 0) (pa_cons (pv 1) pa_nil))) (pa_cons (C8.pe_c G hr (by decide) (by rfl) (pa_cons (pv 0) (pa_cons (pv 2) pa_nil))) pa_nil)))
        (blkOk_by (N := ["box", "one", "other", "p", "q"]) (sc := C8.fnScope sBeside) (by decide +kernel))
        (fun _ _ _ _ _ => pg_tup rfl (pgs_cons (pg_name (i := 3) scBes.nd rfl (.inl rfl) (.inr rfl)) (pgs_cons (pg_name (i := 4) scBes.nd rfl (.inl rfl) (.inr rfl)) pgs_nil)))
        (fun _ _ _ _ _ => pts_nil) (fun _ _ _ _ _ => pe_callB call_abs (by rfl) T.abs (by decide +kernel) (pa_cons (pe_op op_sub (pv 3) (pv 4)) pa_nil))) pa_nil)) pe_int (nomark _))), ?_⟩
    refine ⟨_, rfl, _, rfl, ab, x, k, rfl, hb, g, fun H1 p s1 hp => ?_⟩
    refine ⟨_, rfl, _, rfl, ab, x, l, rfl, sm_T s1 hb, g, fun H2 r s2 hr2 => ?_⟩
    refine ⟨p, r, _, _, rfl, .inr ⟨sqT (s2 _ _ hp), sqT hr2, fun D nD => ?_⟩⟩
    refine lc_gen (walk_zipT (K := K) (xs := vi (spot x k)) (ys := vi (spot x l)) (n := 3) rfl) RI (fun i => some (gapI x k l i)) nD (by decide) (fun H s => ⟨sqT (s _ _ (s2 _ _ hp)), sqT (s _ _ hr2)⟩) RI.st (fun i v H3 H4 ys K1 K0 hi s3 hD y k1 k0 => ?_) (fun H3 ys s3 hD hpd => ?_)
    · obtain ⟨U, u, v', rfl, nT, rfl, hu, hv⟩ := y
      have eu := vi_at hu
      have ev := vi_at hv
      subst eu ev
      refine ⟨U, _, rfl, sqT upd_same, rfl, _, _, rfl, _, _, rfl, rfl, rfl, ?_⟩
      exact ⟨_, rfl, _, rfl, _, _, rfl, rfl, _, rfl, k1 _ _ _ (same_upd nT) (fun z => by cases z) rfl rfl⟩
    · refine ⟨D, [gapI x k l 0, gapI x k l 1, gapI x k l 2], rfl, sqL (by rw [hD, pairedI hpd]; rfl), rfl, ?_⟩
      rw [beside_is]
      exact q _ ((s1.trans s2).trans s3)
end
end CC
end
section
set_option Elab.async false
set_option linter.all false
set_option maxRecDepth 100000
set_option maxHeartbeats 2000000
namespace CC
open PySem PySem.Spec PyProof.Rows L2
open Uw55 (Box)
/-! ### places of comprehensions in the text -/
def retE (st : Stmt) : Expr := match C8.fnBody st with
  | [.Return (some e) _] => e
  | _ => .Constant .none 0 ⟨0, 0, 0, 0⟩
def lcSc : Expr → Scope
  | .ListComp _ _ sc _ => sc
  | _ => ⟨.function, [], false, false, []⟩
theorem fm_if {β : Type} (q : Nat → Bool) (g : Nat → β) : ∀ l : List Nat, l.filterMap (fun j => if q j = true then some (g j) else none) = (l.filter q).map g
  | [] => rfl
  | a :: l => by
    rw [List.filterMap_cons, List.filter_cons, fm_if q g l]
    cases h : q a <;> simp
theorem rgI_at {n i : Nat} {u : V} (h : (rgI n)[i]? = some u) : u = .int (i : Int) ∧ i < n := by
  unfold rgI at h
  rw [List.getElem?_map] at h
  obtain ⟨k, e, rfl⟩ := Option.map_eq_some_iff.mp h
  obtain ⟨h1, h2⟩ := List.getElem?_eq_some_iff.mp e
  rw [List.getElem_range] at h2
  rw [List.length_range] at h1
  exact ⟨by rw [h2], h1⟩
theorem rgI_len (n : Nat) : (rgI n).length = n := by unfold rgI; rw [List.length_map, List.length_range]
theorem small12 {n : Nat} (h : n ≤ 12) : n ≤ sizeLine := Nat.le_trans h (by decide)
/-- a list of lists of numbers -/
abbrev Rows (H : Hp) (ls : List Addr) (zs : List (List Nat)) : Prop := Paired (fun l z => H l = some (.lst (vi z))) ls zs
theorem pairedL {H : Hp} : ∀ {ys : List V} {zs : List (List Nat)}, Paired (RL H) ys zs → ∃ ts : List Addr, ys = ts.map V.ref ∧ Rows H ts zs
  | _, _, .nil => ⟨[], rfl, .nil⟩
  | _, _, .cons ⟨t, e, h⟩ r => by
    obtain ⟨ts, e2, h2⟩ := pairedL r
    exact ⟨t :: ts, by rw [e, e2]; rfl, .cons h h2⟩
def spNeigh (K : PySem.W.Frag) : Sp := fun vs H Q _ => ∃ (ab : Addr) (x : Box), vs = [.ref ab] ∧ BoxAt K H ab x ∧ Good x ∧ ∀ H' p ls, Same H H' → H' p = some (.lst (ls.map V.ref)) → Rows H' ls ((List.range x.cells).map (nbs x)) → Q (.ref p) H'
section
variable {P : Program} {w : World} {K : PySem.W.Frag} {mg : Str → Option Value} {base : Heap}
theorem scNei : FnScope ["box", "cell", "other"] ["box"] (C8.fnScope sNeigh) := C8.fnScope_by (by decide +kernel)
theorem cal_neigh (T : Blt mg) (D : Dfn K mg "neighbours" sNeigh ["box"]) (GC : C8.Cal P w K mg base 2 "all_cells" (spCells K) []) (GB : C8.Cal P w K mg base 2 "are_beside" (spBeside K) []) : C8.Cal P w K mg base 3 "neighbours" (spNeigh K) [] := by
  refine D.cal scNei (fun vs H Q E h => ?_) (fun f cdv A outer s H vs Q E hr h => ?_)
  · obtain ⟨ab, x, rfl, _⟩ := h
    rfl
  · obtain ⟨ab, x, rfl, hb, g, q⟩ := h
    refine ⟨_, pss_one (ps_ret (pe_lc (own := [("cell", 1)]) (g := gName 1) (tt := tYes) rfl scNei.nd (pi_list (C8.pe_c GC hr (by decide) (by rfl) (pa_cons (pv 0) pa_nil)))
        (blkOk_by (N := ["box", "cell", "other"]) (sc := C8.fnScope sNeigh) (by decide +kernel))
        (fun _ _ _ _ _ => pg_name (i := 1) scNei.nd rfl (.inr rfl) (.inl rfl)) (fun _ _ _ _ _ => pts_nil)
        (fun _ _ _ _ _ => pe_lc (own := [("other", 2)]) (g := gName 2) (wi := iList K (tCall (spCells K) [] C8.E0 (tCons (tVar 0) tNil))) (tt := tB (tCall (spBeside K) [] C8.E0 (tCons (tVar 0) (tCons (tVar 1) (tCons (tVar 2) tNil))))) (te := tVar 2) rfl scNei.nd (pi_list (C8.pe_c GC hr (by decide) (by rfl) (pa_cons (pv 0) pa_nil)))
          (blkOk_by (N := ["box", "cell", "other"]) (sc := relS (lcSc (retE sNeigh)) (C8.fnScope sNeigh)) (by decide +kernel))
          (fun _ _ _ _ _ => pg_name (i := 2) scNei.nd rfl (.inl rfl) (.inr rfl)) (fun _ _ _ _ _ => pts_one (pt_val (C8.pe_c GB hr (by decide) (by rfl) (pa_cons (pv 0) (pa_cons (pv 1) (pa_cons (pv 2) pa_nil))))))
          (fun _ _ _ _ _ => pv 2)))), ?_⟩
    refine ⟨_, rfl, ab, x, rfl, hb, g, fun p hp => ⟨p, rfl, ⟨_, sqL upd_same⟩, fun D nD => ?_⟩⟩
    have s1 : Same H (upd H p (.lst (rgI x.cells))) := same_upd hp
    refine lc_gen (walk_list (K := K) (xs := rgI x.cells)) RL (fun i => some (nbs x i)) nD (by rw [rgI_len]; exact small12 g.n12) (fun H s => sqL (s _ _ upd_same)) RL.st (fun i v H3 H4 ys K1 K0 hi s3 hD y k1 k0 => ?_) (fun H3 ys s3 hD hpd => ?_)
    · obtain ⟨rfl, hv⟩ := y
      obtain ⟨rfl, hic⟩ := rgI_at hv
      have hb3 : BoxAt K H4 ab x := sm_T (s1.trans s3) hb
      refine ⟨rfl, ?_⟩
      refine ⟨_, rfl, ab, x, rfl, hb3, g, fun p2 hp2 => ⟨p2, rfl, ⟨_, sqL upd_same⟩, fun D2 nD2 => ?_⟩⟩
      have s4 : Same H4 (upd H4 p2 (.lst (rgI x.cells))) := same_upd hp2
      have nDD : D2 ≠ D := (ne_of_none (s4 _ _ hD) nD2).symm
      refine lc_gen (walk_list (K := K) (xs := rgI x.cells)) RI (fun j => if x.beside i j = true then some (j : Int) else none) nD2 (by rw [rgI_len]; exact small12 g.n12) (fun H s => sqL (s _ _ upd_same)) RI.st (fun j v H5 H6 ys K1' K0' hj s5 hD2 y k1' k0' => ?_) (fun H5 ys s5 hD2 hpd => ?_)
      · obtain ⟨rfl, hv⟩ := y
        obtain ⟨rfl, hjc⟩ := rgI_at hv
        refine ⟨rfl, ?_⟩
        refine ⟨_, rfl, _, rfl, _, rfl, ab, x, i, j, rfl, sm_T (s4.trans s5) hb3, g, fun H7 s7 => ⟨_, rfl, ?_⟩⟩
        refine ite2 (fun e => ⟨_, rfl, k1' _ _ _ s7 (fun z => by cases z) (if_pos e) rfl⟩) (fun e => k0' _ s7 (if_neg e))
      · refine k1 _ _ _ (s4.trans s5) (fun z => nDD (V.ref.inj z)) rfl ⟨D2, rfl, ?_⟩
        rw [hD2, pairedI hpd, fm_if, rgI_len, List.map_map]
        rfl
    · have e : (List.range (rgI x.cells).length).filterMap (fun i => some (nbs x i)) = (List.range x.cells).map (nbs x) := by
        rw [rgI_len]
        exact fm_some fun i _ => rfl
      rw [e] at hpd
      obtain ⟨ls, rfl, hls⟩ := pairedL hpd
      exact q H3 D ls (s1.trans s3) hD hls
end
end CC
end
section
set_option Elab.async false
set_option linter.all false
set_option maxRecDepth 100000
set_option maxHeartbeats 2000000
namespace CC
open PySem PySem.Spec PyProof.Rows L2
open Uw55 (Box)
/-! ### data -/
theorem dpI {K : PySem.W.Frag} {H : Hp} : ∀ zs : List Int, DpAll K H (zs.map V.int) (zs.map PyData.int)
  | [] => .nil
  | z :: zs => .cons (.int z) (dpI zs)
theorem layI : ∀ zs : List Int, PyData.canLayAll0 (zs.map PyData.int) = true
  | [] => by rw [List.map_nil, PyData.canLayAll0]
  | z :: zs => by rw [List.map_cons, PyData.canLayAll0, layI zs, PyData.canLay0]; rfl
theorem depI : ∀ zs : List Int, PyData.depthAll (zs.map PyData.int) ≤ 1
  | [] => by rw [List.map_nil, PyData.depthAll]; omega
  | z :: zs => by
    have ih := depI zs
    rw [List.map_cons, PyData.depthAll, PyData.depth]
    omega
theorem shL (zs : List Int) : SeqAt.shaped (.list (zs.map PyData.int)) = true := by
  unfold SeqAt.shaped
  rw [PyData.canLay0, layI, PyData.depth]
  have := depI zs
  exact decide_eq_true (by omega)
theorem shT (zs : List Int) : SeqAt.shaped (.tuple (zs.map PyData.int)) = true := by
  unfold SeqAt.shaped
  rw [PyData.canLay0, layI, PyData.depth]
  have := depI zs
  exact decide_eq_true (by omega)
theorem eqvI : ∀ zs ys : List Int, PyData.eqvAll (zs.map PyData.int) (ys.map PyData.int) = decide (zs = ys)
  | [], [] => by simp [PyData.eqvAll]
  | [], _ :: _ => by simp [PyData.eqvAll]
  | _ :: _, [] => by simp [PyData.eqvAll]
  | z :: zs, y :: ys => by
    rw [List.map_cons, List.map_cons, PySem.W.eqv_all_cons, eqvI zs ys]
    simp [PyData.eqv]
    rfl
theorem eqvL (zs ys : List Int) : PyData.eqv (.list (zs.map PyData.int)) (.list (ys.map PyData.int)) = decide (zs = ys) := by rw [PyData.eqv, eqvI]
theorem eqvT (zs ys : List Int) : PyData.eqv (.tuple (zs.map PyData.int)) (.tuple (ys.map PyData.int)) = decide (zs = ys) := by rw [PyData.eqv, eqvI]
/-! ### where a path turns -/
def turnN (x : Box) (i j k : Nat) : Nat := if x.step_ i j = x.step_ j k then 0 else 1
theorem turn_is (x : Box) (i j k : Nat) : (if (!decide (([0, 1, 2].map fun m : Nat => ((((spot x i).getD m 0 : Nat) : Int) + (((spot x k).getD m 0 : Nat) : Int))) = ([0, 1, 2].map fun m : Nat => (2 * (((spot x j).getD m 0 : Nat) : Int))))) = true then (1 : Int) else 0) = ((turnN x i j k : Nat) : Int) := by
  unfold turnN
  have e : (([0, 1, 2].map fun m : Nat => ((((spot x i).getD m 0 : Nat) : Int) + (((spot x k).getD m 0 : Nat) : Int))) = ([0, 1, 2].map fun m : Nat => (2 * (((spot x j).getD m 0 : Nat) : Int)))) ↔ x.step_ i j = x.step_ j k := by
    simp only [Uw55.Box.step_, spot, List.map_cons, List.map_nil, List.getD_cons_zero, List.getD_cons_succ, List.cons.injEq, and_true]
    omega
  by_cases h : x.step_ i j = x.step_ j k
  · rw [if_pos h, decide_eq_true (e.mpr h)]
    rfl
  · rw [if_neg h, decide_eq_false (fun z => h (e.mp z))]
    rfl
theorem chain_turn (x : Box) (p : List Nat) : x.chain p = (List.range (p.length - 2)).map fun i => turnN x (p.getD i 0) (p.getD (i + 1) 0) (p.getD (i + 2) 0) := rfl
def spTurns (K : PySem.W.Frag) : Sp := fun vs H Q _ => ∃ (ab : Addr) (x : Box) (i j k : Nat), vs = [.ref ab, .int i, .int j, .int k] ∧ BoxAt K H ab x ∧ Good x ∧ ∀ H', Same H H' → Q (.int (turnN x i j k : Nat)) H'
def spChain (K : PySem.W.Frag) : Sp := fun vs H Q _ => ∃ (ab ap : Addr) (x : Box) (p : List Nat), vs = [.ref ab, .ref ap] ∧ BoxAt K H ab x ∧ Good x ∧ SqT K H ap (vi p) ∧ p.length ≤ 1000 ∧ ∀ H' t, Same H H' → TupAt H' t (x.chain p) → Q (.ref t) H'
section
variable {P : Program} {w : World} {K : PySem.W.Frag} {mg : Str → Option Value} {base : Heap}
theorem scTu : FnScope ["box", "ahead", "cell", "behind", "ends", "p", "q"] ["box", "ahead", "cell", "behind"] (C8.fnScope sTurns) := C8.fnScope_by (by decide +kernel)
theorem cal_turns (T : Blt mg) (D : Dfn K mg "turns_at" sTurns ["box", "ahead", "cell", "behind"]) (G : C8.Cal P w K mg base 1 "spot_of" (spSpot K) []) : C8.Cal P w K mg base 2 "turns_at" (spTurns K) [] := by
  refine D.cal scTu (fun vs H Q E h => ?_) (fun f cdv A outer s H vs Q E hr h => ?_)
  · obtain ⟨ab, x, i, j, k, rfl, _⟩ := h
    rfl
  · obtain ⟨ab, x, i, j, k, rfl, hb, g, q⟩ := h
    refine ⟨_, pss_cons (ps_setLc (i := 4) (own := [("p", 5), ("q", 6)]) (g := gTup K 2 (gCons (gName 5) (gCons (gName 6) gNil))) (tt := tYes) rfl scTu.nd rfl rfl (sw_true rfl rfl rfl (by decide +kernel))
        (RZ.pi_zipA (by rfl) T.zip (pa_cons (C8.pe_c G hr (by decide) (by rfl) (pa_cons (pv 0) (pa_cons (pv 1) pa_nil))) (pa_cons (C8.pe_c G hr (by decide) (by rfl) (pa_cons (pv 0) (pa_cons (pv 3) pa_nil))) pa_nil)))
        (blkOk_by (N := ["box", "ahead", "cell", "behind", "ends", "p", "q"]) (sc := C8.fnScope sTurns) (by decide +kernel))
        (fun _ _ _ _ _ => pg_tup rfl (pgs_cons (pg_name (i := 5) scTu.nd rfl (.inl rfl) (.inr rfl)) (pgs_cons (pg_name (i := 6) scTu.nd rfl (.inl rfl) (.inr rfl)) pgs_nil)))
        (fun _ _ _ _ _ => pts_nil) (fun _ _ _ _ _ => pe_op op_add (pv 5) (pv 6)))
      (pss_one (ps_ret (pe_callTy call_int1 (by rfl) T.int (by decide +kernel) (pa_cons (pe_cmpR (op_neD hr.units) (pv 4)
        (pe_lc (own := [("p", 5)]) (g := gName 5) (tt := tYes) rfl scTu.nd (pi_tup (C8.pe_c G hr (by decide) (by rfl) (pa_cons (pv 0) (pa_cons (pv 2) pa_nil))))
          (blkOk_by (N := ["box", "ahead", "cell", "behind", "ends", "p", "q"]) (sc := C8.fnScope sTurns) (by decide +kernel))
          (fun _ _ _ _ _ => pg_name (i := 5) scTu.nd rfl (.inl rfl) (.inr rfl)) (fun _ _ _ _ _ => pts_nil) (fun _ _ _ _ _ => pe_op op_mul pe_int (pv 5))) (nomark _)) pa_nil)))), ?_⟩
    refine ⟨_, rfl, _, rfl, ab, x, i, rfl, hb, g, fun H1 p s1 hp => ?_⟩
    refine ⟨_, rfl, _, rfl, ab, x, k, rfl, sm_T s1 hb, g, fun H2 r s2 hr2 => ?_⟩
    refine ⟨p, r, _, _, rfl, .inr ⟨sqT (s2 _ _ hp), sqT hr2, fun D nD => ?_⟩⟩
    refine lc_gen (walk_zipT (K := K) (xs := vi (spot x i)) (ys := vi (spot x k)) (n := 3) rfl) RI (fun m => some ((((spot x i).getD m 0 : Nat) : Int) + (((spot x k).getD m 0 : Nat) : Int))) nD (by decide) (fun H s => ⟨sqT (s _ _ (s2 _ _ hp)), sqT (s _ _ hr2)⟩) RI.st (fun m v H3 H4 ys K1 K0 hi s3 hD y k1 k0 => ?_) (fun H3 ys s3 hD hpd => ?_)
    · obtain ⟨U, u, v', rfl, nT, rfl, hu, hv⟩ := y
      have eu := vi_at hu
      have ev := vi_at hv
      subst eu ev
      refine ⟨U, _, rfl, sqT upd_same, rfl, _, _, rfl, _, _, rfl, rfl, rfl, ?_⟩
      exact ⟨_, rfl, _, rfl, _, _, rfl, rfl, k1 _ _ _ (same_upd nT) (fun z => by cases z) rfl rfl⟩
    · have s03 : Same H H3 := (s1.trans s2).trans s3
      have eD : H3 D = some (.lst (([0, 1, 2].map fun m : Nat => ((((spot x i).getD m 0 : Nat) : Int) + (((spot x k).getD m 0 : Nat) : Int))).map V.int)) := by
        rw [hD, pairedI hpd]
        rfl
      refine ⟨_, rfl, _, rfl, _, rfl, ab, x, j, rfl, sm_T s03 hb, g, fun H5 t s5 ht => ⟨t, rfl, ⟨_, sqT ht⟩, fun D2 nD2 => ?_⟩⟩
      refine lc_gen (walk_tup (K := K) (xs := vi (spot x j))) RI (fun m => some (2 * (((spot x j).getD m 0 : Nat) : Int))) nD2 (by rw [vi_len]; show 3 ≤ sizeLine; decide) (fun H s => sqT (s _ _ ht)) RI.st (fun m v H6 H7 ys K1 K0 hi s6 hD2 y k1 k0 => ?_) (fun H6 ys s6 hD2 hpd2 => ?_)
      · obtain ⟨rfl, hv⟩ := y
        have ev := vi_at hv
        subst ev
        refine ⟨rfl, ?_⟩
        exact ⟨_, rfl, _, _, rfl, rfl, .inl ⟨by decide, by decide⟩, k1 _ _ _ (Same.refl _) (fun z => by cases z) rfl rfl⟩
      · have eD2 : H6 D2 = some (.lst (([0, 1, 2].map fun m : Nat => (2 * (((spot x j).getD m 0 : Nat) : Int))).map V.int)) := by
          rw [hD2, pairedI hpd2]
          rfl
        refine ⟨_, _, .lst (sqL (s6 _ _ (s5 _ _ eD))) (dpI _), .lst (sqL eD2) (dpI _), shL _, shL _, .inr ⟨_, rfl, ?_⟩⟩
        rw [eqvL, turn_is]
        exact q _ ((s03.trans s5).trans s6)
theorem scCh : FnScope ["box", "path", "k"] ["box", "path"] (C8.fnScope sChain) := C8.fnScope_by (by decide +kernel)
theorem vi_get {p : List Nat} {i : Nat} (h : i < p.length) : (vi p)[i]? = some (.int (p.getD i 0 : Nat)) := by
  unfold vi
  rw [List.getElem?_map, List.getElem?_eq_getElem h, List.getD_eq_getElem?_getD, List.getElem?_eq_getElem h]
  rfl
theorem cal_chain (T : Blt mg) (D : Dfn K mg "chain_of" sChain ["box", "path"]) (G : C8.Cal P w K mg base 2 "turns_at" (spTurns K) []) : C8.Cal P w K mg base 3 "chain_of" (spChain K) [] := by
  refine D.cal scCh (fun vs H Q E h => ?_) (fun f cdv A outer s H vs Q E hr h => ?_)
  · obtain ⟨ab, ap, x, p, rfl, _⟩ := h
    rfl
  · obtain ⟨ab, ap, x, p, rfl, hb, g, hP, hl, q⟩ := h
    refine ⟨_, pss_one (ps_ret (pe_tupleOf (by rfl) T.tuple (pe_lc (own := [("k", 2)]) (g := gName 2) (tt := tYes) (te := tCall (spTurns K) [] C8.E0 (tCons (tVar 0) (tCons (tOp (rIxT K) (tVar 1) (tOp (rI0 fun i j => .int (i - j)) (tVar 2) (tC (.int 1)))) (tCons (tOp (rIxT K) (tVar 1) (tVar 2)) (tCons (tOp (rIxT K) (tVar 1) (tOp (rI0 fun i j => .int (i + j)) (tVar 2) (tC (.int 1)))) tNil)))))
      rfl scCh.nd (pi_range2 (by rfl) T.range (pa_cons pe_int (pa_cons (pe_op op_sub (pe_callB call_len_seq (by rfl) T.len PySem.boot_len (pa_cons (pv 1) pa_nil)) pe_int) pa_nil)))
        (blkOk_by (N := ["box", "path", "k"]) (sc := C8.fnScope sChain) (by decide +kernel))
        (fun _ _ _ _ _ => pg_name (i := 2) scCh.nd rfl (.inl rfl) (.inr rfl)) (fun _ _ _ _ _ => pts_nil)
        (fun _ _ _ _ _ => C8.pe_c G hr (by decide) (by rfl) (pa_cons (pv 0) (pa_cons (pe_ix ix_tup (pv 1) (pe_op op_sub (pv 2) pe_int) (fun _ _ => rfl)) (pa_cons (pe_ix ix_tup (pv 1) (pv 2) (fun _ _ => rfl)) (pa_cons (pe_ix ix_tup (pv 1) (pe_op op_add (pv 2) pe_int) (fun _ _ => rfl)) pa_nil)))))))), ?_⟩
    have en : (((vi p).length : Int) - 1 - 1).toNat = p.length - 2 := by rw [vi_len]; omega
    refine ⟨_, rfl, ap, _, rfl, .inr hP, _, _, rfl, rfl, _, _, rfl, ⟨by decide, by decide, ?_, ?_⟩, fun D nD => ?_⟩
    · rw [vi_len]; show (-(2 ^ 62) : Int) ≤ (p.length : Int) - 1; omega
    · rw [vi_len]; show (p.length : Int) - 1 < 2 ^ 62; omega
    show ∃ W : Nat → Nat → Hp → Prop, _
    rw [show (((vi p).length : Int) - 1 - 1).toNat = p.length - 2 from en]
    refine lc_gen (walk_range (lo := 1) (n := p.length - 2)) RI (fun i => some ((turnN x (p.getD i 0) (p.getD (i + 1) 0) (p.getD (i + 2) 0) : Nat) : Int)) nD (Nat.le_trans (by omega : p.length - 2 ≤ 1000) (by decide)) (fun _ _ => trivial) RI.st (fun i v H3 H4 ys K1 K0 hi s3 hD y k1 k0 => ?_) (fun H3 ys s3 hD hpd => ?_)
    · obtain ⟨rfl, rfl⟩ := y
      have hP3 := sm_T s3 hP
      refine ⟨rfl, ?_⟩
      refine ⟨_, rfl, _, rfl, _, rfl, _, _, rfl, rfl, ap, _, _, _, rfl, rfl, hP3, at_of (j := i) (by omega) (vi_get (by omega)), _, rfl, _, rfl, ap, _, _, _, rfl, rfl, hP3, at_of (j := i + 1) (by omega) (vi_get (by omega)), _, rfl, _, rfl, _, _, rfl, rfl, ap, _, _, _, rfl, rfl, hP3, at_of (j := i + 2) (by omega) (vi_get (by omega)),
        ab, x, p.getD i 0, p.getD (i + 1) 0, p.getD (i + 2) 0, rfl, sm_T s3 hb, g, fun H5 s5 => k1 _ _ _ s5 (fun z => by cases z) rfl rfl⟩
    · rw [pairedI hpd, fm_some (g := fun i => ((turnN x (p.getD i 0) (p.getD (i + 1) 0) (p.getD (i + 2) 0) : Nat) : Int)) (fun i _ => rfl)] at hD
      refine .inl ⟨D, _, rfl, sqL hD, fun t nt => ?_⟩
      refine q _ t (s3.trans (same_upd nt)) ?_
      show upd _ _ _ _ = _
      rw [upd_same, chain_turn]
      unfold vi
      rw [List.map_map, List.map_map]
      rfl
end
end CC
end
section
set_option Elab.async false
set_option linter.all false
set_option maxRecDepth 100000
set_option maxHeartbeats 2000000
namespace CC
open PySem PySem.Spec PyProof.Rows L2
open Uw55 (Box)
theorem cut_take (xs : List V) (i : Nat) : cutV xs none (some (i : Int)) = xs.take i := by
  unfold cutV
  rw [HT.sIx_nat, HT.sIx_none, List.drop_zero, Nat.sub_zero]
  by_cases h : i ≤ xs.length
  · rw [Nat.min_eq_left h]
  · rw [Nat.min_eq_right (by omega), List.take_length, List.take_of_length_le (by omega)]
theorem vi_take (l : List Nat) (i : Nat) : (vi l).take i = vi (l.take i) := by
  unfold vi
  rw [List.map_take]
theorem vi_flat : ∀ l : List Nat, (vi l).all flatV = true
  | [] => rfl
  | _ :: l => vi_flat l
theorem inV_vi (c : Nat) : ∀ l : List Nat, inV (.int c) (vi l) = l.contains c
  | [] => rfl
  | a :: l => by
    have ih := inV_vi c l
    unfold inV at ih ⊢
    show (eqV (.int a) (.int c) || (vi l).any _) = _
    rw [ih, List.contains_cons]
    congr 1
    show ((a : Int) == (c : Int)) = (c == a)
    by_cases e : a = c
    · subst e; simp
    · have h1 : ((a : Int) == (c : Int)) = false := by rw [beq_eq_false_iff_ne]; omega
      have h2 : (c == a) = false := by rw [beq_eq_false_iff_ne]; omega
      rw [h1, h2]
def faultI (x : Box) (p : List Nat) : Int := match x.fault p with
  | some i => (i : Int)
  | none => -1
def spWrong (K : PySem.W.Frag) : Sp := fun vs H Q _ => ∃ (ab ap : Addr) (x : Box) (p : List Nat), vs = [.ref ab, .ref ap] ∧ BoxAt K H ab x ∧ Good x ∧ SqT K H ap (vi p) ∧ p.length ≤ 1000 ∧ ∀ H', Same H H' → Q (.int (faultI x p)) H'
section
variable {P : Program} {w : World} {K : PySem.W.Frag} {mg : Str → Option Value} {base : Heap}
theorem scWr : FnScope ["box", "cells", "k", "cell"] ["box", "cells"] (C8.fnScope sWrong) := C8.fnScope_by (by decide +kernel)
theorem cal_wrong (T : Blt mg) (D : Dfn K mg "first_wrong" sWrong ["box", "cells"]) (GM : C8.Cal P w K mg base 1 "how_many" (spMany K) []) (GB : C8.Cal P w K mg base 2 "are_beside" (spBeside K) []) : C8.Cal P w K mg base 3 "first_wrong" (spWrong K) [] := by
  refine D.cal scWr (fun vs H Q E h => ?_) (fun f cdv A outer s H vs Q E hr h => ?_)
  · obtain ⟨ab, ap, x, p, rfl, _⟩ := h
    rfl
  · obtain ⟨ab, ap, x, p, rfl, hb, g, hP, hl, q⟩ := h
    refine ⟨_, pss_cons (ps_for PassesOwn.never rfl (pi_enumT (by rfl) T.enumerate (pa_cons (pv 1) pa_nil)) (pg_tup rfl (pgs_cons (pg_name (i := 2) scWr.nd rfl (.inl rfl)) (pgs_cons (pg_name (i := 3) scWr.nd rfl (.inl rfl)) pgs_nil)))
        (pss_one (ps_if (PW.pt (pw_or (pt_cmpR op_ge (pv 3) (C8.pe_c GM hr (by decide) (by rfl) (pa_cons (pv 0) pa_nil)) (nomark _))
            (pw_or (pt_cmpR op_in_seq (pv 3) (pe_slice sl_tupA (pv 1) po_none (po_some (pv 2))) (by rfl))
            (pw_or1 (PW.pt (pw_and (pt_cmpR op_gt (pv 2) pe_int (nomark _)) (pw_and1 (pt_not (pt_val (C8.pe_c GB hr (by decide) (by rfl) (pa_cons (pv 0) (pa_cons (pe_ix ix_tup (pv 1) (pe_op op_sub (pv 2) pe_int) (fun _ _ => rfl)) (pa_cons (pv 3) pa_nil)))))))))))))
          (pss_one (ps_ret (pv 2))) pss_nil)))
      (pss_one (ps_ret (pe_un un_neg pe_int))), ?_⟩
    have a4 := g.a4
    have b4 := g.b4
    refine ⟨_, rfl, ap, _, rfl, hP, ?_⟩
    refine for_enumT (K := K) (xs := vi p) (fun i σ H' => ∃ v2 v3, σ = [some (.ref ab), some (.ref ap), v2, v3] ∧ Same H H' ∧ ∀ j, j < i → wrongAt x p j = false)
      ⟨none, none, rfl, Same.refl H, fun j hj => absurd hj (by omega)⟩ (fun i σ H' ⟨_, _, _, s1, _⟩ => sm_T s1 hP) (fun i v U σ H1 hv ⟨v2, v3, e, s1, hj⟩ nU => ?_) (fun σ H1 ⟨v2, v3, e, s1, hj⟩ => ?_)
    · subst e
      have hi : i < p.length := by have := (List.getElem?_eq_some_iff.mp hv).1; rw [vi_len] at this; exact this
      have ev := vi_at hv
      subst ev
      have s2 : Same H (upd H1 U (.tup [.int (i : Nat), .int (p.getD i 0 : Nat)])) := s1.trans (same_upd nU)
      refine ⟨U, _, rfl, sqT upd_same, rfl, _, _, rfl, _, _, rfl, rfl, ?_⟩
      generalize upd H1 U (.tup [.int (i : Nat), .int (p.getD i 0 : Nat)]) = H2 at s2 ⊢
      generalize hc : p.getD i 0 = c
      have yes : wrongAt x p i = true → ∀ H3, Same H H3 → Q (.int (i : Nat)) H3 := fun hw H3 s3 => by
        have e : faultI x p = (i : Int) := by
          unfold faultI
          rw [fault_some hi hw hj]
        have := q H3 s3
        rw [e] at this
        exact this
      have no : wrongAt x p i = false → ∀ j, j < i + 1 → wrongAt x p j = false := fun hw j hj' => by
        rcases Nat.lt_succ_iff_lt_or_eq.mp hj' with h | h
        · exact hj j h
        · rw [h]; exact hw
      unfold wrongAt at yes no
      rw [hc] at yes no
      have hb2 := sm_T s2 hb
      refine ⟨_, rfl, _, rfl, ab, x.a, x.b, x.c, rfl, hb2, by omega, by omega, _, _, rfl, rfl, _, rfl, ?_⟩
      rw [cells_mul]
      refine ite2 (fun e => ?_) (fun e => ?_)
      · have h1 : x.cells ≤ c := by have := of_decide_eq_true e; omega
        exact ⟨_, rfl, yes (by rw [decide_eq_true h1]; rfl) _ s2⟩
      · have h1 : ¬ x.cells ≤ c := fun z => e (decide_eq_true (by omega))
        rw [decide_eq_false h1, Bool.false_or] at yes no
        refine ⟨_, rfl, _, rfl, _, rfl, _, rfl, ap, _, rfl, sm_T s2 hP, fun w => ?_, fun _ t nt => ?_⟩
        · exfalso
          have w2 := w.2
          rw [HT.sIx_nat, vi_len] at w2
          omega
        · have s3 : Same H (upd H2 t (.tup (cutV (vi p) none (some (i : Int))))) := s2.trans (same_upd nt)
          refine ⟨t, _, rfl, .inr (sqT upd_same), rfl, by rw [cut_take, vi_take]; exact vi_flat _, _, rfl, ?_⟩
          generalize upd H2 t (.tup (cutV (vi p) none (some (i : Int)))) = H3 at s3 ⊢
          rw [cut_take, vi_take]
          show if inV (.int (c : Nat)) (vi (p.take i)) = true then _ else _
          rw [inV_vi]
          refine ite2 (fun e2 => ?_) (fun e2 => ?_)
          · exact ⟨_, rfl, yes (by rw [e2]; rfl) _ s3⟩
          · have h2 : (p.take i).contains c = false := by simpa using e2
            rw [h2, Bool.false_or] at yes no
            refine ⟨_, rfl, _, _, rfl, rfl, _, rfl, ite2 (fun e3 => ?_) (fun e3 => ?_)⟩
            · have h3 : 0 < i := by have := of_decide_eq_true e3; omega
              rw [decide_eq_true h3, Bool.true_and] at yes no
              refine ⟨_, rfl, _, rfl, _, rfl, _, _, rfl, rfl, ap, _, _, _, rfl, rfl, sm_T s3 hP, at_of (j := i - 1) (by omega) (vi_get (by omega)), _, rfl, ab, x, p.getD (i - 1) 0, c, rfl, sm_T s3 hb, g, fun H4 s4 => ⟨_, rfl, ?_⟩⟩
              refine ite2 (fun e4 => ?_) (fun e4 => ?_)
              · exact ⟨_, rfl, yes e4 _ (s3.trans s4)⟩
              · exact ⟨_, _, rfl, s3.trans s4, no (by simpa using e4)⟩
            · have h3 : ¬ 0 < i := fun z => e3 (decide_eq_true (by omega))
              rw [decide_eq_false h3] at yes no
              exact ⟨_, _, rfl, s3, no rfl⟩
    · subst e
      rw [vi_len] at hj
      refine ⟨1, rfl, ?_⟩
      have e : faultI x p = -1 := by
        unfold faultI
        rw [fault_none hj]
      have := q H1 s1
      rw [e] at this
      exact this
end
end CC
end
section
set_option Elab.async false
set_option linter.all false
set_option maxRecDepth 100000
set_option maxHeartbeats 2000000
namespace CC
open PySem PySem.Spec PyProof.Rows L2
open Uw55 (Box)
theorem fm_at {β : Type} {F : Nat → Option β} : ∀ l : List Nat, (List.range l.length).filterMap (fun m => F (l.getD m 0)) = l.filterMap F := by
  intro l
  have e : (List.range l.length).filterMap (fun m => F (l.getD m 0)) = ((List.range l.length).map fun m => l.getD m 0).filterMap F := by
    rw [List.filterMap_map]
    rfl
  have e2 : (List.range l.length).map (fun m => l.getD m 0) = l := by
    refine List.ext_getElem? fun j => ?_
    rw [List.getElem?_map]
    by_cases h : j < l.length
    · rw [List.getElem?_range h]
      exact (getElem?_getD h).symm
    · rw [List.getElem?_eq_none (by rw [List.length_range]; omega), List.getElem?_eq_none (by omega)]
      rfl
  rw [e, e2]
theorem fm_if' {β : Type} (q : Nat → Bool) (g : Nat → β) (l : List Nat) : l.filterMap (fun j => if q j = true then some (g j) else none) = (l.filter q).map g := fm_if q g l
theorem ext_fm (x : Box) (p : List Nat) : (List.range (nbs x (p.getLastD 0)).length).filterMap (fun m => if (!p.contains ((nbs x (p.getLastD 0)).getD m 0)) = true then some (p ++ [(nbs x (p.getLastD 0)).getD m 0]) else none) = extF x p := by
  rw [fm_at (F := fun c => if (!p.contains c) = true then some (p ++ [c]) else none), fm_if (fun c => !p.contains c) (fun c => p ++ [c])]
  rfl
theorem last_at {p : List Nat} (h : p ≠ []) : atI (vi p) (-1) = some (.int (p.getLastD 0 : Nat)) := by
  have e : p = p.dropLast ++ [p.getLastD 0] := by
    rw [List.getLastD_eq_getLast?, List.getLast?_eq_some_getLast h]
    exact (List.dropLast_concat_getLast h).symm
  have e2 : vi p = vi p.dropLast ++ [.int (p.getLastD 0 : Nat)] := by
    conv => lhs; rw [e]
    unfold vi
    rw [List.map_append]
    rfl
  rw [e2]
  exact atI_last _ _
theorem take_flat_le {α β : Type} {f : α → List β} : ∀ (l : List α) (j : Nat), ((l.take j).flatMap f).length ≤ (l.flatMap f).length := fun l j => by
  conv => rhs; rw [← List.take_append_drop j l, List.flatMap_append, List.length_append]
  omega
theorem flat_snoc {α β : Type} {f : α → List β} {l : List α} {j : Nat} {a : α} (h : l[j]? = some a) : (l.take (j + 1)).flatMap f = (l.take j).flatMap f ++ f a := by
  rw [take_snoc h, List.flatMap_append]
  simp
def spPaths (K : PySem.W.Frag) : Sp := fun vs H Q _ => ∃ (ab : Addr) (x : Box), vs = [.ref ab] ∧ BoxAt K H ab x ∧ Good x ∧ ∀ H' p ts, Same H H' → H' p = some (.lst (ts.map V.ref)) → Tups H' ts x.all → Q (.ref p) H'
section
variable {P : Program} {w : World} {K : PySem.W.Frag} {mg : Str → Option Value} {base : Heap}
abbrev nPa : List Str := ["box", "beside", "paths", "turn", "longer", "path", "cell"]
theorem scPa : FnScope nPa ["box"] (C8.fnScope sPaths) := C8.fnScope_by (by decide +kernel)
theorem cal_paths (T : Blt mg) (D : Dfn K mg "all_paths" sPaths ["box"]) (GN : C8.Cal P w K mg base 3 "neighbours" (spNeigh K) []) (GC : C8.Cal P w K mg base 2 "all_cells" (spCells K) []) : C8.Cal P w K mg base 4 "all_paths" (spPaths K) [] := by
  refine D.cal scPa (fun vs H Q E h => ?_) (fun f cdv A outer s H vs Q E hr h => ?_)
  · obtain ⟨ab, x, rfl, _⟩ := h
    rfl
  · obtain ⟨ab, x, rfl, hb, g, q⟩ := h
    refine ⟨_, pss_cons (ps_set (i := 1) scPa.nd rfl (.inl rfl) (C8.pe_c GN hr (by decide) (by rfl) (pa_cons (pv 0) pa_nil)))
      (pss_cons (ps_setLc (i := 2) (own := [("cell", 6)]) (g := gName 6) (tt := tYes) rfl scPa.nd rfl rfl (sw_true rfl rfl rfl (by decide +kernel)) (pi_list (C8.pe_c GC hr (by decide) (by rfl) (pa_cons (pv 0) pa_nil)))
        (blkOk_by (N := nPa) (sc := C8.fnScope sPaths) (by decide +kernel))
        (fun _ _ _ _ _ => pg_name (i := 6) scPa.nd rfl (.inl rfl) (.inr rfl)) (fun _ _ _ _ _ => pts_nil) (fun _ _ _ _ _ => pe_tup (pa_cons (pv 6) pa_nil)))
      (pss_cons (ps_for PassesOwn.never rfl (pi_range1 rfl T.range (pa_cons (pe_op op_sub (pe_callB call_len_seq (by rfl) T.len PySem.boot_len (pa_cons (pv 1) pa_nil)) pe_int) pa_nil)) (pg_name (i := 3) scPa.nd rfl (.inl rfl))
        (pss_cons (ps_set (i := 4) scPa.nd rfl (.inl rfl) (pe_lst pa_nil))
        (pss_cons (ps_for PassesOwn.never rfl (pi_list (pv 2)) (pg_name (i := 5) scPa.nd rfl (.inr rfl))
          (pss_one (ps_expr (pe_bm PySem.F.plainAttrs_list PySem.F.slot_list_extend PySem.F.type_list_extend mt_extend (pv 4) (pa_cons
            (pe_lc (own := [("cell", 6)]) (g := gName 6) (tt := tB (tOp (rIn K true) (tVar 6) (tVar 5))) (te := tOp (rCatA K) (tVar 5) (tTup (tCons (tVar 6) tNil))) rfl scPa.nd (pi_list (pe_ix ix_list (pv 1) (pe_ix ix_tup (pv 5) (pe_un un_neg pe_int) (fun _ _ => rfl)) (fun _ _ => rfl)))
              (blkOk_by (N := nPa) (sc := C8.fnScope sPaths) (by decide +kernel))
              (fun _ _ _ _ _ => pg_name (i := 6) scPa.nd rfl (.inl rfl) (.inr rfl)) (fun _ _ _ _ _ => pts_one (pt_cmpR op_notIn_seq (pv 6) (pv 5) (by rfl))) (fun _ _ _ _ _ => pe_op op_catA (pv 5) (pe_tup (pa_cons (pv 6) pa_nil)))) pa_nil)))))
        (pss_one (ps_set (i := 2) scPa.nd rfl (.inl rfl) (pv 4))))))
      (pss_one (ps_ret (pv 2))))), ?_⟩
    have n2 := g.n2
    have n12 := g.n12
    refine ⟨_, rfl, ab, x, rfl, hb, g, fun H1 pb ls s1 hpb hls => ?_⟩
    refine ⟨_, rfl, ab, x, rfl, sm_T s1 hb, g, fun pc hpc => ⟨pc, rfl, ⟨_, sqL upd_same⟩, fun D nD => ?_⟩⟩
    have s2 : Same H1 (upd H1 pc (.lst (rgI x.cells))) := same_upd hpc
    refine lc_gen (walk_list (K := K) (xs := rgI x.cells)) RT (fun i => some [i]) nD (by rw [rgI_len]; exact small12 g.n12) (fun H s => sqL (s _ _ upd_same)) RT.st (fun i v H3 H4 ys K1 K0 hi s3 hD y k1 k0 => ?_) (fun H3 ys s3 hD hpd => ?_)
    · obtain ⟨rfl, hv⟩ := y
      obtain ⟨rfl, hic⟩ := rgI_at hv
      refine ⟨rfl, _, rfl, (by show 1 ≤ sizeLine; decide), fun t nt => k1 _ _ _ (same_upd nt) (fun z => ne_of_none hD nt (V.ref.inj z).symm) rfl ⟨t, rfl, upd_same⟩⟩
    · rw [fm_some (g := fun i => [i]) (fun i _ => rfl), rgI_len] at hpd
      obtain ⟨ts0, rfl, ht0⟩ := pairedT hpd
      have sB : Same H H3 := (s1.trans s2).trans s3
      have hpb3 := s3 _ _ (s2 _ _ hpb)
      have hls3 : Rows H3 ls ((List.range x.cells).map (nbs x)) := Paired.mapP hls fun l z e => s3 _ _ (s2 _ _ e)
      have lsl : ls.length = x.cells := by rw [Paired.length hls, List.length_map, List.length_range]
      have en : (((ls.map V.ref).length : Int) - 1).toNat = x.cells - 1 := by rw [List.length_map, lsl]; omega
      refine ⟨_, rfl, pb, _, rfl, .inl (sqL hpb3), _, _, rfl, rfl, _, rfl, by rw [List.length_map, lsl]; show (-(2 ^ 62) : Int) ≤ (x.cells : Int) - 1; omega, by rw [List.length_map, lsl]; show (x.cells : Int) - 1 < 2 ^ 62; omega, ?_⟩
      show ∃ W : Nat → Nat → L2.St → Hp → Prop, _
      rw [show (((ls.map V.ref).length : Int) - 1).toNat = x.cells - 1 from en]
      refine for_range (lo := 0) (n := x.cells - 1) (fun i σ H' => ∃ (pl : Addr) (ts : List Addr) (v3 v4 v5 : Option V), σ = [some (.ref ab), some (.ref pb), some (.ref pl), v3, v4, v5, none] ∧ Same H3 H' ∧ H' pl = some (.lst (ts.map V.ref)) ∧ Tups H' ts (plv x i))
        ⟨D, ts0, none, none, none, rfl, Same.refl _, hD, ht0⟩ (fun i σ H4 hi ⟨pl, ts, v3, v4, v5, e, s4, hpl, hts⟩ => ?_) (fun σ H4 ⟨pl, ts, v3, v4, v5, e, s4, hpl, hts⟩ => ?_)
      · subst e
        refine ⟨Nat.zero_le _, fun lo nlo => ?_⟩
        have s5 : Same H4 (upd H4 lo (.lst [])) := same_upd nlo
        have tsl : ts.length = (plv x i).length := Paired.length hts
        refine ⟨_, rfl, pl, rfl, ⟨_, sqL (s5 _ _ hpl)⟩, for_list (K := K) (a := pl) (xs := ts.map V.ref) (fun j σ H' => ∃ (us : List Addr) (v5 : Option V), σ = [some (.ref ab), some (.ref pb), some (.ref pl), some (.int (0 + (i : Int))), some (.ref lo), v5, none] ∧ Same H4 H' ∧ H' lo = some (.lst (us.map V.ref)) ∧ Tups H' us (((plv x i).take j).flatMap (extF x)))
          ⟨[], v5, rfl, s5, upd_same, .nil⟩ (fun j σ H' _ ⟨_, _, _, s6, _⟩ => sqL (s6 _ _ hpl)) ?_ ?_⟩
        · rintro j y σ H6 hy ⟨us, v5, rfl, s6, hlo, hus⟩
          rw [List.getElem?_map] at hy
          obtain ⟨t, ht, rfl⟩ := Option.map_eq_some_iff.mp hy
          obtain ⟨p, hp, htp⟩ := Paired.at hts ht
          have hpm := mem_plv.mp (List.mem_of_getElem? hp)
          have hpne : p ≠ [] := fun z => by rw [z] at hpm; simp at hpm
          have htp6 := s6 _ _ htp
          have s36 : Same H3 H6 := s4.trans s6
          have hlc : p.getLastD 0 < x.cells := by
            rw [List.getLastD_eq_getLast?, List.getLast?_eq_some_getLast hpne]
            exact hpm.2.lt _ (List.getLast_mem hpne)
          obtain ⟨lk, hlk, hlkr⟩ := Paired.at' (i := p.getLastD 0) hls3 (by rw [List.getElem?_map, List.getElem?_range hlc]; rfl)
          refine ⟨_, rfl, .inl ⟨rfl, _, sqL hlo⟩, _, rfl, _, rfl, _, rfl, t, _, -1, _, rfl, rfl, sqT htp6, last_at hpne, pb, _, _, _, rfl, rfl, sqL (s36 _ _ hpb3), at_of (j := p.getLastD 0) rfl (by rw [List.getElem?_map, hlk]; rfl), lk, rfl, ⟨_, sqL (s36 _ _ hlkr)⟩, fun D2 nD2 => ?_⟩
          refine lc_gen (walk_list (K := K) (xs := vi (nbs x (p.getLastD 0)))) RT (fun m => if (!p.contains ((nbs x (p.getLastD 0)).getD m 0)) = true then some (p ++ [(nbs x (p.getLastD 0)).getD m 0]) else none) nD2 (by rw [vi_len]; exact Nat.le_trans (nbs_len g hlc) (by decide)) (fun H s => sqL (s _ _ (s36 _ _ hlkr))) RT.st (fun m v H7 H8 ys K1 K0 hm s7 hD2 y k1 k0 => ?_) (fun H7 ys s7 hD2 hpd => ?_)
          · obtain ⟨rfl, hv⟩ := y
            have ev := vi_at hv
            subst ev
            generalize hc : (nbs x (p.getLastD 0)).getD m 0 = c at k1 k0 ⊢
            refine ⟨rfl, _, rfl, _, rfl, t, _, rfl, .inr (sqT (s7 _ _ htp6)), rfl, vi_flat _, _, rfl, ?_⟩
            show if (!inV (.int (c : Nat)) (vi p)) = true then _ else _
            rw [inV_vi]
            refine ite2 (fun e => ?_) (fun e => k0 _ (Same.refl _) (if_neg e))
            refine ⟨_, rfl, _, rfl, (by show 1 ≤ sizeLine; decide), fun t2 nt2 => ?_⟩
            have s8 : Same H8 (upd H8 t2 (.tup [.int (c : Nat)])) := same_upd nt2
            refine ⟨t, t2, vi p, [.int (c : Nat)], rfl, rfl, sqT (s8 _ _ (s7 _ _ htp6)), sqT upd_same, ?_, fun z => ?_, (fun _ z => by cases z), fun _ _ t3 nt3 => ?_⟩
            · rw [vi_len, hpm.1]
              show i + 1 + 1 ≤ sizeLine
              exact Nat.le_trans (by omega : i + 1 + 1 ≤ 1000) (by decide)
            · exact absurd (List.map_eq_nil_iff.mp z) hpne
            · have s9 := s8.trans (same_upd (o := .tup (vi p ++ [.int (c : Nat)])) nt3)
              refine k1 _ _ (p ++ [c]) s9 (fun z => ne_of_none (s8 _ _ hD2) nt3 (V.ref.inj z).symm) (if_pos e) ⟨t3, rfl, ?_⟩
              show upd _ _ _ _ = _
              rw [upd_same]
              unfold vi
              rw [List.map_append]
              rfl
          · rw [vi_len, ext_fm] at hpd
            obtain ⟨us2, rfl, hus2⟩ := pairedT hpd
            have hlo7 := s7 _ _ hlo
            have lens : us.length + us2.length ≤ sizeLine := by
              rw [Paired.length hus, Paired.length hus2, ← List.length_append, ← flat_snoc hp]
              refine Nat.le_trans (take_flat_le _ _) (Nat.le_trans (plv_small (k := i + 1) g (by omega)) (by decide))
            refine ⟨lo, D2, _, _, rfl, rfl, hlo7, hD2, by rw [List.length_map, List.length_map]; exact lens, us ++ us2, _, rfl, sm_write (s6.trans s7) nlo, ?_, ?_⟩
            · rw [upd_same, List.map_append]
            · rw [flat_snoc hp]
              exact Paired.append ((hus.same s7).but hlo7 But.upd) (hus2.but hlo7 But.upd)
        · rintro σ H6 ⟨us, v5, rfl, s6, hlo, hus⟩
          rw [List.length_map, tsl, List.take_length] at hus
          exact ⟨_, rfl, lo, us, _, _, _, rfl, s4.trans s6, hlo, hus⟩
      · subst e
        rw [← all_plv] at hts
        exact ⟨_, rfl, q _ _ _ (sB.trans s4) hpl hts⟩
end
end CC
end
section
set_option Elab.async false
set_option linter.all false
set_option maxRecDepth 100000
set_option maxHeartbeats 2000000
namespace CC
open PySem PySem.Spec PyProof.Rows L2
open Uw55 (Box)
/-! ### constants of the module -/
def KT (K : PySem.W.Frag) (a : Addr) (xs : List V) : Prop := ∃ (o : Obj) (its : Array Value) (n : Nat), K.lookup a = some o ∧ o.cls = .type "tuple" ∧ o.data = .seq its n ∧ its.size ≤ sizeLine ∧ Vals xs its.toList
theorem KT.sq {K : PySem.W.Frag} {a : Addr} {xs : List V} (h : KT K a xs) {H : Hp} : SqT K H a xs := .inr h
structure Glo (K : PySem.W.Frag) (mg : Str → Option Value) : Prop where
  both : ∃ a, mg "BOTH" = some (.ref a) ∧ KT K a [.bl false, .bl true]
  exch : ∃ (a : Addr) (es : List Addr), mg "EXCHANGES" = some (.ref a) ∧ KT K a (es.map V.ref) ∧ Paired (fun b p => KT K b (vi p)) es Uw55.PERMS
  first : ∃ a, mg "AT_FIRST" = some (.ref a) ∧ KT K a [.int 2, .int 2, .int 2]
  nums : ∃ a, mg "HOW_MANY_NUMBERS" = some (.ref a) ∧ KT K a (vi [3, 0, 0, 0, 0, 0, 0, 0])
  rows : ∃ a, mg "HOW_MANY_ROWS" = some (.ref a) ∧ KT K a (vi [0, 1, 1, 1, 2, 1, 0, 0])
  noBox : ∃ t, mg "NO_BOX" = some (.int (-1) t)
  noChain : ∃ t, mg "NO_CHAIN" = some (.int (-2) t)
  noPath : ∃ t, mg "NO_PATH" = some (.int (-6) t)
  mostA : ∃ t, mg "MOST_ALONG" = some (.int 4 t)
  mostC : ∃ t, mg "MOST_CELLS" = some (.int 12 t)
  leastC : ∃ t, mg "LEAST_CELLS" = some (.int 2 t)
/-! ### a call without arguments -/
theorem pe_c0 {X : Cx} {k j : Nat} {x : Str} {sp : Sp} {p pos : Pos} (c : C8.Cal X.prog X.w X.K X.mg X.base k x sp []) (hr : Room j X.A) (hk : k ≤ j) (hg : Gl X x) (hdb : (x == ("__debug__" : Str)) = false := by decide) :
    PE X (.Call (.Name x p) [] [] pos) (tCall sp [] C8.E0 tNil) := by
  obtain ⟨f, fd, ps, ds, F, hm, kp, b, d⟩ := c.ex
  exact pe_call0 F (hr.mono hk) hg hm kp b d C8.pass0 hdb
/-! ### a spot moved -/
def mvJ (x : Box) (p : List Nat) (e : List Bool) (sp : List Nat) (j : Nat) : Nat := if e.getD j false = true then x.size j - 1 - sp.getD (p.getD j 0) 0 else sp.getD (p.getD j 0) 0
def mv (x : Box) (p : List Nat) (e : List Bool) (sp : List Nat) : List Nat := (List.range 3).map (mvJ x p e sp)
def viB (e : List Bool) : List V := e.map V.bl
def spMoved (K : PySem.W.Frag) : Sp := fun vs H Q _ => ∃ (ab asp ap ae : Addr) (x : Box) (sp p : List Nat) (e : List Bool), vs = [.ref ab, .ref asp, .ref ap, .ref ae] ∧ BoxAt K H ab x ∧ Good x ∧ SqT K H asp (vi sp) ∧ sp.length = 3 ∧ SqT K H ap (vi p) ∧ p.length = 3 ∧ (∀ j ∈ p, j < 3) ∧
  SqT K H ae (viB e) ∧ e.length = 3 ∧ (∀ j, j < 3 → sp.getD (p.getD j 0) 0 + 1 ≤ x.size j) ∧ ∀ H' t, Same H H' → TupAt H' t (mv x p e sp) → Q (.ref t) H'
theorem getD_lt3 {p : List Nat} (hl : p.length = 3) (h : ∀ j ∈ p, j < 3) {i : Nat} (hi : i < 3) : p.getD i 0 < 3 := by
  have e := getElem?_getD (p := p) (i := i) (by omega)
  exact h _ (List.mem_of_getElem? e)
theorem box_at {x : Box} {j : Nat} (h : j < 3) : ([.int x.a, .int x.b, .int x.c] : List V)[j]? = some (.int (x.size j : Nat)) := by
  match j, h with
  | 0, _ => rfl
  | 1, _ => rfl
  | 2, _ => rfl
theorem viB_get {e : List Bool} {i : Nat} (h : i < e.length) : (viB e)[i]? = some (.bl (e.getD i false)) := by
  unfold viB
  rw [List.getElem?_map, List.getElem?_eq_getElem h, List.getD_eq_getElem?_getD, List.getElem?_eq_getElem h]
  rfl
/-! ### all choices of ends -/
def BT (H : Hp) (t : Addr) (e : List Bool) : Prop := H t = some (.tup (viB e))
def endsG (x y : Bool) : List (List Bool) := [false, true].map fun z => [x, y, z]
def endsF (x : Bool) : List (List Bool) := [false, true].flatMap (endsG x)
def ENDS : List (List Bool) := [false, true].flatMap endsF
def RBT : Hp → V → List Bool → Prop := fun H y z => ∃ t, y = .ref t ∧ BT H t z
theorem RBT.st {D : Addr} : ∀ (H H' : Hp) (y : V) (z : List Bool) (ys : List V), H D = some (.lst ys) → But D H H' → y ≠ .ref D → RBT H y z → RBT H' y z := fun _ _ _ _ _ hD b _ ⟨t, e, h⟩ => ⟨t, e, b t _ (tup_ne h hD) h⟩
theorem pairedBT {H : Hp} : ∀ {ys : List V} {zs : List (List Bool)}, Paired (RBT H) ys zs → ∃ ts : List Addr, ys = ts.map V.ref ∧ Paired (BT H) ts zs
  | _, _, .nil => ⟨[], rfl, .nil⟩
  | _, _, .cons ⟨t, e, h⟩ r => by
    obtain ⟨ts, e2, h2⟩ := pairedBT r
    exact ⟨t :: ts, by rw [e, e2]; rfl, .cons h h2⟩
def spEnds : Sp := fun vs H Q _ => vs = [] ∧ ∀ H' p ts, Same H H' → H' p = some (.lst (ts.map V.ref)) → Paired (BT H') ts ENDS → Q (.ref p) H'
section
variable {P : Program} {w : World} {K : PySem.W.Frag} {mg : Str → Option Value} {base : Heap}
abbrev nMo : List Str := ["box", "spot", "exchange", "ends", "found", "k", "along"]
theorem scMo : FnScope nMo ["box", "spot", "exchange", "ends"] (C8.fnScope sMoved) := C8.fnScope_by (by decide +kernel)
theorem cal_moved (T : Blt mg) (D : Dfn K mg "moved_spot" sMoved ["box", "spot", "exchange", "ends"]) : C8.Cal P w K mg base 1 "moved_spot" (spMoved K) [] := by
  refine D.cal scMo (fun vs H Q E h => ?_) (fun f cdv A outer s H vs Q E hr h => ?_)
  · obtain ⟨ab, asp, ap, ae, x, sp, p, e, rfl, _⟩ := h
    rfl
  · obtain ⟨ab, asp, ap, ae, x, sp, p, e, rfl, hb, g, hsp, lsp, hp, lp, p3, he, le, hle, q⟩ := h
    refine ⟨_, pss_cons (ps_set (i := 4) scMo.nd rfl (.inl rfl) (pe_lst pa_nil))
      (pss_cons (ps_for PassesOwn.never rfl (pi_range1 rfl T.range (pa_cons pe_int pa_nil)) (pg_name (i := 5) scMo.nd rfl (.inl rfl))
        (pss_cons (ps_set (i := 6) scMo.nd rfl (.inl rfl) (pe_ix ix_tup (pv 1) (pe_ix ix_tup (pv 2) (pv 5) (fun _ _ => rfl)) (fun _ _ => rfl)))
        (pss_one (ps_expr (pe_bm PySem.F.plainAttrs_list PySem.F.slot_list_append PySem.F.type_list_append mt_append (pv 4) (pa_cons
          (pe_ifExp (pt_val (pe_ix ix_tup (pv 3) (pv 5) (fun _ _ => rfl))) (pe_op op_sub (pe_op op_sub (pe_ix ix_tup (pv 0) (pv 5) (fun _ _ => rfl)) pe_int) (pv 6)) (pv 6)) pa_nil))))))
      (pss_one (ps_ret (pe_tupleOf (by rfl) T.tuple (pv 4))))), ?_⟩
    refine ⟨Nat.zero_le _, fun fo nfo => ?_⟩
    refine ⟨3, rfl, by decide, by decide, for_range (lo := 0) (n := 3) (fun i σ H' => ∃ v5 v6, σ = [some (.ref ab), some (.ref asp), some (.ref ap), some (.ref ae), some (.ref fo), v5, v6] ∧ Same H H' ∧ H' fo = some (.lst (vi ((List.range i).map (mvJ x p e sp)))))
      ⟨none, none, rfl, same_upd nfo, upd_same⟩ (fun i σ H1 hi ⟨v5, v6, e1, s1, hfo⟩ => ?_) (fun σ H1 ⟨v5, v6, e1, s1, hfo⟩ => ?_)⟩
    · subst e1
      have hpi : p.getD i 0 < 3 := getD_lt3 lp p3 hi
      refine ⟨_, rfl, _, rfl, _, rfl, ap, _, _, _, rfl, rfl, sm_T s1 hp, at_of (j := i) (by omega) (vi_get (by omega)), asp, _, _, _, rfl, rfl, sm_T s1 hsp, at_of (j := p.getD i 0) (by omega) (vi_get (by omega)), ?_⟩
      refine ⟨_, rfl, .inl ⟨rfl, _, sqL hfo⟩, _, rfl, _, rfl, ae, _, _, _, rfl, rfl, sm_T s1 he, at_of (j := i) (by omega) (viB_get (by omega)), _, rfl, ?_⟩
      have fin : ∀ z : Int, z = ((mvJ x p e sp i : Nat) : Int) → ∃ l xs y, V.ref fo = V.ref l ∧ [V.int z] = [y] ∧ H1 l = some (.lst xs) ∧ xs.length < sizeLine ∧ (∃ v5 v6, ([some (.ref ab), some (.ref asp), some (.ref ap), some (.ref ae), some (.ref fo), some (.int (0 + (i : Int))), some (.int (sp.getD (p.getD i 0) 0 : Nat))] : L2.St) = [some (.ref ab), some (.ref asp), some (.ref ap), some (.ref ae), some (.ref fo), v5, v6] ∧ Same H (upd H1 l (.lst (xs ++ [y]))) ∧ (upd H1 l (.lst (xs ++ [y]))) fo = some (.lst (vi ((List.range (i + 1)).map (mvJ x p e sp))))) := fun z hz => by
        refine ⟨fo, _, .int z, rfl, rfl, hfo, ?_, _, _, rfl, sm_write s1 nfo, ?_⟩
        · rw [vi_len, List.length_map, List.length_range]
          exact Nat.lt_of_lt_of_le hi (by decide)
        · rw [upd_same, List.range_succ, List.map_append, hz]
          unfold vi
          rw [List.map_append]
          rfl
      have hl := hle i hi
      refine ite2 (fun e1 => ?_) (fun e1 => ?_)
      · refine ⟨_, rfl, _, rfl, ab, _, _, _, rfl, rfl, sm_T s1 hb, at_of (j := i) (by omega) (box_at hi), _, _, rfl, rfl, _, rfl, _, _, rfl, rfl, ?_⟩
        refine fin _ ?_
        unfold mvJ
        rw [if_pos e1]
        omega
      · refine ⟨_, rfl, ?_⟩
        refine fin _ ?_
        unfold mvJ
        rw [if_neg e1]
    · subst e1
      refine ⟨_, rfl, .inl ⟨fo, _, rfl, sqL hfo, fun t nt => ?_⟩⟩
      exact q _ t (s1.trans (same_upd nt)) upd_same
abbrev nEn : List Str := ["found", "x", "y", "z"]
theorem scEn : FnScope nEn [] (C8.fnScope sEnds) := C8.fnScope_by (by decide +kernel)
theorem cal_ends (T : Blt mg) (GL : Glo K mg) (D : Dfn K mg "all_ends" sEnds []) : C8.Cal P w K mg base 1 "all_ends" spEnds [] := by
  obtain ⟨aB, mB, hB⟩ := GL.both
  refine D.cal scEn (fun vs H Q E h => ?_) (fun f cdv A outer s H vs Q E hr h => ?_)
  · obtain ⟨rfl, _⟩ := h
    rfl
  · obtain ⟨rfl, q⟩ := h
    refine ⟨_, pss_cons (ps_set (i := 0) scEn.nd rfl (.inl rfl) (pe_lst pa_nil))
      (pss_cons (ps_for PassesOwn.never rfl (pi_tup (pe_glob rfl mB (v := .ref aB) rfl)) (pg_name (i := 1) scEn.nd rfl (.inr rfl))
        (pss_one (ps_for PassesOwn.never rfl (pi_tup (pe_glob rfl mB (v := .ref aB) rfl)) (pg_name (i := 2) scEn.nd rfl (.inr rfl))
          (pss_one (ps_expr (pe_bm PySem.F.plainAttrs_list PySem.F.slot_list_extend PySem.F.type_list_extend mt_extend (pv 0) (pa_cons
            (pe_lc (own := [("z", 3)]) (g := gName 3) (tt := tYes) rfl scEn.nd (pi_tup (pe_glob rfl mB (v := .ref aB) rfl))
              (blkOk_by (N := nEn) (sc := C8.fnScope sEnds) (by decide +kernel))
              (fun _ _ _ _ _ => pg_name (i := 3) scEn.nd rfl (.inl rfl) (.inr rfl)) (fun _ _ _ _ _ => pts_nil) (fun _ _ _ _ _ => pe_tup (pa_cons (pv 1) (pa_cons (pv 2) (pa_cons (pv 3) pa_nil))))) pa_nil)))))))
      (pss_one (ps_ret (pv 0)))), ?_⟩
    refine ⟨Nat.zero_le _, fun fo nfo => ?_⟩
    have bAt : ∀ {i : Nat} {v : V}, ([.bl false, .bl true] : List V)[i]? = some v → ∃ b, v = .bl b ∧ [false, true][i]? = some b := fun {i v} h => by
      match i, h with
      | 0, h => cases h; exact ⟨_, rfl, rfl⟩
      | 1, h => cases h; exact ⟨_, rfl, rfl⟩
    refine ⟨aB, rfl, ⟨_, hB.sq⟩, for_tup (K := K) (xs := [.bl false, .bl true]) (fun i σ H' => ∃ v1 v2 ts, σ = [some (.ref fo), v1, v2, none] ∧ Same H H' ∧ H' fo = some (.lst (ts.map V.ref)) ∧ Paired (BT H') ts (([false, true].take i).flatMap endsF) ∧ ts.length ≤ 4 * i)
      ⟨none, none, [], rfl, same_upd nfo, upd_same, .nil, Nat.zero_le _⟩ (fun i σ H' _ _ => hB.sq) (fun i v σ H1 hv ⟨v1, v2, ts, e1, s1, hfo, hts, hl⟩ => ?_) (fun σ H1 ⟨v1, v2, ts, e1, s1, hfo, hts, hl⟩ => ?_)⟩
    · subst e1
      obtain ⟨bx, rfl, hbx⟩ := bAt hv
      have hi2 : i < 2 := (List.getElem?_eq_some_iff.mp hv).1
      refine ⟨aB, rfl, ⟨_, hB.sq⟩, for_tup (K := K) (xs := [.bl false, .bl true]) (fun j σ H' => ∃ v2 ts, σ = [some (.ref fo), some (.bl bx), v2, none] ∧ Same H H' ∧ H' fo = some (.lst (ts.map V.ref)) ∧ Paired (BT H') ts (([false, true].take i).flatMap endsF ++ ([false, true].take j).flatMap (endsG bx)) ∧ ts.length ≤ 4 * i + 2 * j)
        ⟨v2, ts, rfl, s1, hfo, by rw [List.take_zero, List.flatMap_nil, List.append_nil]; exact hts, by omega⟩ (fun j σ H' _ _ => hB.sq) (fun j v σ H2 hv2 ⟨v2, ts, e1, s2, hfo2, hts2, hl2⟩ => ?_) (fun σ H2 ⟨v2, ts, e1, s2, hfo2, hts2, hl2⟩ => ?_)⟩
      · subst e1
        obtain ⟨bY, rfl, hby⟩ := bAt hv2
        have hj2 : j < 2 := (List.getElem?_eq_some_iff.mp hv2).1
        refine ⟨_, rfl, .inl ⟨rfl, _, sqL hfo2⟩, aB, rfl, ⟨_, hB.sq⟩, fun D nD => ?_⟩
        refine lc_gen (walk_tup (K := K) (xs := [.bl false, .bl true])) RBT (fun m => some [bx, bY, [false, true].getD m false]) nD (by decide) (fun H s => hB.sq) RBT.st (fun m v H3 H4 ys K1 K0 hm s3 hD y k1 k0 => ?_) (fun H3 ys s3 hD hpd => ?_)
        · obtain ⟨rfl, hv⟩ := y
          obtain ⟨bz, rfl, hbz⟩ := bAt hv
          have ez : [false, true].getD m false = bz := by rw [List.getD_eq_getElem?_getD, hbz]; rfl
          rw [ez] at k1
          refine ⟨rfl, _, rfl, _, rfl, _, rfl, (by show 3 ≤ sizeLine; decide), fun t nt => k1 _ _ _ (same_upd nt) (fun z => ne_of_none hD nt (V.ref.inj z).symm) rfl ⟨t, rfl, upd_same⟩⟩
        · obtain ⟨us, rfl, hus⟩ := pairedBT hpd
          have hus : Paired (BT H3) us (endsG bx bY) := hus
          have hfo3 := s3 _ _ hfo2
          have lu : us.length = 2 := Paired.length hus
          refine ⟨fo, D, _, _, rfl, rfl, hfo3, hD, ?_, _, ts ++ us, rfl, sm_write (s2.trans s3) nfo, ?_, ?_, ?_⟩
          · rw [List.length_map, List.length_map, lu]
            exact Nat.le_trans (by omega : ts.length + 2 ≤ 100) (by decide)
          · rw [upd_same, List.map_append]
          · rw [flat_snoc hby, ← List.append_assoc]
            exact Paired.append (Paired.mapP hts2 fun b z e => (But.upd (D := fo)) b _ (tup_ne (s3 _ _ e) hfo3) (s3 _ _ e)) (Paired.mapP hus fun b z e => (But.upd (D := fo)) b _ (tup_ne e hfo3) e)
          · rw [List.length_append, lu]
            omega
      · subst e1
        refine ⟨_, _, ts, rfl, s2, hfo2, ?_, ?_⟩
        · rw [flat_snoc hbx]
          exact hts2
        · have : ts.length ≤ 4 * i + 2 * 2 := hl2
          omega
    · subst e1
      exact ⟨_, rfl, q _ _ ts s1 hfo hts⟩
end
end CC
end
section
set_option Elab.async false
set_option linter.all false
set_option maxRecDepth 100000
set_option maxHeartbeats 2000000
namespace CC
open PySem PySem.Spec PyProof.Rows L2
open Uw55 (Box)
/-! ### dicts whose keys are rows -/
def addK (ks : List (List Nat)) (t : List Nat) : List (List Nat) := if t ∈ ks then ks else ks ++ [t]
theorem mem_addK {ks : List (List Nat)} {t s : List Nat} : s ∈ addK ks t ↔ s ∈ ks ∨ s = t := by
  unfold addK
  by_cases h : t ∈ ks
  · rw [if_pos h]
    constructor
    · exact .inl
    · rintro (q | q)
      · exact q
      · rw [q]; exact h
  · rw [if_neg h]
    simp
theorem nodup_addK {ks : List (List Nat)} {t : List Nat} (h : ks.Nodup) : (addK ks t).Nodup := by
  unfold addK
  by_cases e : t ∈ ks
  · rw [if_pos e]; exact h
  · rw [if_neg e]
    exact List.nodup_append.mpr ⟨h, by simp, fun a ha b hb z => e (by rw [← (List.mem_singleton.mp hb), ← z]; exact ha)⟩
theorem len_addK (ks : List (List Nat)) (t : List Nat) : (addK ks t).length ≤ ks.length + 1 := by
  unfold addK
  split
  · omega
  · rw [List.length_append]; simp
theorem mem_keys {kvs : List (List Key × V)} {ks : List (List Nat)} (h : kvs.map (·.1) = ks.map ki) (t : List Nat) : (kvs.any fun kv => decide (kv.1 = ki t)) = true ↔ t ∈ ks := by
  have e : (kvs.any fun kv => decide (kv.1 = ki t)) = ((kvs.map (·.1)).any fun k => decide (k = ki t)) := by rw [List.any_map]; rfl
  rw [e, h, List.any_eq_true]
  constructor
  · rintro ⟨k, hk, e⟩
    obtain ⟨s, hs, rfl⟩ := List.mem_map.mp hk
    rw [← ki_inj (of_decide_eq_true e)]
    exact hs
  · intro ht
    exact ⟨ki t, List.mem_map.mpr ⟨t, ht, rfl⟩, decide_eq_true rfl⟩
theorem keys_put {kvs : List (List Key × V)} {ks : List (List Nat)} (h : kvs.map (·.1) = ks.map ki) (t : List Nat) (v : V) : (putK kvs (ki t) v).map (·.1) = (addK ks t).map ki := by
  unfold putK addK
  by_cases e : t ∈ ks
  · rw [if_pos ((mem_keys h t).mpr e), if_pos e, List.map_map, ← h]
    refine List.map_congr_left fun p _ => ?_
    show (if p.1 = ki t then (p.1, v) else p).1 = p.1
    split <;> rfl
  · rw [if_neg (fun z => e ((mem_keys h t).mp z)), if_neg e, List.map_append, List.map_append, h]
    rfl
theorem keys_tups {H : Hp} : ∀ {kvs : List (List Key × V)} {bs : List Addr} {ks : List (List Nat)}, IsKeys H kvs bs → kvs.map (·.1) = ks.map ki → Tups H bs ks
  | _, _, [], .nil, _ => .nil
  | _, _, _ :: _, .nil, h => by cases h
  | _, _, [], .cons _ _, h => by cases h
  | p :: kvs, b :: bs, k :: ks, .cons r t, h => by
    obtain ⟨h1, h2⟩ := List.cons.inj h
    refine .cons ?_ (keys_tups t h2)
    have r : H b = some (.tup (p.1.map kV)) := r
    rw [show p.1 = ki k from h1, kV_ki] at r
    exact r
/-! ### the tables of a box -/
def okP (x : Box) (p : List Nat) : Bool := (List.range 3).all fun j => x.size (p.getD j 0) == x.size j
def tabE (x : Box) (p : List Nat) (e : List Bool) : List Nat := (List.range x.cells).map fun k => x.cell (mv x p e (spot x k))
def bitsE (f : Nat) : List Bool := [decide (f / 2 ^ 0 % 2 = 1), decide (f / 2 ^ 1 % 2 = 1), decide (f / 2 ^ 2 % 2 = 1)]
theorem bits_in : ∀ f, f < 8 → bitsE f ∈ ENDS := by decide
theorem ends_bits : ∀ e ∈ ENDS, ∃ f, f < 8 ∧ bitsE f = e := by decide
theorem ends_len : ∀ e ∈ ENDS, e.length = 3 := by decide
theorem perms_ok : ∀ p ∈ Uw55.PERMS, p.length = 3 ∧ ∀ j ∈ p, j < 3 := by decide
theorem spot_at (x : Box) (k j : Nat) (h : j < 3) : (spot x k).getD j 0 = x.at_ k j := by
  match j, h with
  | 0, _ => rfl
  | 1, _ => rfl
  | 2, _ => rfl
theorem tabE_bits {x : Box} {p : List Nat} (hp : p ∈ Uw55.PERMS) (f : Nat) : tabE x p (bitsE f) = (List.range x.cells).map (x.move (p, f)) := by
  obtain ⟨lp, p3⟩ := perms_ok p hp
  refine List.map_congr_left fun k _ => ?_
  unfold Uw55.Box.move
  congr 1
  show [mvJ x p (bitsE f) (spot x k) 0, mvJ x p (bitsE f) (spot x k) 1, mvJ x p (bitsE f) (spot x k) 2] = _
  unfold mvJ
  rw [spot_at x k _ (getD_lt3 lp p3 (by decide : 0 < 3)), spot_at x k _ (getD_lt3 lp p3 (by decide : 1 < 3)), spot_at x k _ (getD_lt3 lp p3 (by decide : 2 < 3))]
  simp only [bitsE, List.getD_cons_zero, List.getD_cons_succ, decide_eq_true_eq, List.map_cons, List.map_nil]
theorem tabs_iff {x : Box} {t : List Nat} : t ∈ tabs x ↔ ∃ p ∈ Uw55.PERMS, okP x p = true ∧ ∃ e ∈ ENDS, tabE x p e = t := by
  rw [mem_tabs]
  unfold Uw55.Box.syms
  constructor
  · rintro ⟨s, hs, rfl⟩
    obtain ⟨p, hp, hs⟩ := List.mem_flatMap.mp hs
    obtain ⟨hp1, hp2⟩ := List.mem_filter.mp hp
    obtain ⟨f, hf, rfl⟩ := List.mem_map.mp hs
    exact ⟨p, hp1, hp2, bitsE f, bits_in f (List.mem_range.mp hf), tabE_bits hp1 f⟩
  · rintro ⟨p, hp, hok, e, he, rfl⟩
    obtain ⟨f, hf, rfl⟩ := ends_bits e he
    exact ⟨(p, f), List.mem_flatMap.mpr ⟨p, List.mem_filter.mpr ⟨hp, hok⟩, List.mem_map.mpr ⟨f, List.mem_range.mpr hf, rfl⟩⟩, (tabE_bits hp f).symm⟩
theorem at_lt {x : Box} (g : Good x) {k j : Nat} (hk : k < x.cells) (hj : j < 3) : x.at_ k j < x.size j := by
  have a1 := g.a1
  have b1 := g.b1
  match j, hj with
  | 0, _ => exact Nat.mod_lt _ (by omega)
  | 1, _ => exact Nat.mod_lt _ (by omega)
  | 2, _ =>
    show k / (x.a * x.b) < x.c
    refine Nat.div_lt_of_lt_mul ?_
    rw [Nat.mul_assoc]
    exact hk
theorem okP_at {x : Box} {p : List Nat} (h : okP x p = true) {j : Nat} (hj : j < 3) : x.size (p.getD j 0) = x.size j := eq_of_beq (List.all_eq_true.mp h j (List.mem_range.mpr hj))
theorem size_le {x : Box} (g : Good x) {j : Nat} (hj : j < 3) : x.size j ≤ 4 := by
  match j, hj with
  | 0, _ => exact g.a4
  | 1, _ => exact g.b4
  | 2, _ => exact g.c4
theorem mvJ_le {x : Box} (g : Good x) {p : List Nat} {e : List Bool} {k j : Nat} (hp : p ∈ Uw55.PERMS) (hk : k < x.cells) (hj : j < 3) : mvJ x p e (spot x k) j ≤ 1000 := by
  obtain ⟨lp, p3⟩ := perms_ok p hp
  have h3 := getD_lt3 lp p3 hj
  unfold mvJ
  rw [spot_at x k _ h3]
  have h1 := at_lt g hk h3
  have h2 := size_le g h3
  have h4 := size_le g hj
  split <;> omega
end CC
end
section
set_option Elab.async false
set_option linter.all false
set_option maxRecDepth 100000
set_option maxHeartbeats 2000000
namespace CC
open PySem PySem.Spec PyProof.Rows L2
open Uw55 (Box)
def argE (e : Expr) (i : Nat) : Expr := match e with
  | .Call _ args _ _ => args.getD i (.Constant .none 0 ⟨0, 0, 0, 0⟩)
  | _ => .Constant .none 0 ⟨0, 0, 0, 0⟩
theorem fm_pure {α β : Type} (g : α → β) : ∀ l : List α, l.filterMap (fun c => some (g c)) = l.map g
  | [] => rfl
  | a :: l => by rw [List.filterMap_cons, fm_pure g l]; rfl
/-! ### the least of a list of rows -/
theorem encT_inj {s t : List Nat} (h : encT s = encT t) : s = t := by
  unfold encT at h
  have h := PyData.tuple.inj h
  exact (List.map_inj_right (fun a b e => by have := PyData.int.inj e; omega)).mp h
def minL (z : List Nat) (zs : List (List Nat)) : List Nat := zs.foldl (fun a y => if Uw55.less y a = true then y else a) z
theorem minD_encT : ∀ (zs : List (List Nat)) (z : List Nat), PySem.W.minD (encT z) (zs.map encT) = encT (minL z zs)
  | [], z => rfl
  | y :: zs, z => by
    unfold PySem.W.minD minL
    rw [List.map_cons, List.foldl_cons, List.foldl_cons]
    have ih := minD_encT zs (if Uw55.less y z = true then y else z)
    unfold PySem.W.minD minL at ih
    rw [← ih]
    congr 1
    rw [dataLt_encT]
    split <;> rfl
theorem dpT {K : PySem.W.Frag} {H : Hp} : ∀ {ts : List Addr} {zs : List (List Nat)}, Tups H ts zs → DpAll K H (ts.map V.ref) (zs.map encT)
  | _, _, .nil => .nil
  | _, _, .cons (a := t) (b := z) h r => by
    refine .cons (.tup (sqT h) ?_) (dpT r)
    have := dpI (K := K) (H := H) (toI z)
    rw [← vi_toI] at this
    unfold toI at this
    rw [List.map_map] at this
    exact this
theorem depth_encs : ∀ zs : List (List Nat), PyData.depthAll (zs.map encT) ≤ 2
  | [] => by rw [List.map_nil, PyData.depthAll]; omega
  | z :: zs => by
    have ih := depth_encs zs
    have h := depth_encT z
    rw [List.map_cons, PyData.depthAll]
    omega
theorem alike_encs (zs : List (List Nat)) : PySem.W.AlikeAll (zs.map encT) := by
  refine ⟨fun a ha b hb => ?_, fun a ha => ?_⟩
  · obtain ⟨s, _, rfl⟩ := List.mem_map.mp ha
    obtain ⟨t, _, rfl⟩ := List.mem_map.mp hb
    exact alike_encT s t
  · obtain ⟨s, _, rfl⟩ := List.mem_map.mp ha
    unfold encT
    exact fun z => by cases z
def spLeast (K : PySem.W.Frag) : Sp := fun vs H Q _ => ∃ (ai ap : Addr) (n : Nat) (bs : List Addr) (ks : List (List Nat)) (p : List Nat), vs = [.ref ai, .ref ap] ∧ SqL K H ai (bs.map V.ref) ∧ Tups H bs ks ∧ ks ≠ [] ∧ ks.length ≤ 1000 ∧ (∀ t ∈ ks, t.length = n) ∧ SqT K H ap (vi p) ∧ (∀ c ∈ p, c < n) ∧ p.length ≤ 1000 ∧
  ∀ H' t m, Same H H' → TupAt H' t m → (∃ tb ∈ ks, img tb p = m) → (∀ tb ∈ ks, Uw55.less (img tb p) m = false) → Q (.ref t) H'
section
variable {P : Program} {w : World} {K : PySem.W.Frag} {mg : Str → Option Value} {base : Heap}
abbrev nLe : List Str := ["images", "path", "image", "cell"]
theorem scLe : FnScope nLe ["images", "path"] (C8.fnScope sLeast) := C8.fnScope_by (by decide +kernel)
theorem cal_least (T : Blt mg) (D : Dfn K mg "least_image" sLeast ["images", "path"]) : C8.Cal P w K mg base 1 "least_image" (spLeast K) [] := by
  refine D.cal scLe (fun vs H Q E h => ?_) (fun f cdv A outer s H vs Q E hr h => ?_)
  · obtain ⟨ai, ap, n, bs, ks, p, rfl, _⟩ := h
    rfl
  · obtain ⟨ai, ap, n, bs, ks, p, rfl, hI, hbs, hne, hkl, hn, hP, hpc, hpl, q⟩ := h
    refine ⟨_, pss_one (ps_ret (pe_callB (cr_minD rfl hr.units) (by rfl) T.min (by decide +kernel) (pa_cons
      (pe_lc (own := [("image", 2)]) (g := gName 2) (tt := tYes) (te := tThen (tLc (iTup K (tVar 1)) (gName 3) tYes (tOp (rIxT K) (tVar 2) (tVar 3)) [3]) (kTup K)) rfl scLe.nd (pi_list (pv 0))
        (blkOk_by (N := nLe) (sc := C8.fnScope sLeast) (by decide +kernel))
        (fun _ _ _ _ _ => pg_name (i := 2) scLe.nd rfl (.inr rfl) (.inl rfl)) (fun _ _ _ _ _ => pts_nil)
        (fun _ _ _ _ _ => pe_tupleOf (by rfl) T.tuple (pe_lc (own := [("cell", 3)]) (g := gName 3) (wi := iTup K (tVar 1)) (tt := tYes) (te := tOp (rIxT K) (tVar 2) (tVar 3)) rfl scLe.nd (pi_tup (pv 1))
          (blkOk_by (N := nLe) (sc := relS (lcSc (argE (retE sLeast) 0)) (C8.fnScope sLeast)) (by decide +kernel))
          (fun _ _ _ _ _ => pg_name (i := 3) scLe.nd rfl (.inl rfl) (.inr rfl)) (fun _ _ _ _ _ => pts_nil) (fun _ _ _ _ _ => pe_ix ix_tup (pv 2) (pv 3) (fun _ _ => rfl))))) pa_nil))), ?_⟩
    have hbl : bs.length = ks.length := Paired.length hbs
    refine ⟨_, rfl, ai, rfl, ⟨_, hI⟩, fun D nD => ?_⟩
    refine lc_gen (walk_list (K := K) (xs := bs.map V.ref)) RT (fun i => some (img (ks.getD i []) p)) nD (by rw [List.length_map, hbl]; exact Nat.le_trans hkl (by decide)) (fun H s => s.seq hI) RT.st (fun i v H3 H4 ys K1 K0 hi s3 hD y k1 k0 => ?_) (fun H3 ys s3 hD hpd => ?_)
    · obtain ⟨rfl, hv⟩ := y
      rw [List.getElem?_map] at hv
      obtain ⟨b, hb, rfl⟩ := Option.map_eq_some_iff.mp hv
      obtain ⟨tb, htb, hTb⟩ := Paired.at hbs hb
      have etb : ks.getD i [] = tb := by rw [List.getD_eq_getElem?_getD, htb]; rfl
      have ltb : tb.length = n := hn tb (List.mem_of_getElem? htb)
      rw [etb] at k1
      refine ⟨rfl, ?_⟩
      refine ⟨_, rfl, ap, rfl, ⟨_, sm_T s3 hP⟩, fun D2 nD2 => ?_⟩
      refine lc_gen (walk_tup (K := K) (xs := vi p)) RI (fun j => some ((tb.getD (p.getD j 0) 0 : Nat) : Int)) nD2 (by rw [vi_len]; exact Nat.le_trans hpl (by decide)) (fun H s => sm_T s (sm_T s3 hP)) RI.st (fun j v H5 H6 ys K1' K0' hj s5 hD2 y k1' k0' => ?_) (fun H5 ys s5 hD2 hpd => ?_)
      · obtain ⟨rfl, hv⟩ := y
        have ev := vi_at hv
        subst ev
        have hj' : j < p.length := by rw [vi_len] at hj; exact hj
        have hc : p.getD j 0 < tb.length := by rw [ltb]; exact hpc _ (List.mem_of_getElem? (getElem?_getD hj'))
        refine ⟨rfl, ?_⟩
        exact ⟨_, rfl, _, rfl, b, _, _, _, rfl, rfl, sqT (s5 _ _ (s3 _ _ hTb)), at_of rfl (vi_get hc), k1' _ _ _ (Same.refl _) (fun z => by cases z) rfl rfl⟩
      · rw [pairedI hpd, vi_len, fm_at (F := fun c => some ((tb.getD c 0 : Nat) : Int)), fm_pure (fun c => ((tb.getD c 0 : Nat) : Int))] at hD2
        refine .inl ⟨D2, _, rfl, sqL hD2, fun t nt => ?_⟩
        refine k1 _ _ _ (s5.trans (same_upd nt)) (fun z => ne_of_none (s5 _ _ hD) nt (V.ref.inj z).symm) rfl ⟨t, rfl, ?_⟩
        show upd _ _ _ _ = _
        rw [upd_same]
        unfold vi img
        rw [List.map_map, List.map_map]
        rfl
    · have ek : (List.range (bs.map V.ref).length).filterMap (fun i => some (img (ks.getD i []) p)) = ks.map fun tb => img tb p := by
        rw [List.length_map, hbl, fm_some (g := fun i => img (ks.getD i []) p) (fun i _ => rfl)]
        refine List.ext_getElem? fun j => ?_
        rw [List.getElem?_map, List.getElem?_map]
        by_cases h : j < ks.length
        · rw [List.getElem?_range h, List.getElem?_eq_getElem h]
          show some (img (ks.getD j []) p) = _
          rw [List.getD_eq_getElem?_getD, List.getElem?_eq_getElem h]
          rfl
        · rw [List.getElem?_eq_none (by rw [List.length_range]; omega), List.getElem?_eq_none (by omega)]
          rfl
      rw [ek] at hpd
      obtain ⟨ts, rfl, hts⟩ := pairedT hpd
      obtain ⟨k0, kr, rfl⟩ : ∃ k0 kr, ks = k0 :: kr := by
        cases ks with
        | nil => exact absurd rfl hne
        | cons k0 kr => exact ⟨k0, kr, rfl⟩
      refine ⟨D, _, encT (img k0 p), (kr.map fun tb => img tb p).map encT, rfl, sqL hD, dpT hts, alike_encs ((k0 :: kr).map fun tb => img tb p), Nat.le_trans (depth_encs ((k0 :: kr).map fun tb => img tb p)) (by decide), fun i u hu hm => ?_⟩
      rw [List.getElem?_map] at hu
      obtain ⟨t, ht, rfl⟩ := Option.map_eq_some_iff.mp hu
      obtain ⟨m, hm1, hTm⟩ := Paired.at hts ht
      have e1 : (encT (img k0 p) :: (kr.map fun tb => img tb p).map encT).getD i .none = encT m := by
        show (((k0 :: kr).map fun tb => img tb p).map encT).getD i .none = encT m
        rw [List.getD_eq_getElem?_getD, List.getElem?_map, hm1]
        rfl
      rw [e1, minD_encT] at hm
      have em := encT_inj hm
      obtain ⟨f1, f2, f3⟩ := min_fold (kr.map fun tb => img tb p) (img k0 p)
      have em : m = (kr.map fun tb => img tb p).foldl (fun a y => if Uw55.less y a = true then y else a) (img k0 p) := em
      rw [← em] at f1 f2 f3
      refine q H3 t m s3 hTm ?_ fun tb htb => ?_
      · rcases f1 with e | e
        · exact ⟨k0, List.mem_cons_self .., e.symm⟩
        · obtain ⟨tb, h1, h2⟩ := List.mem_map.mp e
          exact ⟨tb, List.mem_cons_of_mem _ h1, h2⟩
      · rcases List.mem_cons.mp htb with e | e
        · rw [e]; exact f2
        · exact f3 _ (List.mem_map.mpr ⟨tb, e, rfl⟩)
end
end CC
end
section
set_option Elab.async false
set_option linter.all false
set_option maxRecDepth 100000
set_option maxHeartbeats 2000000
namespace CC
open PySem PySem.Spec PyProof.Rows L2
open Uw55 (Box)
def spImages (K : PySem.W.Frag) : Sp := fun vs H Q _ => ∃ (ab : Addr) (x : Box), vs = [.ref ab] ∧ BoxAt K H ab x ∧ Good x ∧
  ∀ H' p bs ks, Same H H' → H' p = some (.lst (bs.map V.ref)) → Tups H' bs ks → ks.length ≤ 48 → (∀ t, t ∈ ks ↔ t ∈ tabs x) → Q (.ref p) H'
/-- a dict with row keys stands at d -/
structure KeysAt (H : Hp) (d : Addr) (kvs : List (List Key × V)) (ks : List (List Nat)) : Prop where
  at_ : H d = some (.dT kvs)
  keys : kvs.map (·.1) = ks.map ki
  nd : ks.Nodup
theorem KeysAt.len {H : Hp} {d : Addr} {kvs : List (List Key × V)} {ks : List (List Nat)} (h : KeysAt H d kvs ks) : kvs.length = ks.length := by
  have := congrArg List.length h.keys
  rwa [List.length_map, List.length_map] at this
theorem KeysAt.put {H : Hp} {d : Addr} {kvs : List (List Key × V)} {ks : List (List Nat)} (h : KeysAt H d kvs ks) (t : List Nat) (v : V) : KeysAt (upd H d (.dT (putK kvs (ki t) v))) d (putK kvs (ki t) v) (addK ks t) :=
  ⟨upd_same, keys_put h.keys t v, nodup_addK h.nd⟩
theorem tup_neD {H : Hp} {t d : Addr} {xs : List V} {kvs : List (List Key × V)} (h : H t = some (.tup xs)) (hd : H d = some (.dT kvs)) : t ≠ d := ne_of h hd (by intro z; cases z)
theorem lst_neD {H : Hp} {t d : Addr} {xs : List V} {kvs : List (List Key × V)} (h : H t = some (.lst xs)) (hd : H d = some (.dT kvs)) : t ≠ d := ne_of h hd (by intro z; cases z)
section
variable {P : Program} {w : World} {K : PySem.W.Frag} {mg : Str → Option Value} {base : Heap}
abbrev nIm : List Str := ["box", "found", "exchange", "ends", "spots", "cell", "spot", "k"]
theorem scIm : FnScope nIm ["box"] (C8.fnScope sImages) := C8.fnScope_by (by decide +kernel)
set_option maxHeartbeats 4000000 in
theorem cal_images (T : Blt mg) (GL : Glo K mg) (D : Dfn K mg "all_images" sImages ["box"]) (GE : C8.Cal P w K mg base 1 "all_ends" spEnds []) (GC : C8.Cal P w K mg base 2 "all_cells" (spCells K) []) (GS : C8.Cal P w K mg base 1 "spot_of" (spSpot K) [])
    (GM : C8.Cal P w K mg base 1 "moved_spot" (spMoved K) []) (GA : C8.Cal P w K mg base 1 "cell_at" (spCell K) []) : C8.Cal P w K mg base 3 "all_images" (spImages K) [] := by
  obtain ⟨aE, es, mE, hE, hes⟩ := GL.exch
  refine D.cal scIm (fun vs H Q E h => ?_) (fun f cdv A outer s H vs Q E hr h => ?_)
  · obtain ⟨ab, x, rfl, _⟩ := h
    rfl
  · obtain ⟨ab, x, rfl, hb, g, q⟩ := h
    refine ⟨_, pss_cons (ps_set (i := 1) scIm.nd rfl (.inl rfl) pe_dnewT)
      (pss_cons (ps_for PassesOwn.never rfl (pi_tup (pe_glob rfl mE (v := .ref aE) rfl)) (pg_name (i := 2) scIm.nd rfl (.inr rfl))
        (pss_one (ps_if (pt_val (pe_callB (cr_all rfl) (by rfl) T.all (by decide +kernel) (pa_cons
            (pe_lc (own := [("k", 7)]) (g := gName 7) (tt := tYes) (te := tOp rEq (tOp (rIxT K) (tVar 0) (tOp (rIxT K) (tVar 2) (tVar 7))) (tOp (rIxT K) (tVar 0) (tVar 7))) rfl scIm.nd (pi_range1 rfl T.range (pa_cons pe_int pa_nil))
              (blkOk_by (N := nIm) (sc := C8.fnScope sImages) (by decide +kernel))
              (fun _ _ _ _ _ => pg_name (i := 7) scIm.nd rfl (.inl rfl) (.inr rfl)) (fun _ _ _ _ _ => pts_nil)
              (fun _ _ _ _ _ => pe_cmpR op_eq (pe_ix ix_tup (pv 0) (pe_ix ix_tup (pv 2) (pv 7) (fun _ _ => rfl)) (fun _ _ => rfl)) (pe_ix ix_tup (pv 0) (pv 7) (fun _ _ => rfl)) (nomark _))) pa_nil)))
          (pss_one (ps_for PassesOwn.never rfl (pi_list (pe_c0 GE hr (by decide) (by rfl))) (pg_name (i := 3) scIm.nd rfl (.inr rfl))
            (pss_cons (ps_setLc (i := 4) (own := [("cell", 5)]) (g := gName 5) (tt := tYes) (te := tCall (spMoved K) [] C8.E0 (tCons (tVar 0) (tCons (tCall (spSpot K) [] C8.E0 (tCons (tVar 0) (tCons (tVar 5) tNil))) (tCons (tVar 2) (tCons (tVar 3) tNil))))) rfl scIm.nd rfl rfl (sw_true rfl rfl rfl (by decide +kernel)) (pi_list (C8.pe_c GC hr (by decide) (by rfl) (pa_cons (pv 0) pa_nil)))
                (blkOk_by (N := nIm) (sc := C8.fnScope sImages) (by decide +kernel))
                (fun _ _ _ _ _ => pg_name (i := 5) scIm.nd rfl (.inl rfl) (.inr rfl)) (fun _ _ _ _ _ => pts_nil)
                (fun _ _ _ _ _ => C8.pe_c GM hr (by decide) (by rfl) (pa_cons (pv 0) (pa_cons (C8.pe_c GS hr (by decide) (by rfl) (pa_cons (pv 0) (pa_cons (pv 5) pa_nil))) (pa_cons (pv 2) (pa_cons (pv 3) pa_nil))))))
            (pss_one (ps_dput (hu_of hr) (pv 1) (pe_tupleOf (by rfl) T.tuple
              (pe_lc (own := [("spot", 6)]) (g := gName 6) (tt := tYes) (te := tCall (spCell K) [] C8.E0 (tCons (tVar 0) (tCons (tVar 6) tNil))) rfl scIm.nd (pi_list (pv 4))
                (blkOk_by (N := nIm) (sc := C8.fnScope sImages) (by decide +kernel))
                (fun _ _ _ _ _ => pg_name (i := 6) scIm.nd rfl (.inl rfl) (.inr rfl)) (fun _ _ _ _ _ => pts_nil)
                (fun _ _ _ _ _ => C8.pe_c GA hr (by decide) (by rfl) (pa_cons (pv 0) (pa_cons (pv 6) pa_nil))))) pe_bl rfl)))))
          pss_nil)))
      (pss_one (ps_ret (pe_callTy (call_list_dT rfl) (by rfl) T.list (by decide +kernel) (pa_cons (pv 1) pa_nil))))), ?_⟩
    refine fun d nd => ?_
    refine ⟨aE, rfl, ⟨_, hE.sq⟩, for_tup (K := K) (xs := es.map V.ref) (fun i σ H' => ∃ v2 v3 v4 kvs ks, σ = [some (.ref ab), some (.ref d), v2, v3, v4, none, none, none] ∧ Same H H' ∧ KeysAt H' d kvs ks ∧ ks.length ≤ 8 * i ∧ ∀ t, t ∈ ks ↔ ∃ p ∈ Uw55.PERMS.take i, okP x p = true ∧ ∃ e ∈ ENDS, tabE x p e = t)
      ⟨none, none, none, [], [], rfl, same_upd nd, ⟨upd_same, rfl, List.nodup_nil⟩, Nat.zero_le _, fun t => by simp⟩ (fun i σ H' _ _ => hE.sq) (fun i v σ H1 hv ⟨v2, v3, v4, kvs, ks, e1, s1, hd, hl, hm⟩ => ?_) (fun σ H1 ⟨v2, v3, v4, kvs, ks, e1, s1, hd, hl, hm⟩ => ?_)⟩
    · subst e1
      rw [List.getElem?_map] at hv
      obtain ⟨b, hb2, rfl⟩ := Option.map_eq_some_iff.mp hv
      obtain ⟨p, hp, hKp⟩ := Paired.at hes hb2
      have hpm : p ∈ Uw55.PERMS := List.mem_of_getElem? hp
      obtain ⟨lp, p3⟩ := perms_ok p hpm
      have snoc : ∀ t, (∃ p' ∈ Uw55.PERMS.take (i + 1), okP x p' = true ∧ ∃ e ∈ ENDS, tabE x p' e = t) ↔ (t ∈ ks ∨ (okP x p = true ∧ ∃ e ∈ ENDS, tabE x p e = t)) := fun t => by
        rw [take_snoc hp, hm]
        constructor
        · rintro ⟨p', hp', r⟩
          rcases List.mem_append.mp hp' with z | z
          · exact .inl ⟨p', z, r⟩
          · rw [List.mem_singleton.mp z] at r; exact .inr r
        · rintro (⟨p', hp', r⟩ | r)
          · exact ⟨p', List.mem_append_left _ hp', r⟩
          · exact ⟨p, List.mem_append_right _ (by simp), r⟩
      have hb1 := sm_T s1 hb
      refine ⟨3, rfl, by decide, by decide, fun D2 nD2 => ?_⟩
      refine lc_gen (walk_range (lo := 0) (n := 3)) RB (fun j => some (x.size (p.getD j 0) == x.size j)) nD2 (by decide) (fun _ _ => trivial) RB.st (fun j v H3 H4 ys K1 K0 hj s3 hD2 y k1 k0 => ?_) (fun H3 ys s3 hD2 hpd => ?_)
      · obtain ⟨rfl, rfl⟩ := y
        have h3 := getD_lt3 lp p3 hj
        refine ⟨rfl, ?_⟩
        refine ⟨_, rfl, _, rfl, _, rfl, b, _, _, _, rfl, rfl, hKp.sq, at_of (j := j) (by omega) (vi_get (by omega)), ab, _, _, _, rfl, rfl, sm_T s3 hb1, at_of (j := p.getD j 0) rfl (box_at h3), _, rfl, _, rfl, ab, _, _, _, rfl, rfl, sm_T s3 hb1, at_of (j := j) (by omega) (box_at hj), rfl, k1 _ _ _ (Same.refl _) (fun z => by cases z) rfl ?_⟩
        show V.bl _ = V.bl _
        congr 1
        by_cases e : x.size (p.getD j 0) = x.size j
        · rw [e]; simp
        · rw [beq_eq_false_iff_ne.mpr e]
          exact decide_eq_false fun z => e (by have := V.int.inj z; omega)
      · refine ⟨D2, _, rfl, sqL (by rw [hD2, pairedB hpd]), _, rfl, ?_⟩
        have eo : (((List.range 3).filterMap fun j => some (x.size (p.getD j 0) == x.size j)).all id) = okP x p := by
          rw [fm_pure (fun j => (x.size (p.getD j 0) == x.size j)), List.all_map]
          rfl
        rw [eo]
        have s13 := s1.trans s3
        have hd3 : KeysAt H3 d kvs ks := ⟨s3 _ _ hd.at_, hd.keys, hd.nd⟩
        refine ite2 (fun ok => ?_) (fun ok => ?_)
        · refine ⟨rfl, fun H4 pe te s4 hpe hte => ⟨pe, rfl, ⟨_, sqL hpe⟩, ?_⟩⟩
          have hd4 : KeysAt H4 d kvs ks := ⟨s4 _ _ hd3.at_, hd.keys, hd.nd⟩
          have npe : pe ≠ d := lst_neD hpe hd4.at_
          refine for_list (K := K) (a := pe) (xs := te.map V.ref) (fun j σ H' => ∃ v3 v4 kvs ks', σ = [some (.ref ab), some (.ref d), some (.ref b), v3, v4, none, none, none] ∧ Same H H' ∧ But d H4 H' ∧ KeysAt H' d kvs ks' ∧ ks'.length ≤ 8 * i + j ∧ ∀ t, t ∈ ks' ↔ (t ∈ ks ∨ ∃ e ∈ ENDS.take j, tabE x p e = t))
            ⟨v3, v4, kvs, ks, rfl, s13.trans s4, sm_but (Same.refl _), hd4, by omega, fun t => by simp⟩ (fun j σ H' _ ⟨_, _, _, _, _, _, s5, _⟩ => sqL (s5 _ _ npe hpe)) ?_ ?_
          · rintro j y σ H5 hy ⟨v3, v4, kvs, ks', rfl, s5, b5, hd5, hl5, hm5⟩
            rw [List.getElem?_map] at hy
            obtain ⟨t, ht, rfl⟩ := Option.map_eq_some_iff.mp hy
            obtain ⟨e, he, hTe⟩ := Paired.at hte ht
            have hem : e ∈ ENDS := List.mem_of_getElem? he
            have le := ends_len e hem
            have hTe5 : H5 t = some (.tup (viB e)) := b5 _ _ (tup_neD hTe hd4.at_) hTe
            have hb5 := sm_T s5 hb
            refine ⟨_, rfl, ab, x, rfl, hb5, g, fun pc hpc => ⟨pc, rfl, ⟨_, sqL upd_same⟩, fun D3 nD3 => ?_⟩⟩
            have s6 : Same H5 (upd H5 pc (.lst (rgI x.cells))) := same_upd hpc
            refine lc_gen (walk_list (K := K) (xs := rgI x.cells)) RT (fun k => some (mv x p e (spot x k))) nD3 (by rw [rgI_len]; exact small12 g.n12) (fun H s => sqL (s _ _ upd_same)) RT.st (fun k v H7 H8 ys K1 K0 hk s7 hD3 y k1 k0 => ?_) (fun H7 ys s7 hD3 hpd3 => ?_)
            · obtain ⟨rfl, hv⟩ := y
              obtain ⟨rfl, hkc⟩ := rgI_at hv
              have s57 := s6.trans s7
              refine ⟨rfl, ?_⟩
              refine ⟨_, rfl, _, rfl, _, rfl, ab, x, k, rfl, sm_T s57 hb5, g, fun H9 sp s9 hsp => ?_⟩
              refine ⟨_, rfl, _, rfl, ab, sp, b, t, x, spot x k, p, e, rfl, sm_T (s57.trans s9) hb5, g, sqT hsp, rfl, hKp.sq, lp, p3, sqT (s9 _ _ (s57 _ _ hTe5)), le, fun j hj => ?_, fun H10 r s10 hr10 => ?_⟩
              · have h3 := getD_lt3 lp p3 hj
                rw [spot_at x k _ h3]
                have := at_lt g hkc h3
                rw [okP_at ok hj] at this
                exact this
              · refine k1 _ _ _ (s9.trans s10) (fun z => ?_) rfl ⟨r, rfl, hr10⟩
                exact tup_ne hr10 (s10 _ _ (s9 _ _ hD3)) (V.ref.inj z)
            · rw [fm_some (g := fun k => mv x p e (spot x k)) (fun i _ => rfl), rgI_len] at hpd3
              obtain ⟨ss, rfl, hss⟩ := pairedT hpd3
              have s57 := s6.trans s7
              refine ⟨_, rfl, _, rfl, D3, rfl, ⟨_, sqL hD3⟩, fun D4 nD4 => ?_⟩
              have ssl : ss.length = x.cells := by rw [Paired.length hss, List.length_map, List.length_range]
              refine lc_gen (walk_list (K := K) (xs := ss.map V.ref)) RI (fun k => some ((x.cell (mv x p e (spot x k)) : Nat) : Int)) nD4 (by rw [List.length_map, ssl]; exact small12 g.n12) (fun H s => sqL (s _ _ hD3)) RI.st (fun k v H9 H10 ys K1 K0 hk s9 hD4 y k1 k0 => ?_) (fun H9 ys s9 hD4 hpd4 => ?_)
              · obtain ⟨rfl, hv⟩ := y
                rw [List.getElem?_map] at hv
                obtain ⟨r, hr1, rfl⟩ := Option.map_eq_some_iff.mp hv
                obtain ⟨m, hm1, hTm⟩ := Paired.at hss hr1
                have hkc : k < x.cells := by rw [List.length_map, ssl] at hk; exact hk
                rw [List.getElem?_map, List.getElem?_range hkc] at hm1
                have em : mv x p e (spot x k) = m := Option.some.inj hm1
                subst em
                refine ⟨rfl, ?_⟩
                refine ⟨_, rfl, _, rfl, ab, r, x, mvJ x p e (spot x k) 0, mvJ x p e (spot x k) 1, mvJ x p e (spot x k) 2, rfl, sm_T (s57.trans s9) hb5, g, mvJ_le g hpm hkc (by decide), mvJ_le g hpm hkc (by decide), mvJ_le g hpm hkc (by decide), sqT (s9 _ _ hTm), k1 _ _ _ (Same.refl _) (fun z => by cases z) rfl rfl⟩
              · rw [pairedI hpd4, List.length_map, ssl, fm_some (g := fun k => ((x.cell (mv x p e (spot x k)) : Nat) : Int)) (fun i _ => rfl)] at hD4
                refine .inl ⟨D4, _, rfl, sqL hD4, fun r nr => ?_⟩
                have hd9 : KeysAt (upd H9 r (.tup (((List.range x.cells).map fun k => ((x.cell (mv x p e (spot x k)) : Nat) : Int)).map V.int))) d kvs ks' := ⟨(same_upd nr) _ _ (s9 _ _ (s57 _ _ hd5.at_)), hd5.keys, hd5.nd⟩
                have s59 : Same H5 (upd H9 r (.tup (((List.range x.cells).map fun k => ((x.cell (mv x p e (spot x k)) : Nat) : Int)).map V.int))) := (s57.trans s9).trans (same_upd nr)
                have hr9 : (upd H9 r (.tup (((List.range x.cells).map fun k => ((x.cell (mv x p e (spot x k)) : Nat) : Int)).map V.int))) r = some (.tup ((ki (tabE x p e)).map kV)) := by
                  rw [upd_same, kV_ki]
                  unfold vi tabE
                  rw [List.map_map, List.map_map]
                  rfl
                generalize upd H9 r (.tup (((List.range x.cells).map fun k => ((x.cell (mv x p e (spot x k)) : Nat) : Int)).map V.int)) = H11 at hd9 s59 hr9 ⊢
                have hj8 : j < 8 := by have := (List.getElem?_eq_some_iff.mp he).1; exact this
                have hi6 : i < 6 := by have := (List.getElem?_eq_some_iff.mp hp).1; exact this
                refine ⟨d, _, rfl, DPut.t hd9.at_ hr9 (by rw [hd9.len]; exact Nat.lt_of_le_of_lt (by omega : ks'.length ≤ 100) (by decide)), _, _, _, addK ks' (tabE x p e), rfl, ?_, ?_, hd9.put _ _, ?_, fun t => ?_⟩
                · exact sm_write (s5.trans s59) nd
                · exact fun c o hc ho => But.upd _ _ hc (s59 _ _ (b5 _ _ hc ho))
                · have := len_addK ks' (tabE x p e)
                  omega
                · rw [mem_addK, hm5, take_snoc he]
                  constructor
                  · rintro ((z | ⟨e', h1, h2⟩) | z)
                    · exact .inl z
                    · exact .inr ⟨e', List.mem_append_left _ h1, h2⟩
                    · exact .inr ⟨e, List.mem_append_right _ (by simp), z.symm⟩
                  · rintro (z | ⟨e', h1, h2⟩)
                    · exact .inl (.inl z)
                    · rcases List.mem_append.mp h1 with z | z
                      · exact .inl (.inr ⟨e', z, h2⟩)
                      · rw [List.mem_singleton.mp z] at h2; exact .inr h2.symm
          · rintro σ H5 ⟨v3, v4, kvs, ks', rfl, s5, b5, hd5, hl5, hm5⟩
            have lte : (te.map V.ref).length = 8 := by rw [List.length_map, Paired.length hte]; rfl
            rw [lte] at hl5 hm5
            refine ⟨_, _, _, kvs, ks', rfl, s5, hd5, by omega, fun t => ?_⟩
            rw [snoc, hm5]
            constructor
            · rintro (z | z)
              · exact .inl z
              · exact .inr ⟨ok, z⟩
            · rintro (z | ⟨_, z⟩)
              · exact .inl z
              · exact .inr z
        · refine ⟨_, _, _, kvs, ks, rfl, s13, hd3, by omega, fun t => ?_⟩
          rw [snoc]
          constructor
          · exact .inl
          · rintro (z | ⟨z, _⟩)
            · exact z
            · exact absurd z ok
    · subst e1
      have le6 : (es.map V.ref).length = 6 := by rw [List.length_map, Paired.length hes]; rfl
      rw [le6] at hl hm
      refine ⟨_, rfl, d, kvs, rfl, .inl hd.at_, fun r bs nr hk => ?_⟩
      refine q _ r bs ks (s1.trans (same_upd nr)) upd_same ((keys_tups hk hd.keys).same (same_upd nr)) (by omega) fun t => ?_
      rw [hm, tabs_iff]
      exact Iff.rfl
end
end CC
end
section
set_option Elab.async false
set_option linter.all false
set_option maxRecDepth 100000
set_option maxHeartbeats 2000000
namespace CC
open PySem PySem.Spec PyProof.Rows L2
open Uw55 (Box)
/-- what stands behind the first paths ps: the paths of each chain, its least images -/
structure FI (x : Box) (Hb H : Hp) (dP dK : Addr) (ps ks : List (List Nat)) (kvP kvK : List (List Key × V)) (la oa : List Nat → Addr) : Prop where
  kp : KeysAt H dP kvP ks
  kk : KeysAt H dK kvK ks
  mem : ∀ s, s ∈ ks ↔ ∃ p ∈ ps, x.chain p = s
  pv : ∀ s ∈ ks, valV kvP (ki s) = some (.ref (la s)) ∧ ∃ ts, H (la s) = some (.lst (ts.map V.ref)) ∧ Tups H ts (ps.filter fun p => x.chain p == s)
  kv : ∀ s ∈ ks, valV kvK (ki s) = some (.ref (oa s)) ∧ ∃ kvo ms, KeysAt H (oa s) kvo ms ∧ (∀ m, m ∈ ms ↔ ∃ p ∈ ps, x.chain p = s ∧ IsLeast x p m) ∧ ms.length ≤ ps.length
  inj : ∀ s ∈ ks, ∀ t ∈ ks, oa s = oa t → s = t
  no : ∀ s ∈ ks, oa s ≠ dP ∧ oa s ≠ dK
  ne : dP ≠ dK
  fresh : ∀ s ∈ ks, Hb (oa s) = none
  len : ks.length ≤ ps.length
theorem val_none {kvs : List (List Key × V)} {ks : List (List Nat)} (h : kvs.map (·.1) = ks.map ki) {t : List Nat} (ht : t ∉ ks) : valV kvs (ki t) = none := by
  have q := valV_any (ki t) kvs
  cases e : valV kvs (ki t) with
  | none => rfl
  | some v =>
    rw [e] at q
    exact absurd ((mem_keys h t).mp q) ht
theorem ki_ne {s t : List Nat} (h : s ≠ t) : ¬ ki s = ki t := fun e => h (ki_inj e)
theorem FI.step {x : Box} {Hb H0 : Hp} {dP dK : Addr} {ps ks : List (List Nat)} {kvP kvK : List (List Key × V)} {la oa : List Nat → Addr} (F : FI x Hb H0 dP dK ps ks kvP kvK la oa) {p s : List Nat} (hs : x.chain p = s) {r o : Addr} {H' : Hp} {ts' : List Addr} {kvo' : List (List Key × V)} {ms' : List (List Nat)}
    (keep : ∀ b u, b ≠ dP → b ≠ dK → b ≠ o → H0 b = some u → H' b = some u) (hP : H' dP = some (.dT (putK kvP (ki s) (.ref r)))) (hK : H' dK = some (.dT (putK kvK (ki s) (.ref o))))
    (hr : H' r = some (.lst (ts'.map V.ref))) (hts : Tups H' ts' ((ps ++ [p]).filter fun q => x.chain q == s)) (ho : KeysAt H' o kvo' ms') (hms : ∀ m, m ∈ ms' ↔ ∃ q ∈ ps ++ [p], x.chain q = s ∧ IsLeast x q m) (hml : ms'.length ≤ ps.length + 1)
    (hoa : (s ∈ ks ∧ o = oa s) ∨ (s ∉ ks ∧ H0 o = none)) (hof : Hb o = none) (hoP : o ≠ dP) (hoK : o ≠ dK) :
    FI x Hb H' dP dK (ps ++ [p]) (addK ks s) (putK kvP (ki s) (.ref r)) (putK kvK (ki s) (.ref o)) (fun u => if u = s then r else la u) (fun u => if u = s then o else oa u) := by
  have o0 : ∀ b u, H0 b = some u → (∀ kvs, u ≠ .dT kvs) → b ≠ o := fun b u hb hu z => by
    rcases hoa with ⟨h1, h2⟩ | ⟨h1, h2⟩
    · obtain ⟨_, kvo, ms, hk, _⟩ := F.kv s h1
      rw [z, h2, hk.at_] at hb
      exact hu _ (Option.some.inj hb).symm
    · rw [z, h2] at hb; cases hb
  have kt : ∀ b xs, H0 b = some (.tup xs) → H' b = some (.tup xs) := fun b xs hb => keep b _ (tup_neD hb F.kp.at_) (tup_neD hb F.kk.at_) (o0 b _ hb fun _ z => by cases z) hb
  have kl : ∀ b xs, H0 b = some (.lst xs) → H' b = some (.lst xs) := fun b xs hb => keep b _ (lst_neD hb F.kp.at_) (lst_neD hb F.kk.at_) (o0 b _ hb fun _ z => by cases z) hb
  have old : ∀ u, u ∈ addK ks s → u ≠ s → u ∈ ks := fun u hu hne => by
    rcases mem_addK.mp hu with z | z
    · exact z
    · exact absurd z hne
  have oau : ∀ u ∈ ks, u ≠ s → oa u ≠ o := fun u hu hne z => by
    rcases hoa with ⟨h1, h2⟩ | ⟨h1, h2⟩
    · exact hne (F.inj u hu s h1 (z.trans h2))
    · obtain ⟨_, kvo, ms, hk, _⟩ := F.kv u hu
      rw [← z, hk.at_] at h2
      cases h2
  have kpos : ∀ u, valV (putK kvP (ki s) (.ref r)) (ki u) = if u = s then some (.ref r) else valV kvP (ki u) := fun u => by
    rw [valV_put]
    by_cases e : u = s
    · rw [if_pos e, if_pos (by rw [e])]
    · rw [if_neg e, if_neg (ki_ne e)]
  have kpos2 : ∀ u, valV (putK kvK (ki s) (.ref o)) (ki u) = if u = s then some (.ref o) else valV kvK (ki u) := fun u => by
    rw [valV_put]
    by_cases e : u = s
    · rw [if_pos e, if_pos (by rw [e])]
    · rw [if_neg e, if_neg (ki_ne e)]
  refine ⟨⟨hP, keys_put F.kp.keys _ _, nodup_addK F.kp.nd⟩, ⟨hK, keys_put F.kk.keys _ _, nodup_addK F.kk.nd⟩, fun u => ?_, fun u hu => ?_, fun u hu => ?_, fun u hu v hv e => ?_, fun u hu => ?_, F.ne, fun u hu => ?_, ?_⟩
  · rw [mem_addK, F.mem]
    constructor
    · rintro (⟨q, h1, h2⟩ | h)
      · exact ⟨q, List.mem_append_left _ h1, h2⟩
      · exact ⟨p, List.mem_append_right _ (by simp), hs.trans h.symm⟩
    · rintro ⟨q, h1, h2⟩
      rcases List.mem_append.mp h1 with z | z
      · exact .inl ⟨q, z, h2⟩
      · rw [List.mem_singleton.mp z, hs] at h2; exact .inr h2.symm
  · rw [kpos]
    by_cases e : u = s
    · subst e
      rw [if_pos rfl]
      show some (V.ref r) = some (V.ref (if u = u then r else la u)) ∧ _
      rw [if_pos rfl]
      exact ⟨rfl, ts', hr, hts⟩
    · rw [if_neg e]
      obtain ⟨h1, ts, h2, h3⟩ := F.pv u (old u hu e)
      show valV kvP (ki u) = some (V.ref (if u = s then r else la u)) ∧ ∃ ts, H' (if u = s then r else la u) = _ ∧ _
      rw [if_neg e]
      refine ⟨h1, ts, kl _ _ h2, ?_⟩
      have ef : (ps ++ [p]).filter (fun q => x.chain q == u) = ps.filter fun q => x.chain q == u := by
        rw [List.filter_append]
        have : (x.chain p == u) = false := by rw [hs]; simpa using fun z => e z.symm
        simp [this]
      rw [ef]
      exact h3.mono kt
  · rw [kpos2]
    by_cases e : u = s
    · subst e
      rw [if_pos rfl]
      show some (V.ref o) = some (V.ref (if u = u then o else oa u)) ∧ ∃ kvo ms, KeysAt H' (if u = u then o else oa u) kvo ms ∧ _
      rw [if_pos rfl]
      exact ⟨rfl, kvo', ms', ho, hms, by rw [List.length_append]; exact hml⟩
    · rw [if_neg e]
      obtain ⟨h1, kvo, ms, h2, h3, h4⟩ := F.kv u (old u hu e)
      show valV kvK (ki u) = some (V.ref (if u = s then o else oa u)) ∧ ∃ kvo ms, KeysAt H' (if u = s then o else oa u) kvo ms ∧ _
      rw [if_neg e]
      refine ⟨h1, kvo, ms, ⟨keep _ _ (F.no u (old u hu e)).1 (F.no u (old u hu e)).2 (oau u (old u hu e) e) h2.at_, h2.keys, h2.nd⟩, fun m => ?_, by rw [List.length_append]; omega⟩
      rw [h3]
      constructor
      · rintro ⟨q, q1, q2⟩
        exact ⟨q, List.mem_append_left _ q1, q2⟩
      · rintro ⟨q, q1, q2, q3⟩
        rcases List.mem_append.mp q1 with z | z
        · exact ⟨q, z, q2, q3⟩
        · rw [List.mem_singleton.mp z, hs] at q2; exact absurd q2.symm e
  · by_cases e1 : u = s
    · by_cases e2 : v = s
      · rw [e1, e2]
      · have e : (if u = s then o else oa u) = (if v = s then o else oa v) := e
        rw [if_pos e1, if_neg e2] at e
        exact absurd e.symm (oau v (old v hv e2) e2)
    · by_cases e2 : v = s
      · have e : (if u = s then o else oa u) = (if v = s then o else oa v) := e
        rw [if_neg e1, if_pos e2] at e
        exact absurd e (oau u (old u hu e1) e1)
      · have e : (if u = s then o else oa u) = (if v = s then o else oa v) := e
        rw [if_neg e1, if_neg e2] at e
        exact F.inj u (old u hu e1) v (old v hv e2) e
  · show (if u = s then o else oa u) ≠ dP ∧ (if u = s then o else oa u) ≠ dK
    by_cases e : u = s
    · rw [if_pos e]; exact ⟨hoP, hoK⟩
    · rw [if_neg e]; exact F.no u (old u hu e)
  · show Hb (if u = s then o else oa u) = none
    by_cases e : u = s
    · rw [if_pos e]; exact hof
    · rw [if_neg e]; exact F.fresh u (old u hu e)
  · have := len_addK ks s
    have := F.len
    rw [List.length_append]
    simp
    omega
theorem FI.same {x : Box} {Hb H0 H' : Hp} {dP dK : Addr} {ps ks : List (List Nat)} {kvP kvK : List (List Key × V)} {la oa : List Nat → Addr} (F : FI x Hb H0 dP dK ps ks kvP kvK la oa) (s : Same H0 H') : FI x Hb H' dP dK ps ks kvP kvK la oa :=
  ⟨⟨s _ _ F.kp.at_, F.kp.keys, F.kp.nd⟩, ⟨s _ _ F.kk.at_, F.kk.keys, F.kk.nd⟩, F.mem, fun u hu => by
    obtain ⟨h1, ts, h2, h3⟩ := F.pv u hu
    exact ⟨h1, ts, s _ _ h2, h3.same s⟩, fun u hu => by
    obtain ⟨h1, kvo, ms, h2, h3⟩ := F.kv u hu
    exact ⟨h1, kvo, ms, ⟨s _ _ h2.at_, h2.keys, h2.nd⟩, h3⟩, F.inj, F.no, F.ne, F.fresh, F.len⟩
/-! ### the object -/
def fF (dP lC dK : Addr) : List (Str × V) := putF "kinds" (.ref dK) (putF "chains" (.ref lC) (putF "paths" (.ref dP) []))
theorem fF1 (dP : Addr) : (putF "paths" (.ref dP) [] : List (Str × V)).lookup ("paths" : Str) = some (.ref dP) := by rw [lookup_putF, if_pos rfl]
theorem ne_ck : ¬ (("chains" : Str) = "kinds") := by decide +kernel
theorem ne_pk : ¬ (("paths" : Str) = "kinds") := by decide +kernel
theorem ne_pc : ¬ (("paths" : Str) = "chains") := by decide +kernel
theorem fF2 (dP lC : Addr) : (putF "chains" (.ref lC) (putF "paths" (.ref dP) []) : List (Str × V)).lookup ("chains" : Str) = some (.ref lC) := by rw [lookup_putF, if_pos rfl]
theorem fF_paths (dP lC dK : Addr) : (fF dP lC dK).lookup ("paths" : Str) = some (.ref dP) := by
  unfold fF
  rw [lookup_putF, if_neg ne_pk, lookup_putF, if_neg ne_pc, lookup_putF, if_pos rfl]
theorem fF_chains (dP lC dK : Addr) : (fF dP lC dK).lookup ("chains" : Str) = some (.ref lC) := by
  unfold fF
  rw [lookup_putF, if_neg ne_ck, lookup_putF, if_pos rfl]
theorem fF_kinds (dP lC dK : Addr) : (fF dP lC dK).lookup ("kinds" : Str) = some (.ref dK) := by
  unfold fF
  rw [lookup_putF, if_pos rfl]
theorem fF_no (dP lC dK : Addr) {m : Str} (h1 : ¬ m = "kinds") (h2 : ¬ m = "chains") (h3 : ¬ m = "paths") : (fF dP lC dK).lookup m = none := by
  unfold fF
  rw [lookup_putF, if_neg h1, lookup_putF, if_neg h2, lookup_putF, if_neg h3]
  rfl
structure FoldP (CF : Addr) (H : Hp) (f : Addr) (x : Box) (dx dP lC dK : Addr) (kvP kvK : List (List Key × V)) (bs : List Addr) : Prop where
  ob : H f = some (.ins CF dx (fF dP lC dK))
  dP : H dP = some (.dT kvP)
  lC : H lC = some (.lst (bs.map V.ref))
  ch : Tups H bs x.chains
  dK : H dK = some (.dT kvK)
  pv : ∀ s ∈ x.chains, ∃ l ts, valV kvP (ki s) = some (.ref l) ∧ H l = some (.lst (ts.map V.ref)) ∧ Tups H ts (x.folds s)
  pn : ∀ s, s ∉ x.chains → valV kvP (ki s) = none
  kv : ∀ s ∈ x.chains, valV kvK (ki s) = some (.int (x.ways s : Nat))
  kn : ∀ s, s ∉ x.chains → valV kvK (ki s) = none
def FoldAt (CF : Addr) (H : Hp) (f : Addr) (x : Box) : Prop := ∃ dx dP lC dK kvP kvK bs, FoldP CF H f x dx dP lC dK kvP kvK bs
theorem FoldP.same {CF f : Addr} {H H' : Hp} {x : Box} {dx dP lC dK : Addr} {kvP kvK : List (List Key × V)} {bs : List Addr} (F : FoldP CF H f x dx dP lC dK kvP kvK bs) (s : Same H H') : FoldP CF H' f x dx dP lC dK kvP kvK bs :=
  ⟨s _ _ F.ob, s _ _ F.dP, s _ _ F.lC, F.ch.same s, s _ _ F.dK, fun u hu => by
    obtain ⟨l, ts, h1, h2, h3⟩ := F.pv u hu
    exact ⟨l, ts, h1, s _ _ h2, h3.same s⟩, F.pn, F.kv, F.kn⟩
theorem FoldAt.same {CF f : Addr} {H H' : Hp} {x : Box} (F : FoldAt CF H f x) (s : Same H H') : FoldAt CF H' f x := by
  obtain ⟨dx, dP, lC, dK, kvP, kvK, bs, F⟩ := F
  exact ⟨dx, dP, lC, dK, kvP, kvK, bs, F.same s⟩
/-- the chains of a box: the keys, in order -/
theorem chains_of {x : Box} {ks ss : List (List Nat)} (nd : ks.Nodup) (hm : ∀ s, s ∈ ks ↔ ∃ p ∈ x.all, x.chain p = s) (hp : ss.Perm ks) (hs : ss.Pairwise fun s t => Uw55.less t s = false) : ss = x.chains := by
  refine sorted_ext ?_ (chains_sorted x) fun s => ?_
  · have nd' : ss.Nodup := hp.nodup_iff.mpr nd
    refine List.Pairwise.imp₂ (fun a b h1 h2 => ?_) hs nd'
    rcases not_less h1 with k | k
    · exact absurd k.symm h2
    · exact k
  · rw [hp.mem_iff, hm, mem_chains]
end CC
end
section
set_option Elab.async false
set_option linter.all false
set_option maxRecDepth 100000
set_option maxHeartbeats 4000000
namespace CC
open PySem PySem.Spec PyProof.Rows L2
open Uw55 (Box)
structure Ini (K : PySem.W.Frag) (mg : Str → Option Value) (x : Str) (C : Addr) (qual : Str) (st : Stmt) (ps : List Str) : Prop where
  ex : ∃ f fd, Mk K C f ∧ mg x = some (.ref C) ∧ C8.Fun K "__init__" qual st f fd ∧ Binds K fd ps []
theorem Ini.mak {P : Program} {w : World} {K : PySem.W.Frag} {mg : Str → Option Value} {base : Heap} {x qual : Str} {C : Addr} {st : Stmt} {N ps : List Str} {k : Nat} {sp : Sp} (D : Ini K mg x C qual st ps) (S : FnScope N ps (C8.fnScope st)) (len : ∀ vs H Q E, sp vs H Q E → vs.length = ps.length)
    (hbody : ∀ (f : Addr) (cdv : Value) (A : Around) (outer : List Env) (s : Shared) (H : Hp) (vs : List V) (Q : VK) (E : XK), Room k (A.deeper (envOfC qual (C8.fnScope st) s.heap.objs.size f cdv)) → sp vs H Q E →
      ∃ t, PSs (cxOf C8.CX0 P w K mg base N qual (C8.fnScope st) f cdv A outer s H E).nox (C8.fnBody st) t ∧ t { nx := fun _ H' => Q .non H', rt := Q } (start N vs) H) : C8.Mak P w K mg base (k + 1) x C sp [] := by
  obtain ⟨f, fd, M, hm, D, b⟩ := D.ex
  exact C8.mak0 M hm D b .nil S len (hbody f)
structure FC (K : PySem.W.Frag) (C : Addr) : Prop where
  cl : Cls K C
  nP : NoAttr K C "paths"
  nC : NoAttr K C "chains"
  nK : NoAttr K C "kinds"
/-! ### all but dicts stays -/
def Kd (H H' : Hp) : Prop := ∀ b u, (∀ kvs, u ≠ .dT kvs) → H b = some u → H' b = some u
theorem Kd.of {H H' : Hp} (s : Same H H') : Kd H H' := fun b u _ e => s b u e
theorem Kd.trans {H H1 H2 : Hp} (a : Kd H H1) (b : Kd H1 H2) : Kd H H2 := fun c u n e => b c u n (a c u n e)
theorem Kd.upd {H : Hp} {d : Addr} {kvs : List (List Key × V)} {o : HO} (h : H d = some (.dT kvs)) : Kd H (L2.upd H d o) := fun b u n e => by
  rw [upd_ne (fun z => n kvs (by rw [z, h] at e; exact (Option.some.inj e).symm))]
  exact e
theorem Kd.tup {H H' : Hp} (k : Kd H H') {t : Addr} {xs : List V} (h : H t = some (.tup xs)) : H' t = some (.tup xs) := k _ _ (fun _ z => by cases z) h
theorem Kd.lst {H H' : Hp} (k : Kd H H') {t : Addr} {xs : List V} (h : H t = some (.lst xs)) : H' t = some (.lst xs) := k _ _ (fun _ z => by cases z) h
theorem Kd.ins {H H' : Hp} (k : Kd H H') {t C dx : Addr} {fs : List (Str × V)} (h : H t = some (.ins C dx fs)) : H' t = some (.ins C dx fs) := k _ _ (fun _ z => by cases z) h
theorem sqT_keep {K : PySem.W.Frag} {H H' : Hp} {a : Addr} {xs : List V} (h : SqT K H a xs) (k : ∀ u, (u = .tup xs ∨ ∃ o, u = .frz o (.tup xs)) → H a = some u → H' a = some u) : SqT K H' a xs := by
  rcases h with (h | ⟨o, h⟩) | h
  · exact .inl (.inl (k _ (.inl rfl) h))
  · exact .inl (.inr ⟨o, k _ (.inr ⟨o, rfl⟩) h⟩)
  · exact .inr h
theorem Kd.sq {K : PySem.W.Frag} {H H' : Hp} {a : Addr} {xs : List V} (k : Kd H H') (h : SqT K H a xs) : SqT K H' a xs := sqT_keep h fun u hu e => k a u (fun kvs z => by
  rcases hu with r | ⟨o, r⟩
  · rw [r] at z; cases z
  · rw [r] at z; cases z) e
theorem but_sq {K : PySem.W.Frag} {H H' : Hp} {f a C dx : Addr} {fs : List (Str × V)} {xs : List V} (b : But f H H') (hf : H f = some (.ins C dx fs)) (h : SqT K H a xs) : SqT K H' a xs := sqT_keep h fun u hu e => b a u (fun z => by
  rw [z, hf] at e
  have e := Option.some.inj e
  rcases hu with r | ⟨o, r⟩
  · rw [r] at e; cases e
  · rw [r] at e; cases e) e
theorem few_keys {ks : List (List Nat)} (nd : ks.Nodup) (h : ∀ k ∈ ks, k.length = 0) : ks.length < 2 := by
  match ks, nd, h with
  | [], _, _ => exact by decide
  | [_], _, _ => exact Nat.lt_succ_self 1
  | a :: b :: r, nd, h =>
    have h1 := List.eq_nil_of_length_eq_zero (h a (by simp))
    have h2 := List.eq_nil_of_length_eq_zero (h b (by simp))
    subst h1 h2
    exact absurd nd (by simp)
def spFInit (K : PySem.W.Frag) (CF : Addr) : Sp := fun vs H Q _ => ∃ (f ab dx : Addr) (x : Box), vs = [.ref f, .ref ab] ∧ H f = some (.ins CF dx []) ∧ BoxAt K H ab x ∧ Good x ∧ ∀ H', But f H H' → FoldAt CF H' f x → Q .non H'
section
variable {P : Program} {w : World} {K : PySem.W.Frag} {mg : Str → Option Value} {base : Heap} {CF : Addr}
abbrev nFi : List Str := ["self", "box", "images", "kinds", "path", "chain", "own"]
theorem scFi : FnScope nFi ["self", "box"] (C8.fnScope (mF 0)) := C8.fnScope_by (by decide +kernel)
theorem mak_fold (T : Blt mg) (C : FC K CF) (D : Ini K mg "Foldings" CF "Foldings.__init__" (mF 0) ["self", "box"]) (GI : C8.Cal P w K mg base 3 "all_images" (spImages K) []) (GP : C8.Cal P w K mg base 4 "all_paths" (spPaths K) []) (GC : C8.Cal P w K mg base 3 "chain_of" (spChain K) [])
    (GL : C8.Cal P w K mg base 1 "least_image" (spLeast K) []) : C8.Mak P w K mg base 5 "Foldings" CF (spFInit K CF) [] := by
  refine D.mak scFi (fun vs H Q E h => ?_) (fun fa cdv A outer s H vs Q E hr h => ?_)
  · obtain ⟨f, ab, dx, x, rfl, _⟩ := h
    rfl
  · obtain ⟨f, ab, dx, x, rfl, hf, hb, g, q⟩ := h
    refine ⟨_, pss_cons (ps_set (i := 2) scFi.nd rfl (.inl rfl) (C8.pe_c GI hr (by decide) (by rfl) (pa_cons (pv 1) pa_nil)))
      (pss_cons (ps_fld (pv 0) pe_dnewT rfl)
      (pss_cons (ps_set (i := 3) scFi.nd rfl (.inl rfl) pe_dnewT)
      (pss_cons (ps_for PassesOwn.never rfl (pi_list (C8.pe_c GP hr (by decide) (by rfl) (pa_cons (pv 1) pa_nil))) (pg_name (i := 4) scFi.nd rfl (.inl rfl))
        (pss_cons (ps_set (i := 5) scFi.nd rfl (.inl rfl) (C8.pe_c GC hr (by decide) (by rfl) (pa_cons (pv 1) (pa_cons (pv 4) pa_nil))))
        (pss_cons (ps_dput (hu_of hr) (pe_fld (pv 0) rfl) (pv 5) (pe_op op_cat (pe_dget2 (hu_of hr) (pe_fld (pv 0) rfl) (pv 5) (pe_lst pa_nil) ⟨rfl, rfl, rfl, rfl⟩) (pe_lst (pa_cons (pv 4) pa_nil))) rfl)
        (pss_cons (ps_set (i := 6) scFi.nd rfl (.inl rfl) (pe_dget2 (hu_of hr) (pv 3) (pv 5) pe_dnewT ⟨rfl, rfl, rfl, rfl⟩))
        (pss_cons (ps_dput (hu_of hr) (pv 6) (C8.pe_c GL hr (by decide) (by rfl) (pa_cons (pv 2) (pa_cons (pv 4) pa_nil))) pe_bl rfl)
        (pss_one (ps_dput (hu_of hr) (pv 3) (pv 5) (pv 6) rfl)))))))
      (pss_cons (ps_fld (pv 0) (pe_callB (cr_sortedT rfl hr.units) (by rfl) T.sorted (by decide +kernel) (pa_cons (pe_fld (pv 0) rfl) pa_nil)) rfl)
      (pss_cons (ps_fld (pv 0) pe_dnewT rfl)
      (pss_one (ps_for PassesOwn.never rfl (pi_list (pe_fld (pv 0) rfl)) (pg_name (i := 5) scFi.nd rfl (.inl rfl))
        (pss_one (ps_dput (hu_of hr) (pe_fld (pv 0) rfl) (pv 5) (pe_callB call_len_dT (by rfl) T.len PySem.boot_len (pa_cons (pe_dget (hu_of hr) (pv 3) (pv 5) (fun _ _ => rfl)) pa_nil)) rfl))))))))), ?_⟩
    have n2 := g.n2
    have n12 := g.n12
    have n1 : 1 ≤ x.cells := by omega
    -- images
    refine ⟨_, rfl, ab, x, rfl, hb, g, fun H1 pi bs ks s1 hpi hbs hkl hks => ?_⟩
    -- self.paths = {}
    refine fun dP ndP => ⟨_, rfl, f, CF, dx, _, rfl, (same_upd ndP) _ _ (s1 _ _ hf), C.cl, C.nP, (by show 0 < 1000; decide), ?_⟩
    have nfP : f ≠ dP := ne_of_none (s1 _ _ hf) ndP
    -- kinds = {}
    refine fun dK ndK => ?_
    generalize hH2 : upd (upd H1 dP (.dT [])) f (.ins CF dx (putF "paths" (.ref dP) [])) = H2 at ndK ⊢
    have b12 : But f H1 H2 := fun b o hne e => by rw [← hH2, upd_ne hne]; exact (same_upd ndP) _ _ e
    have h2f : H2 f = some (.ins CF dx (putF "paths" (.ref dP) [])) := by rw [← hH2]; exact upd_same
    have h2P : H2 dP = some (.dT []) := by rw [← hH2, upd_ne nfP.symm]; exact upd_same
    have bx2 : BoxAt K H2 ab x := but_sq b12 (s1 _ _ hf) (sm_T s1 hb)
    have s3 : Same H2 (upd H2 dK (.dT [])) := same_upd ndK
    have nPK : dP ≠ dK := ne_of_none h2P ndK
    -- all_paths
    refine ⟨_, rfl, ab, x, rfl, sm_T s3 bx2, g, fun H4 pl ts s4 hpl hts => ⟨pl, rfl, ⟨_, sqL hpl⟩, ?_⟩⟩
    have s24 := s3.trans s4
    have h4f := s24 _ _ h2f
    have h4P := s24 _ _ h2P
    have h4K : H4 dK = some (.dT []) := s4 _ _ upd_same
    have bx4 := sm_T s24 bx2
    have npf : pi ≠ f := ne_of hpi (s1 _ _ hf) (by intro z; cases z)
    have h4i : H4 pi = some (.lst (bs.map V.ref)) := s24 _ _ (b12 _ _ npf hpi)
    have hbs4 : Tups H4 bs ks := hbs.mono fun b xs e => s24 _ _ (b12 _ _ (ne_of e (s1 _ _ hf) (by intro z; cases z)) e)
    have tsl : ts.length = x.all.length := Paired.length hts
    have kne : ks ≠ [] := fun z => by
      have := (hks _).mpr (tabs_one g)
      rw [z] at this
      cases this
    refine for_list (K := K) (a := pl) (xs := ts.map V.ref) (fun i σ H' => ∃ v4 v5 v6 ks' kvP kvK la oa, σ = [some (.ref f), some (.ref ab), some (.ref pi), some (.ref dK), v4, v5, v6] ∧ (∀ b u, b ≠ dP → b ≠ dK → H4 b = some u → H' b = some u) ∧ FI x H4 H' dP dK (x.all.take i) ks' kvP kvK la oa)
      ⟨none, none, none, [], [], [], fun _ => 0, fun _ => 0, rfl, fun b u _ _ e => e, ⟨⟨h4P, rfl, List.nodup_nil⟩, ⟨h4K, rfl, List.nodup_nil⟩, (fun s => by simp), (fun s hs => by cases hs), (fun s hs => by cases hs), (fun s hs => by cases hs), (fun s hs => by cases hs), nPK, (fun s hs => by cases hs), Nat.zero_le _⟩⟩
      (fun i σ H' _ ⟨_, _, _, _, _, _, _, _, _, k, _⟩ => sqL (k _ _ (lst_neD hpl h4P) (lst_neD hpl h4K) hpl)) ?_ ?_
    · rintro i y σ H5 hy ⟨v4, v5, v6, ks', kvP, kvK, la, oa, rfl, k5, F⟩
      rw [List.getElem?_map] at hy
      obtain ⟨t, ht, rfl⟩ := Option.map_eq_some_iff.mp hy
      obtain ⟨p, hp, hTp⟩ := Paired.at hts ht
      have hpa : p ∈ x.all := List.mem_of_getElem? hp
      obtain ⟨lp, ip⟩ := (mem_all n1).mp hpa
      have kd5 : Kd H4 H5 := fun b u nu e => k5 b u (fun z => nu _ (by rw [z, h4P] at e; exact (Option.some.inj e).symm)) (fun z => nu _ (by rw [z, h4K] at e; exact (Option.some.inj e).symm)) e
      have h5t := kd5.tup hTp
      have h5f := kd5.ins h4f
      have bx5 := kd5.sq bx4
      have hil : i < x.all.length := (List.getElem?_eq_some_iff.mp hp).1
      have hal := all_len g
      have tk : (x.all.take i).length ≤ 3000 := by rw [List.length_take]; omega
      have kl := F.len
      -- chain = chain_of(box, path)
      refine ⟨_, rfl, _, rfl, ab, t, x, p, rfl, bx5, g, sqT h5t, by omega, fun H6 tc s6 htc => ?_⟩
      generalize hs : x.chain p = s at htc
      have h6c : H6 tc = some (.tup ((ki s).map kV)) := by rw [kV_ki]; exact htc
      -- self.paths.get(chain, [])
      refine ⟨_, rfl, f, CF, dx, _, _, rfl, s6 _ _ h5f, C.cl, C.nP, fF1 dP, dP, rfl, .inr ⟨_, .inl (s6 _ _ F.kp.at_)⟩, _, rfl, Nat.zero_le _, fun l0 n0 => ?_⟩
      have s7 : Same H5 (upd H6 l0 (.lst [])) := s6.trans (same_upd n0)
      refine ⟨_, DGet.t (s7 _ _ F.kp.at_) ((same_upd n0) _ _ h6c), ?_⟩
      obtain ⟨l, ts0, el, hl, hts0⟩ : ∃ l ts0, (valV kvP (ki s)).getD (.ref l0) = .ref l ∧ (upd H6 l0 (.lst [])) l = some (.lst (ts0.map V.ref)) ∧ Tups (upd H6 l0 (.lst [])) ts0 ((x.all.take i).filter fun q => x.chain q == s) := by
        by_cases hm : s ∈ ks'
        · obtain ⟨e1, ts0, e2, e3⟩ := F.pv s hm
          exact ⟨la s, ts0, by rw [e1]; rfl, s7 _ _ e2, e3.same s7⟩
        · refine ⟨l0, [], by rw [val_none F.kp.keys hm]; rfl, upd_same, ?_⟩
          have e : (x.all.take i).filter (fun q => x.chain q == s) = [] := List.filter_eq_nil_iff.mpr fun q hq z => hm ((F.mem s).mpr ⟨q, hq, eq_of_beq z⟩)
          rw [e]
          exact .nil
      rw [el]
      refine ⟨_, rfl, (by show 1 ≤ sizeLine; decide), fun l1 n1' => ?_⟩
      have s8 : Same (upd H6 l0 (.lst [])) (upd (upd H6 l0 (.lst [])) l1 (.lst [.ref t])) := same_upd n1'
      have tl0 : ts0.length ≤ 3000 := by rw [Paired.length hts0]; exact Nat.le_trans (List.length_filter_le _ _) tk
      refine ⟨l, l1, _, _, rfl, rfl, s8 _ _ hl, upd_same, ?_, fun r nr => ?_⟩
      · rw [List.length_map]
        exact Nat.le_trans (by show ts0.length + 1 ≤ 4000; omega) (by decide)
      generalize hH9 : upd (upd (upd H6 l0 (.lst [])) l1 (.lst [.ref t])) r (.lst (ts0.map V.ref ++ [.ref t])) = H9
      have s89 : Same (upd (upd H6 l0 (.lst [])) l1 (.lst [.ref t])) H9 := by rw [← hH9]; exact same_upd nr
      have s9 : Same H5 H9 := (s7.trans s8).trans s89
      have s69 : Same H6 H9 := ((same_upd n0).trans s8).trans s89
      have h9r : H9 r = some (.lst ((ts0 ++ [t]).map V.ref)) := by rw [← hH9, upd_same, List.map_append]; rfl
      have h9ts : Tups H9 (ts0 ++ [t]) ((x.all.take i ++ [p]).filter fun q => x.chain q == s) := by
        rw [List.filter_append]
        have e : List.filter (fun q => x.chain q == s) [p] = [p] := by simp [hs]
        rw [e]
        exact Paired.append (hts0.same (s8.trans s89)) (.cons (s9 _ _ h5t) .nil)
      have h9c := s69 _ _ h6c
      have h9P := s9 _ _ F.kp.at_
      refine ⟨_, rfl, f, CF, dx, _, _, rfl, s9 _ _ h5f, C.cl, C.nP, fF1 dP, _, rfl, dP, _, rfl, DPut.t h9P h9c (by rw [F.kp.len]; exact Nat.lt_of_le_of_lt (by omega : ks'.length ≤ 3000) (by decide)), ?_⟩
      -- own = kinds.get(chain, {})
      generalize hH10 : upd H9 dP (.dT (putK kvP (ki s) (.ref r))) = H10
      have k910 : Kd H9 H10 := by rw [← hH10]; exact Kd.upd h9P
      have b910 : But dP H9 H10 := by rw [← hH10]; exact But.upd
      have h10P : H10 dP = some (.dT (putK kvP (ki s) (.ref r))) := by rw [← hH10]; exact upd_same
      have h10K : H10 dK = some (.dT kvK) := b910 _ _ nPK.symm (s9 _ _ F.kk.at_)
      have h10c := k910.tup h9c
      refine ⟨_, rfl, dK, rfl, .inr ⟨_, .inl h10K⟩, _, rfl, fun o0 no0 => ⟨_, DGet.t ((same_upd no0) _ _ h10K) ((same_upd no0) _ _ h10c), ?_⟩⟩
      have s11 : Same H10 (upd H10 o0 (.dT [])) := same_upd no0
      have n5o0 : H5 o0 = none := by
        cases e : H5 o0 with
        | none => rfl
        | some u =>
          by_cases z : o0 = dP
          · rw [z, h10P] at no0; cases no0
          · rw [b910 _ _ z (s9 _ _ e)] at no0; cases no0
      have n4o0 : H4 o0 = none := by
        cases e : H4 o0 with
        | none => rfl
        | some u =>
          by_cases z : o0 = dP
          · rw [z, h10P] at no0; cases no0
          · by_cases z2 : o0 = dK
            · rw [z2, h10K] at no0; cases no0
            · rw [k5 _ _ z z2 e] at n5o0; cases n5o0
      obtain ⟨o, kvo, ms, eo, hko, hmo, hlo, hoa, hof, hoP, hoK⟩ : ∃ o kvo ms, (valV kvK (ki s)).getD (.ref o0) = .ref o ∧ KeysAt (upd H10 o0 (.dT [])) o kvo ms ∧ (∀ m, m ∈ ms ↔ ∃ q ∈ x.all.take i, x.chain q = s ∧ IsLeast x q m) ∧ ms.length ≤ (x.all.take i).length ∧ ((s ∈ ks' ∧ o = oa s) ∨ (s ∉ ks' ∧ H5 o = none)) ∧ H4 o = none ∧ o ≠ dP ∧ o ≠ dK := by
        by_cases hm : s ∈ ks'
        · obtain ⟨e1, kvo, ms, e2, e3, e4⟩ := F.kv s hm
          exact ⟨oa s, kvo, ms, by rw [e1]; rfl, ⟨s11 _ _ (b910 _ _ (F.no s hm).1 (s9 _ _ e2.at_)), e2.keys, e2.nd⟩, e3, e4, .inl ⟨hm, rfl⟩, F.fresh s hm, (F.no s hm).1, (F.no s hm).2⟩
        · refine ⟨o0, [], [], by rw [val_none F.kk.keys hm]; rfl, ⟨upd_same, rfl, List.nodup_nil⟩, fun m => ?_, Nat.zero_le _, .inr ⟨hm, n5o0⟩, n4o0, fun z => ?_, fun z => ?_⟩
          · constructor
            · intro z; cases z
            · rintro ⟨q, h1, h2, _⟩
              exact absurd ((F.mem s).mpr ⟨q, h1, h2⟩) hm
          · rw [z, h10P] at no0; cases no0
          · rw [z, h10K] at no0; cases no0
      rw [eo]
      generalize hH11 : upd H10 o0 (.dT []) = H11 at s11 hko
      have k511 : Kd H5 H11 := (Kd.of s9).trans (k910.trans (Kd.of s11))
      -- own[least_image(images, path)] = True
      refine ⟨_, rfl, _, rfl, _, rfl, pi, t, x.cells, bs, ks, p, rfl, sqL (k511.lst (kd5.lst h4i)), hbs4.mono fun b xs e => k511.tup (kd5.tup e), kne, by omega, fun t ht => tab_len ((hks t).mp ht), sqT (k511.tup h5t), ip.lt, by omega, fun H12 tm m s12 htm hm1 hm2 => ?_⟩
      have hil2 : IsLeast x p m := ⟨by
        obtain ⟨tb, h1, h2⟩ := hm1
        exact ⟨tb, (hks tb).mp h1, h2⟩, fun tb htb => hm2 tb ((hks tb).mpr htb)⟩
      have hko12 : KeysAt H12 o kvo ms := ⟨s12 _ _ hko.at_, hko.keys, hko.nd⟩
      refine ⟨o, _, rfl, DPut.t (k := ki m) hko12.at_ (by rw [kV_ki]; exact htm) (by rw [hko12.len]; exact Nat.lt_of_le_of_lt (Nat.le_trans hlo tk) (by decide)), ?_⟩
      generalize hH13 : upd H12 o (.dT (putK kvo (ki m) (.bl true))) = H13
      have k1213 : Kd H12 H13 := by rw [← hH13]; exact Kd.upd hko12.at_
      have b1213 : But o H12 H13 := by rw [← hH13]; exact But.upd
      have ho13 : KeysAt H13 o (putK kvo (ki m) (.bl true)) (addK ms m) := by rw [← hH13]; exact hko12.put m _
      have h13K : H13 dK = some (.dT kvK) := b1213 _ _ hoK.symm (s12 _ _ (s11 _ _ h10K))
      have h13c := k1213.tup (s12 _ _ (s11 _ _ h10c))
      -- kinds[chain] = own
      refine ⟨_, rfl, _, rfl, _, rfl, dK, _, rfl, DPut.t h13K h13c (by rw [F.kk.len]; exact Nat.lt_of_le_of_lt (by omega : ks'.length ≤ 3000) (by decide)), ?_⟩
      have k1314 : Kd H13 (upd H13 dK (.dT (putK kvK (ki s) (.ref o)))) := Kd.upd h13K
      have keep : ∀ b u, b ≠ dP → b ≠ dK → b ≠ o → H5 b = some u → (upd H13 dK (.dT (putK kvK (ki s) (.ref o)))) b = some u := fun b u h1 h2 h3 e => by
        rw [upd_ne h2]
        exact b1213 _ _ h3 (s12 _ _ (s11 _ _ (b910 _ _ h1 (s9 _ _ e))))
      refine ⟨_, _, _, addK ks' s, putK kvP (ki s) (.ref r), putK kvK (ki s) (.ref o), (fun u => if u = s then r else la u), (fun u => if u = s then o else oa u), rfl, fun b u h1 h2 e => ?_, ?_⟩
      · refine keep b u h1 h2 (fun z => ?_) (k5 b u h1 h2 e)
        rw [z, hof] at e
        cases e
      · rw [take_snoc hp]
        refine F.step (ts' := ts0 ++ [t]) (kvo' := putK kvo (ki m) (.bl true)) (ms' := addK ms m) hs keep ?_ upd_same ?_ ?_ ?_ (fun m' => ?_) ?_ hoa hof hoP hoK
        · rw [upd_ne nPK]
          exact b1213 _ _ hoP.symm (s12 _ _ (s11 _ _ h10P))
        · exact k1314.lst (k1213.lst (s12 _ _ (s11 _ _ (k910.lst h9r))))
        · exact h9ts.mono fun b xs e => k1314.tup (k1213.tup (s12 _ _ (s11 _ _ (k910.tup e))))
        · exact ⟨by rw [upd_ne hoK]; exact ho13.at_, ho13.keys, ho13.nd⟩
        · rw [mem_addK, hmo]
          constructor
          · rintro (⟨q, h1, h2⟩ | h)
            · exact ⟨q, List.mem_append_left _ h1, h2⟩
            · exact ⟨p, List.mem_append_right _ (by simp), hs, by rw [h]; exact hil2⟩
          · rintro ⟨q, h1, h2, h3⟩
            rcases List.mem_append.mp h1 with z | z
            · exact .inl ⟨q, z, h2, h3⟩
            · rw [List.mem_singleton.mp z] at h3
              exact .inr (h3.uniq hil2)
        · have := len_addK ms m
          omega
    · rintro σ H5 ⟨v4, v5, v6, ks', kvP, kvK, la, oa, rfl, k5, F⟩
      rw [List.length_map, tsl, List.take_length] at F
      have kd5 : Kd H4 H5 := fun b u nu e => k5 b u (fun z => nu _ (by rw [z, h4P] at e; exact (Option.some.inj e).symm)) (fun z => nu _ (by rw [z, h4K] at e; exact (Option.some.inj e).symm)) e
      have h5f := kd5.ins h4f
      have mch : ∀ s, s ∈ ks' ↔ s ∈ x.chains := fun s => (F.mem s).trans mem_chains.symm
      -- self.chains = sorted(self.paths)
      refine ⟨_, rfl, f, CF, dx, _, _, rfl, h5f, C.cl, C.nP, fF1 dP, dP, kvP, ks', x.cells - 2, rfl, F.kp.at_, F.kp.keys, fun k hk => chains_len g ((mch k).mp hk), ?_, fun lC bs' ss hperm hsort htup nlC => ?_⟩
      · by_cases h3 : 3 ≤ x.cells
        · exact .inl (by omega)
        · refine .inr (few_keys F.kp.nd fun k hk => ?_)
          rw [chains_len g ((mch k).mp hk)]
          omega
      have ess : ss = x.chains := chains_of F.kp.nd F.mem hperm hsort
      subst ess
      refine ⟨_, rfl, f, CF, dx, _, rfl, (same_upd nlC) _ _ h5f, C.cl, C.nC, (by show 1 < 1000; decide), ?_⟩
      have nfl : f ≠ lC := ne_of_none h5f nlC
      generalize hH6 : upd (upd H5 lC (.lst (bs'.map V.ref))) f (.ins CF dx (putF "chains" (.ref lC) (putF "paths" (.ref dP) []))) = H6
      have b56 : But f H5 H6 := fun b o hne e => by rw [← hH6, upd_ne hne]; exact (same_upd nlC) _ _ e
      have h6f : H6 f = some (.ins CF dx (putF "chains" (.ref lC) (putF "paths" (.ref dP) []))) := by rw [← hH6]; exact upd_same
      have h6l : H6 lC = some (.lst (bs'.map V.ref)) := by rw [← hH6, upd_ne nfl.symm]; exact upd_same
      -- self.kinds = {}
      refine fun dK2 ndK2 => ⟨_, rfl, f, CF, dx, _, rfl, (same_upd ndK2) _ _ h6f, C.cl, C.nK, (by rw [show (putF "chains" (.ref lC) (putF "paths" (.ref dP) []) : List (Str × V)).length = 2 by show (if ("paths" : Str) = "chains" then [(("paths" : Str), V.ref lC)] else (("paths" : Str), V.ref dP) :: putF "chains" (V.ref lC) []).length = 2; rw [if_neg ne_pc]; rfl]; decide), ?_⟩
      have nfk : f ≠ dK2 := ne_of_none h6f ndK2
      generalize hH7 : upd (upd H6 dK2 (.dT [])) f (.ins CF dx (putF "kinds" (.ref dK2) (putF "chains" (.ref lC) (putF "paths" (.ref dP) [])))) = H7
      have b67 : But f H6 H7 := fun b o hne e => by rw [← hH7, upd_ne hne]; exact (same_upd ndK2) _ _ e
      have b57 : But f H5 H7 := fun b o hne e => b67 _ _ hne (b56 _ _ hne e)
      have h7f : H7 f = some (.ins CF dx (fF dP lC dK2)) := by rw [← hH7]; exact upd_same
      have h7l : H7 lC = some (.lst (bs'.map V.ref)) := b67 _ _ nfl.symm h6l
      have h7k : H7 dK2 = some (.dT []) := by rw [← hH7, upd_ne nfk.symm]; exact upd_same
      have nd : ∀ {b u}, H5 b = some u → (∀ C dx fs, u ≠ .ins C dx fs) → b ≠ f := fun {b u} e hu z => by
        rw [z, h5f] at e
        exact hu _ _ _ (Option.some.inj e).symm
      have keep57 : ∀ {b u}, H5 b = some u → (∀ C dx fs, u ≠ .ins C dx fs) → H7 b = some u := fun {b u} e hu => b57 _ _ (nd e hu) e
      have n5k2 : H5 dK2 = none := by
        cases e : H5 dK2 with
        | none => rfl
        | some u => rw [b56 _ _ nfk.symm e] at ndK2; cases ndK2
      have lbs : bs'.length = x.chains.length := Paired.length htup
      have nch : x.chains.Nodup := (chains_sorted x).imp fun h => less_ne h
      -- for chain in self.chains
      refine ⟨_, rfl, f, CF, dx, _, _, rfl, h7f, C.cl, C.nC, fF_chains dP lC dK2, lC, rfl, ⟨_, sqL h7l⟩, ?_⟩
      refine for_list (K := K) (a := lC) (xs := bs'.map V.ref) (fun j σ H' => ∃ v4 v5 v6 kv2, σ = [some (.ref f), some (.ref ab), some (.ref pi), some (.ref dK), v4, v5, v6] ∧ But dK2 H7 H' ∧ KeysAt H' dK2 kv2 (x.chains.take j) ∧ ∀ s ∈ x.chains.take j, valV kv2 (ki s) = some (.int (x.ways s : Nat)))
        ⟨_, _, _, [], rfl, sm_but (Same.refl _), ⟨h7k, rfl, List.nodup_nil⟩, fun s hs => by cases hs⟩
        (fun j σ H' _ ⟨_, _, _, _, _, b, _⟩ => sqL (b _ _ (lst_neD h7l h7k) h7l)) ?_ ?_
      · rintro j y σ H8 hy ⟨v4, v5, v6, kv2, rfl, b78, hk2, hv2⟩
        rw [List.getElem?_map] at hy
        obtain ⟨c, hc, rfl⟩ := Option.map_eq_some_iff.mp hy
        obtain ⟨s, hs, hTc⟩ := Paired.at htup hc
        have hsm : s ∈ ks' := (mch s).mpr (List.mem_of_getElem? hs)
        obtain ⟨e1, kvo, ms, e2, e3, e4⟩ := F.kv s hsm
        have h7c : H7 c = some (.tup (vi s)) := keep57 hTc (fun _ _ _ z => by cases z)
        have h8c : H8 c = some (.tup ((ki s).map kV)) := by rw [kV_ki]; exact b78 _ _ (tup_neD h7c h7k) h7c
        have h8K : H8 dK = some (.dT kvK) := b78 _ _ (fun z => by rw [← z, F.kk.at_] at n5k2; cases n5k2) (keep57 F.kk.at_ (fun _ _ _ z => by cases z))
        have h8o : H8 (oa s) = some (.dT kvo) := b78 _ _ (fun z => by rw [← z, e2.at_] at n5k2; cases n5k2) (keep57 e2.at_ (fun _ _ _ z => by cases z))
        have ew : kvo.length = x.ways s := by
          rw [e2.len]
          refine ways_eq g e2.nd fun m => ?_
          rw [e3]
          unfold Uw55.Box.folds
          constructor
          · rintro ⟨q, h1, h2, h3⟩
            exact ⟨q, List.mem_filter.mpr ⟨h1, by rw [h2]; simp⟩, h3⟩
          · rintro ⟨q, h1, h3⟩
            obtain ⟨h4, h5⟩ := List.mem_filter.mp h1
            exact ⟨q, h4, eq_of_beq h5, h3⟩
        have h8f : H8 f = some (.ins CF dx (fF dP lC dK2)) := b78 _ _ nfk h7f
        refine ⟨_, rfl, _, rfl, dK, .ref (oa s), rfl, (by rw [← e1]; exact DGet.t h8K h8c), oa s, kvo, rfl, h8o, ?_⟩
        refine ⟨_, rfl, f, CF, dx, _, _, rfl, h8f, C.cl, C.nK, fF_kinds dP lC dK2, _, rfl, dK2, _, rfl, DPut.t hk2.at_ h8c (by rw [hk2.len, List.length_take]; have := F.len; have := all_len g; have : x.chains.length = ks'.length := hperm.length_eq; exact Nat.lt_of_le_of_lt (by omega : min j x.chains.length ≤ 3000) (by decide)), ?_⟩
        rw [ew]
        have hns : s ∉ x.chains.take j := fun z => by
          have q := nch
          rw [← List.take_append_drop (j + 1) x.chains, take_snoc hs] at q
          have q2 := (List.nodup_append.mp (List.nodup_append.mp q).1).2.2
          exact q2 s z s (by simp) rfl
        have ea : addK (x.chains.take j) s = x.chains.take (j + 1) := by
          unfold addK
          rw [if_neg hns, take_snoc hs]
        refine ⟨_, _, _, _, rfl, fun b u hne e => But.upd _ _ hne (b78 _ _ hne e), by rw [← ea]; exact hk2.put s _, fun u hu => ?_⟩
        rw [valV_put]
        by_cases e : u = s
        · rw [if_pos (by rw [e]), e]
        · rw [if_neg (ki_ne e)]
          rw [← ea] at hu
          rcases mem_addK.mp hu with z | z
          · exact hv2 u z
          · exact absurd z e
      · rintro σ H8 ⟨v4, v5, v6, kv2, rfl, b78, hk2, hv2⟩
        rw [List.length_map, lbs, List.take_length] at hk2 hv2
        have k8 : ∀ {b u}, H5 b = some u → (∀ C dx fs, u ≠ .ins C dx fs) → H8 b = some u := fun {b u} e hu => b78 _ _ (fun z => by rw [z, n5k2] at e; cases e) (keep57 e hu)
        refine q H8 (fun b o hne e => ?_) ⟨dx, dP, lC, dK2, kvP, kv2, bs', ⟨b78 _ _ nfk h7f, k8 F.kp.at_ (fun _ _ _ z => by cases z), b78 _ _ (lst_neD h7l h7k) h7l, htup.mono fun b xs e => k8 e (fun _ _ _ z => by cases z), hk2.at_, fun s hs => ?_, fun s hs => val_none F.kp.keys (fun z => hs ((mch s).mp z)), hv2, fun s hs => val_none hk2.keys hs⟩⟩
        · have e4 : H4 b = some o := s24 _ _ (b12 _ _ hne (s1 _ _ e))
          have nbP : b ≠ dP := fun z => by rw [z] at e; rw [s1 _ _ e] at ndP; cases ndP
          have nbK : b ≠ dK := fun z => by rw [z] at e; rw [b12 _ _ (by rw [← z]; exact hne) (s1 _ _ e)] at ndK; cases ndK
          have e5 := k5 _ _ nbP nbK e4
          exact b78 _ _ (fun z => by rw [z, n5k2] at e5; cases e5) (b57 _ _ hne e5)
        · obtain ⟨h1, ts2, h2, h3⟩ := F.pv s ((mch s).mpr hs)
          exact ⟨la s, ts2, h1, k8 h2 (fun _ _ _ z => by cases z), h3.mono fun b xs e => k8 e (fun _ _ _ z => by cases z)⟩
end
end CC
end
section
set_option Elab.async false
set_option linter.all false
set_option maxRecDepth 100000
set_option maxHeartbeats 4000000
namespace CC
open PySem PySem.Spec PyProof.Rows L2
open Uw55 (Box)
theorem folds_nil {x : Box} {s : List Nat} (h : s ∉ x.chains) : x.folds s = [] := by
  unfold Uw55.Box.folds
  exact List.filter_eq_nil_iff.mpr fun p hp z => h (mem_chains.mpr ⟨p, hp, eq_of_beq z⟩)
theorem ways_nil {x : Box} {s : List Nat} (h : s ∉ x.chains) : x.ways s = 0 := by
  unfold Uw55.Box.ways
  rw [folds_nil h]
  rfl
def spOf (CF : Addr) : Sp := fun vs H Q _ => ∃ (f c : Addr) (x : Box) (s : List Nat), vs = [.ref f, .ref c] ∧ FoldAt CF H f x ∧ TupAt H c s ∧ ∀ H' l ts, Same H H' → H' l = some (.lst (ts.map V.ref)) → Tups H' ts (x.folds s) → Q (.ref l) H'
def spKinds (CF : Addr) : Sp := fun vs H Q _ => ∃ (f c : Addr) (x : Box) (s : List Nat), vs = [.ref f, .ref c] ∧ FoldAt CF H f x ∧ TupAt H c s ∧ Q (.int (x.ways s : Nat)) H
def spFar (K : PySem.W.Frag) : Sp := fun vs H Q _ => ∃ (a b : Addr) (s t : List Nat), vs = [.ref a, .ref b] ∧ SqT K H a (vi s) ∧ SqT K H b (vi t) ∧ s.length = t.length ∧ s.length ≤ 1000 ∧ ∀ H', Same H H' → Q (.int (Uw55.apart s t : Nat)) H'
def begN (x : Box) (s : List Nat) : List Nat := (List.range x.cells).filter fun k => (x.folds s).any fun p => p.headD 0 == k
def spBegin (CF : Addr) : Sp := fun vs H Q _ => ∃ (f c : Addr) (x : Box) (s : List Nat), vs = [.ref f, .ref c] ∧ FoldAt CF H f x ∧ Good x ∧ TupAt H c s ∧ ∀ H' p, Same H H' → H' p = some (.lst (vi (begN x s))) → Q (.ref p) H'
def spWith (CF : Addr) (K : PySem.W.Frag) : Sp := fun vs H Q _ => ∃ (f c d : Addr) (x : Box) (s p : List Nat), vs = [.ref f, .ref c, .ref d] ∧ FoldAt CF H f x ∧ Good x ∧ TupAt H c s ∧ SqT K H d (vi p) ∧ p.length ≤ 1000 ∧
  ∀ H' l ts, Same H H' → H' l = some (.lst (ts.map V.ref)) → Tups H' ts ((x.folds s).filter fun q => q.take p.length == p) → Q (.ref l) H'
theorem begN_eq {x : Box} (g : Good x) {s : List Nat} {ns : List Int} (h1 : ns.Pairwise (· < ·)) (h2 : ∀ k : Int, k ∈ ns ↔ decide (k ∈ toI ((x.folds s).map fun p => p.headD 0)) = true) : ns.map V.int = vi (begN x s) := by
  have e : ns = (begN x s).map fun k : Nat => (k : Int) := by
    refine rise_ext h1 (range_rise _ _) fun z => ?_
    rw [h2, decide_eq_true_eq]
    unfold toI
    constructor
    · intro h
      obtain ⟨n, hn, rfl⟩ := List.mem_map.mp h
      obtain ⟨p, hp, rfl⟩ := List.mem_map.mp hn
      refine List.mem_map.mpr ⟨_, ?_, rfl⟩
      refine List.mem_filter.mpr ⟨List.mem_range.mpr ?_, List.any_eq_true.mpr ⟨p, hp, by simp⟩⟩
      obtain ⟨hl, hi, _⟩ := (mem_folds (Nat.le_trans (by decide) g.n2)).mp hp
      have n2 := g.n2
      match p, hl with
      | [], hl => simp at hl; omega
      | a :: r, _ => exact hi.lt a (by simp)
    · intro h
      obtain ⟨n, hn, rfl⟩ := List.mem_map.mp h
      obtain ⟨_, hb⟩ := List.mem_filter.mp hn
      obtain ⟨p, hp, e⟩ := List.any_eq_true.mp hb
      exact List.mem_map.mpr ⟨n, List.mem_map.mpr ⟨p, hp, eq_of_beq e⟩, rfl⟩
  rw [e]
  unfold vi
  rw [List.map_map]
  rfl
theorem fm_list {α β : Type} {F : α → Option β} {d : α} : ∀ l : List α, (List.range l.length).filterMap (fun m => F (l.getD m d)) = l.filterMap F := by
  intro l
  have e : (List.range l.length).filterMap (fun m => F (l.getD m d)) = ((List.range l.length).map fun m => l.getD m d).filterMap F := by
    rw [List.filterMap_map]
    rfl
  have e2 : (List.range l.length).map (fun m => l.getD m d) = l := by
    refine List.ext_getElem? fun j => ?_
    rw [List.getElem?_map]
    by_cases h : j < l.length
    · rw [List.getElem?_range h, List.getElem?_eq_getElem h]
      show some (l.getD j d) = _
      rw [List.getD_eq_getElem?_getD, List.getElem?_eq_getElem h]
      rfl
    · rw [List.getElem?_eq_none (by rw [List.length_range]; omega), List.getElem?_eq_none (by omega)]
      rfl
  rw [e, e2]
theorem fm_ifL {α : Type} (q : α → Bool) : ∀ l : List α, l.filterMap (fun j => if q j = true then some j else none) = l.filter q
  | [] => rfl
  | a :: l => by
    rw [List.filterMap_cons, List.filter_cons, fm_ifL q l]
    cases h : q a <;> simp
theorem dpV {K : PySem.W.Frag} {H : Hp} (l : List Nat) : DpAll K H (vi l) ((toI l).map PyData.int) := by
  rw [vi_toI]
  exact dpI _
theorem eqvV (l m : List Nat) : PyData.eqv (.tuple ((toI l).map PyData.int)) (.tuple ((toI m).map PyData.int)) = (l == m) := by
  rw [eqvT]
  by_cases e : l = m
  · subst e; simp
  · have h : (l == m) = false := by simpa using e
    rw [h]
    exact decide_eq_false fun z => e (vi_inj (by rw [vi_toI, vi_toI, z]))
section
variable {P : Program} {w : World} {K : PySem.W.Frag} {mg : Str → Option Value} {base : Heap} {CF : Addr}
theorem scOf : FnScope ["self", "chain"] ["self", "chain"] (C8.fnScope (mF 1)) := C8.fnScope_by (by decide +kernel)
theorem met_of (C : FC K CF) (D : Mtd K CF "of_chain" "Foldings.of_chain" (mF 1) ["self", "chain"]) : C8.Met P w K mg base 1 CF "of_chain" (spOf CF) [] := by
  refine D.met scOf (fun vs H Q E h => ?_) (fun fa cdv A outer s H vs Q E hr h => ?_)
  · obtain ⟨f, c, x, s, rfl, _⟩ := h
    rfl
  · obtain ⟨f, c, x, s, rfl, ⟨dx, dP, lC, dK, kvP, kvK, bs, F⟩, hc, q⟩ := h
    refine ⟨_, pss_one (ps_ret (pe_dget2 (hu_of hr) (pe_fld (pv 0) rfl) (pv 1) (pe_lst pa_nil) ⟨rfl, rfl, rfl, rfl⟩)), ?_⟩
    refine ⟨_, rfl, f, CF, dx, _, _, rfl, F.ob, C.cl, C.nP, fF_paths dP lC dK, dP, rfl, .inr ⟨_, .inl F.dP⟩, _, rfl, Nat.zero_le _, fun l0 n0 => ?_⟩
    have s1 : Same H (upd H l0 (.lst [])) := same_upd n0
    refine ⟨_, DGet.t (k := ki s) (s1 _ _ F.dP) (by rw [kV_ki]; exact s1 _ _ hc), ?_⟩
    by_cases hm : s ∈ x.chains
    · obtain ⟨l, ts, e1, e2, e3⟩ := F.pv s hm
      rw [e1]
      exact q _ l ts s1 (s1 _ _ e2) (e3.same s1)
    · rw [F.pn s hm]
      refine q _ l0 [] s1 upd_same ?_
      rw [folds_nil hm]
      exact .nil
theorem scKi : FnScope ["self", "chain"] ["self", "chain"] (C8.fnScope (mF 2)) := C8.fnScope_by (by decide +kernel)
theorem met_kinds (C : FC K CF) (D : Mtd K CF "many_kinds" "Foldings.many_kinds" (mF 2) ["self", "chain"]) : C8.Met P w K mg base 1 CF "many_kinds" (spKinds CF) [] := by
  refine D.met scKi (fun vs H Q E h => ?_) (fun fa cdv A outer s H vs Q E hr h => ?_)
  · obtain ⟨f, c, x, s, rfl, _⟩ := h
    rfl
  · obtain ⟨f, c, x, s, rfl, ⟨dx, dP, lC, dK, kvP, kvK, bs, F⟩, hc, q⟩ := h
    refine ⟨_, pss_one (ps_ret (pe_dget2 (hu_of hr) (pe_fld (pv 0) rfl) (pv 1) pe_int ⟨rfl, rfl, rfl, rfl⟩)), ?_⟩
    refine ⟨_, rfl, f, CF, dx, _, _, rfl, F.ob, C.cl, C.nK, fF_kinds dP lC dK, dK, rfl, .inr ⟨_, .inl F.dK⟩, _, rfl, ?_⟩
    refine ⟨_, DGet.t (k := ki s) F.dK (by rw [kV_ki]; exact hc), ?_⟩
    by_cases hm : s ∈ x.chains
    · rw [F.kv s hm]
      exact q
    · rw [F.kn s hm]
      rw [ways_nil hm] at q
      exact q
abbrev nFa : List Str := ["one", "other", "k"]
theorem scFa : FnScope nFa ["one", "other"] (C8.fnScope sFar) := C8.fnScope_by (by decide +kernel)
theorem cal_far (T : Blt mg) (D : Dfn K mg "how_far" sFar ["one", "other"]) : C8.Cal P w K mg base 1 "how_far" (spFar K) [] := by
  refine D.cal scFa (fun vs H Q E h => ?_) (fun f cdv A outer s H vs Q E hr h => ?_)
  · obtain ⟨a, b, s, t, rfl, _⟩ := h
    rfl
  · obtain ⟨a, b, s, t, rfl, ha, hb, hl, hl2, q⟩ := h
    refine ⟨_, pss_one (ps_ret (pe_callB call_len_seq (by rfl) T.len PySem.boot_len (pa_cons
      (pe_lc (own := [("k", 2)]) (g := gName 2) (tt := tB (tOp rNe (tOp (rIxT K) (tVar 0) (tVar 2)) (tOp (rIxT K) (tVar 1) (tVar 2)))) (te := tVar 2) rfl scFa.nd (pi_range1 rfl T.range (pa_cons (pe_callB call_len_seq (by rfl) T.len PySem.boot_len (pa_cons (pv 0) pa_nil)) pa_nil))
        (blkOk_by (N := nFa) (sc := C8.fnScope sFar) (by decide +kernel))
        (fun _ _ _ _ _ => pg_name (i := 2) scFa.nd rfl (.inl rfl) (.inr rfl)) (fun _ _ _ _ _ => pts_one (pt_cmpR op_ne (pe_ix ix_tup (pv 0) (pv 2) (fun _ _ => rfl)) (pe_ix ix_tup (pv 1) (pv 2) (fun _ _ => rfl)) (nomark _))) (fun _ _ _ _ _ => pv 2)) pa_nil))), ?_⟩
    refine ⟨_, rfl, a, _, rfl, .inr ha, _, rfl, by rw [vi_len]; omega, by rw [vi_len]; omega, fun D nD => ?_⟩
    show ∃ W : Nat → Nat → Hp → Prop, _
    rw [show (((vi s).length : Int)).toNat = s.length by rw [vi_len]; omega]
    refine lc_gen (walk_range (lo := 0) (n := s.length)) RI (fun k => if decide (s.getD k 0 ≠ t.getD k 0) = true then some (k : Int) else none) nD (Nat.le_trans hl2 (by decide)) (fun _ _ => trivial) RI.st (fun k v H3 H4 ys K1 K0 hk s3 hD y k1 k0 => ?_) (fun H3 ys s3 hD hpd => ?_)
    · obtain ⟨rfl, rfl⟩ := y
      refine ⟨rfl, ?_⟩
      refine ⟨_, rfl, _, rfl, a, _, _, _, rfl, rfl, sm_T s3 ha, at_of (j := k) (by omega) (vi_get hk), _, rfl, _, rfl, b, _, _, _, rfl, rfl, sm_T s3 hb, at_of (j := k) (by omega) (vi_get (by omega)), rfl, _, rfl, ?_⟩
      have e : (!decide (V.int (s.getD k 0 : Nat) = V.int (t.getD k 0 : Nat))) = decide (s.getD k 0 ≠ t.getD k 0) := by
        by_cases c : s.getD k 0 = t.getD k 0
        · rw [c]; simp
        · rw [decide_eq_true c, decide_eq_false (fun z => c (by have := V.int.inj z; omega))]
          rfl
      rw [e]
      refine ite2 (fun e => ⟨_, rfl, k1 _ _ _ (Same.refl _) (fun z => by cases z) (if_pos e) ?_⟩) (fun e => k0 _ (Same.refl _) (if_neg e))
      show V.int _ = V.int _
      rw [Int.zero_add]
    · rw [pairedI hpd, fm_if] at hD
      refine ⟨D, _, rfl, .inl (sqL hD), ?_⟩
      rw [List.length_map, List.length_map, ← apart_eq s t hl]
      exact q _ s3
abbrev nBe : List Str := ["self", "chain", "path"]
theorem scBe : FnScope nBe ["self", "chain"] (C8.fnScope (mF 3)) := C8.fnScope_by (by decide +kernel)
theorem met_begin (T : Blt mg) (C : FC K CF) (D : Mtd K CF "begin_cells" "Foldings.begin_cells" (mF 3) ["self", "chain"]) (MO : C8.Met P w K mg base 1 CF "of_chain" (spOf CF) []) : C8.Met P w K mg base 2 CF "begin_cells" (spBegin CF) [] := by
  refine D.met scBe (fun vs H Q E h => ?_) (fun fa cdv A outer s H vs Q E hr h => ?_)
  · obtain ⟨f, c, x, s, rfl, _⟩ := h
    rfl
  · obtain ⟨f, c, x, s, rfl, F0, g, hc, q⟩ := h
    obtain ⟨dx, dP, lC, dK, kvP, kvK, bs, F⟩ := id F0
    refine ⟨_, pss_one (ps_ret (pe_callB (cr_sortedSet rfl) (by rfl) T.sorted (by decide +kernel) (pa_cons (pe_callTy (cr_setL rfl) (by rfl) T.set (by decide +kernel) (pa_cons
      (pe_lc (own := [("path", 2)]) (g := gName 2) (tt := tYes) (te := tOp (rIxT K) (tVar 2) (tC (.int 0))) rfl scBe.nd (pi_list (C8.pe_mt MO hr (by decide) (pv 0) (pa_cons (pv 1) pa_nil)))
        (blkOk_by (N := nBe) (sc := C8.fnScope (mF 3)) (by decide +kernel))
        (fun _ _ _ _ _ => pg_name (i := 2) scBe.nd rfl (.inl rfl) (.inr rfl)) (fun _ _ _ _ _ => pts_nil) (fun _ _ _ _ _ => pe_ix ix_tup (pv 2) pe_int (fun _ _ => rfl))) pa_nil)) pa_nil))), ?_⟩
    refine ⟨_, rfl, f, dx, _, rfl, F.ob, fF_no dP lC dK (by decide +kernel) (by decide +kernel) (by decide +kernel), _, rfl, f, c, x, s, rfl, F0, hc, fun H1 l ts s1 hl hts => ⟨l, rfl, ⟨_, sqL hl⟩, fun D nD => ?_⟩⟩
    have tl : ts.length = (x.folds s).length := Paired.length hts
    have fl := folds_len g s
    refine lc_gen (walk_list (K := K) (xs := ts.map V.ref)) RI (fun i => some ((((x.folds s).getD i []).headD 0 : Nat) : Int)) nD (by rw [List.length_map, tl]; exact Nat.le_trans fl (by decide)) (fun H s => sqL (s _ _ hl)) RI.st (fun i v H3 H4 ys K1 K0 hi s3 hD y k1 k0 => ?_) (fun H3 ys s3 hD hpd => ?_)
    · obtain ⟨rfl, hv⟩ := y
      rw [List.getElem?_map] at hv
      obtain ⟨t, ht, rfl⟩ := Option.map_eq_some_iff.mp hv
      obtain ⟨p, hp, hTp⟩ := Paired.at hts ht
      have ep : (x.folds s).getD i [] = p := by rw [List.getD_eq_getElem?_getD, hp]; rfl
      rw [ep] at k1
      obtain ⟨lp, _⟩ := (mem_folds (Nat.le_trans (by decide) g.n2)).mp (List.mem_of_getElem? hp)
      have n2 := g.n2
      refine ⟨rfl, _, rfl, t, _, 0, _, rfl, rfl, sqT (s3 _ _ hTp), at_of (j := 0) rfl (vi_get (by omega)), k1 _ _ _ (Same.refl _) (fun z => by cases z) rfl ?_⟩
      show V.int _ = V.int _
      congr 2
      cases p <;> rfl
    · have ez : (List.range (ts.map V.ref).length).filterMap (fun i => some ((((x.folds s).getD i []).headD 0 : Nat) : Int)) = toI ((x.folds s).map fun p => p.headD 0) := by
        rw [List.length_map, tl, fm_list (F := fun p : List Nat => some ((p.headD 0 : Nat) : Int)) (d := []), fm_pure (fun p : List Nat => ((p.headD 0 : Nat) : Int))]
        unfold toI
        rw [List.map_map]
        rfl
      rw [pairedI hpd, ez] at hD
      have hz : ∀ z ∈ toI ((x.folds s).map fun p => p.headD 0), 0 ≤ z ∧ z < (x.cells : Int) := fun z hz => by
        unfold toI at hz
        obtain ⟨n, hn, rfl⟩ := List.mem_map.mp hz
        obtain ⟨p, hp, rfl⟩ := List.mem_map.mp hn
        obtain ⟨hl, hi, _⟩ := (mem_folds (Nat.le_trans (by decide) g.n2)).mp hp
        have n2 := g.n2
        match p, hl with
        | [], hl => simp at hl; omega
        | a :: r, _ =>
          have := hi.lt a (by simp)
          show (0 : Int) ≤ (a : Nat) ∧ ((a : Nat) : Int) < _
          omega
      refine ⟨D, _, x.cells, rfl, sqL hD, by unfold toI; rw [List.length_map, List.length_map]; omega, hz, fun a n na hn => ?_⟩
      have n12 := g.n12
      refine ⟨a, _, n, rfl, upd_same, by omega, fun ns p h1 h2 _ np => ?_⟩
      refine q _ p ((s1.trans s3).trans ((same_upd na).trans (same_upd np))) ?_
      rw [upd_same, begN_eq g h1 h2]
abbrev nWi : List Str := ["self", "chain", "cells", "path"]
theorem scWi : FnScope nWi ["self", "chain", "cells"] (C8.fnScope (mF 4)) := C8.fnScope_by (by decide +kernel)
theorem met_with (T : Blt mg) (C : FC K CF) (D : Mtd K CF "with_beginning" "Foldings.with_beginning" (mF 4) ["self", "chain", "cells"]) (MO : C8.Met P w K mg base 1 CF "of_chain" (spOf CF) []) : C8.Met P w K mg base 2 CF "with_beginning" (spWith CF K) [] := by
  refine D.met scWi (fun vs H Q E h => ?_) (fun fa cdv A outer s H vs Q E hr h => ?_)
  · obtain ⟨f, c, d, x, s, p, rfl, _⟩ := h
    rfl
  · obtain ⟨f, c, d, x, s, p, rfl, F0, g, hc, hd, hpl, q⟩ := h
    obtain ⟨dx, dP, lC, dK, kvP, kvK, bs, F⟩ := id F0
    refine ⟨_, pss_one (ps_ret (pe_lc (own := [("path", 3)]) (g := gName 3) (tt := tB (tOp (rEqD K) (tSl (rSlA K) (tVar 3) tNoPart (tPart (tCB (fun xs H Q => ∃ p ys, xs = [.ref p] ∧ (SqL K H p ys ∨ SqT K H p ys) ∧ Q (.int ys.length) H) (tCons (tVar 2) tNil)))) (tVar 2))) (te := tVar 3) rfl scWi.nd (pi_list (C8.pe_mt MO hr (by decide) (pv 0) (pa_cons (pv 1) pa_nil)))
        (blkOk_by (N := nWi) (sc := C8.fnScope (mF 4)) (by decide +kernel))
        (fun _ _ _ _ _ => pg_name (i := 3) scWi.nd rfl (.inl rfl) (.inr rfl)) (fun _ _ _ _ _ => pts_one (pt_cmpR (op_eqD hr.units) (pe_slice sl_tupA (pv 3) po_none (po_some (pe_callB call_len_seq (by rfl) T.len PySem.boot_len (pa_cons (pv 2) pa_nil)))) (pv 2) (nomark _))) (fun _ _ _ _ _ => pv 3))), ?_⟩
    refine ⟨_, rfl, f, dx, _, rfl, F.ob, fF_no dP lC dK (by decide +kernel) (by decide +kernel) (by decide +kernel), _, rfl, f, c, x, s, rfl, F0, hc, fun H1 l ts s1 hl hts => ⟨l, rfl, ⟨_, sqL hl⟩, fun D nD => ?_⟩⟩
    have tl : ts.length = (x.folds s).length := Paired.length hts
    have fl := folds_len g s
    refine lc_gen (walk_list (K := K) (xs := ts.map V.ref)) RT (fun i => if (((x.folds s).getD i []).take p.length == p) = true then some ((x.folds s).getD i []) else none) nD (by rw [List.length_map, tl]; exact Nat.le_trans fl (by decide)) (fun H s => sqL (s _ _ hl)) RT.st (fun i v H3 H4 ys K1 K0 hi s3 hD y k1 k0 => ?_) (fun H3 ys s3 hD hpd => ?_)
    · obtain ⟨rfl, hv⟩ := y
      rw [List.getElem?_map] at hv
      obtain ⟨t, ht, rfl⟩ := Option.map_eq_some_iff.mp hv
      obtain ⟨o, ho, hTo⟩ := Paired.at hts ht
      have eo : (x.folds s).getD i [] = o := by rw [List.getD_eq_getElem?_getD, ho]; rfl
      rw [eo] at k1 k0
      have h4t := s3 _ _ hTo
      have hd4 := sm_T (s1.trans s3) hd
      refine ⟨rfl, _, rfl, _, rfl, d, _, rfl, .inr hd4, _, rfl, t, _, rfl, sqT h4t, fun hw => ?_, fun _ r nr => ?_⟩
      · refine ⟨_, rfl, _, _, .tup (sqT h4t) (dpV o), .tup hd4 (dpV p), shT _, shT _, _, rfl, ?_⟩
        have hlen : o.length ≤ p.length := by
          have := hw.2
          rw [HT.sIx_nat, vi_len, vi_len] at this
          omega
        rw [eqvV, ← List.take_of_length_le hlen]
        refine ite2 (fun e => ⟨_, rfl, k1 _ _ _ (Same.refl _) (fun z => tup_ne h4t hD (V.ref.inj z)) (if_pos ?_) ⟨t, rfl, h4t⟩⟩) (fun e => k0 _ (Same.refl _) (if_neg ?_))
        · rw [List.take_of_length_le hlen] at e ⊢; exact e
        · rw [List.take_of_length_le hlen] at e ⊢; exact e
      · have s5 : Same H4 (upd H4 r (.tup (cutV (vi o) none (some ((vi p).length : Int))))) := same_upd nr
        have hr5 : (upd H4 r (.tup (cutV (vi o) none (some ((vi p).length : Int))))) r = some (.tup (vi (o.take p.length))) := by rw [upd_same, cut_take, vi_len, vi_take]
        refine ⟨_, rfl, _, _, .tup (sqT hr5) (dpV _), .tup (sm_T s5 hd4) (dpV p), shT _, shT _, _, rfl, ?_⟩
        rw [eqvV]
        exact ite2 (fun e => ⟨_, rfl, k1 _ _ _ s5 (fun z => tup_ne h4t hD (V.ref.inj z)) (if_pos e) ⟨t, rfl, s5 _ _ h4t⟩⟩) (fun e => k0 _ s5 (if_neg e))
    · have ez : (List.range (ts.map V.ref).length).filterMap (fun i => if (((x.folds s).getD i []).take p.length == p) = true then some ((x.folds s).getD i []) else none) = (x.folds s).filter fun q => q.take p.length == p := by
        rw [List.length_map, tl, fm_list (F := fun q : List Nat => if (q.take p.length == p) = true then some q else none) (d := []), fm_ifL fun q : List Nat => q.take p.length == p]
      rw [ez] at hpd
      obtain ⟨us, rfl, hus⟩ := pairedT hpd
      exact q _ D us (s1.trans s3) hD hus
end
end CC
end
section
set_option autoImplicit false
set_option Elab.async false
set_option maxRecDepth 100000
namespace CC
open Uw55
theorem some_all : each4 (fun x => !x.all.isEmpty) = true := by decide +kernel
theorem all_ne {x : Box} (g : Good x) : x.all ≠ [] := fun z => by
  have h := each4_of some_all x g
  rw [z] at h
  cases h
theorem chains_ne {x : Box} (g : Good x) : x.chains ≠ [] := fun z => by
  obtain ⟨p, hp⟩ := List.exists_mem_of_ne_nil _ (all_ne g)
  have : x.chain p ∈ x.chains := mem_chains.mpr ⟨p, hp, rfl⟩
  rw [z] at this
  cases this
theorem sum_parts {α : Type} (f : α → List Nat) : ∀ (l : List α) (ks : List (List Nat)), ks.Nodup → (∀ a ∈ l, f a ∈ ks) → (ks.map fun k => (l.filter fun a => f a == k).length).sum = l.length
  | [], ks, _, _ => by
    induction ks with
    | nil => rfl
    | cons k ks ih =>
      have ih := ih (by simp_all) (fun b hb => by cases hb)
      rw [List.map_cons, List.sum_cons, ih]
      rfl
  | a :: l, ks, nd, h => by
    have ih := sum_parts f l ks nd fun b hb => h b (List.mem_cons_of_mem _ hb)
    have ha := h a (List.mem_cons_self ..)
    have key : ∀ ks : List (List Nat), ks.Nodup → (ks.map fun k => ((a :: l).filter fun a => f a == k).length).sum = (ks.map fun k => (l.filter fun a => f a == k).length).sum + (if f a ∈ ks then 1 else 0) := by
      intro ks nd
      induction ks with
      | nil => simp
      | cons k ks ih =>
        obtain ⟨n1, n2⟩ := List.nodup_cons.mp nd
        rw [List.map_cons, List.map_cons, List.sum_cons, List.sum_cons, ih n2, List.filter_cons]
        by_cases e : f a = k
        · have h1 : (f a == k) = true := by simpa using e
          have h2 : ¬ f a ∈ ks := by rw [e]; exact n1
          rw [h1, if_pos rfl, if_neg h2, if_pos (by rw [e]; exact List.mem_cons_self ..), List.length_cons]
          omega
        · have h1 : (f a == k) = false := by simpa using e
          rw [h1]
          by_cases h2 : f a ∈ ks
          · rw [if_neg (by decide), if_pos h2, if_pos (List.mem_cons_of_mem _ h2)]
            omega
          · rw [if_neg (by decide), if_neg h2, if_neg (by simp [e, h2])]
            omega
    rw [key ks nd, ih, if_pos ha, List.length_cons]
theorem chains_nodup (x : Box) : x.chains.Nodup := (chains_sorted x).imp fun h => less_ne h
theorem paths_sum (x : Box) : (x.chains.map fun s => (x.folds s).length).sum = x.all.length := by
  have h := sum_parts x.chain x.all x.chains (chains_nodup x) fun p hp => mem_chains.mpr ⟨p, hp, rfl⟩
  exact h
theorem chains_len_le {x : Box} (g : Good x) : x.chains.length ≤ 3000 := by
  refine Nat.le_trans (sub_len (m := x.all.map x.chain) (chains_nodup x) fun s hs => ?_) (by rw [List.length_map]; exact all_len g)
  obtain ⟨p, hp, e⟩ := mem_chains.mp hs
  exact List.mem_map.mpr ⟨p, hp, e⟩
/-- the answer of turns -/
def toldN (x : Box) : List Nat := match x.chains.map Uw55.turns with
  | [] => []
  | t :: r => [r.foldl Nat.min t, ((t :: r).filter fun n => n == r.foldl Nat.min t).length, r.foldl Nat.max t, ((t :: r).filter fun n => n == r.foldl Nat.max t).length]
theorem told_is {x : Box} {lo hi : Nat} (h1 : lo ∈ x.chains.map Uw55.turns) (h2 : ∀ y ∈ x.chains.map Uw55.turns, lo ≤ y) (h3 : hi ∈ x.chains.map Uw55.turns) (h4 : ∀ y ∈ x.chains.map Uw55.turns, y ≤ hi) :
    toldN x = [lo, ((x.chains.map Uw55.turns).filter fun n => n == lo).length, hi, ((x.chains.map Uw55.turns).filter fun n => n == hi).length] := by
  unfold toldN
  cases e : x.chains.map Uw55.turns with
  | nil => rw [e] at h1; cases h1
  | cons t r =>
    rw [e] at h1 h2 h3 h4
    show [r.foldl Nat.min t, _, r.foldl Nat.max t, _] = _
    rw [min_is h1 h2, max_is h3 h4]
end CC
end
section
set_option Elab.async false
set_option linter.all false
set_option maxRecDepth 100000
set_option maxHeartbeats 4000000
namespace CC
open PySem PySem.Spec PyProof.Rows L2
open Uw55 (Box)
/-! ### the least of a list of pairs (a number, a row) -/
abbrev Pr := Nat × List Nat
def consP (c : Pr) : List Nat := c.1 :: c.2
def encC (c : Pr) : PyData := .tuple [.int (c.1 : Int), encT c.2]
theorem encC_inj {c d : Pr} (h : encC c = encC d) : c = d := by
  have h := List.cons.inj (PyData.tuple.inj h)
  have h2 := (List.cons.inj h.2).1
  have h1 := PyData.int.inj h.1
  exact Prod.ext (by omega) (encT_inj h2)
theorem eqv_encT (s t : List Nat) : PyData.eqv (encT s) (encT t) = (s == t) := by
  have := eqvV s t
  unfold toI at this
  rw [List.map_map, List.map_map] at this
  exact this
theorem dataLt_encC (c d : Pr) : PySem.W.dataLt (encC c) (encC d) = Uw55.less (consP c) (consP d) := by
  have ha : PySem.W.alike (.int (c.1 : Int)) (.int (d.1 : Int)) = true := by simp only [PySem.W.alike]
  unfold encC
  rw [PySem.W.dataLt_tuple]
  show _ = (decide (c.1 < d.1) || (c.1 == d.1 && Uw55.less c.2 d.2))
  by_cases h : c.1 = d.1
  · rw [PySem.W.dataLt_all_yes ha (by rw [h]; simp [PyData.eqv])]
    have e : (c.1 == d.1) = true := by simpa using h
    rw [e, Bool.true_and, decide_eq_false (by omega), Bool.false_or]
    by_cases h2 : c.2 = d.2
    · rw [PySem.W.dataLt_all_yes (alike_encT _ _) (by rw [eqv_encT, h2]; simp), h2, less_irrefl]
      exact PyProof.Rows.lex_irrefl _
    · rw [PySem.W.dataLt_all_no (alike_encT _ _) (by rw [eqv_encT]; simpa using h2), dataLt_encT]
  · rw [PySem.W.dataLt_all_no ha (by simp [PyData.eqv]; omega), PySem.W.dataLt_int]
    have e : (c.1 == d.1) = false := by simpa using h
    rw [e, Bool.false_and, Bool.or_false]
    exact decide_eq_decide.mpr (by omega)
def minP (z : Pr) (zs : List Pr) : Pr := zs.foldl (fun a y => if Uw55.less (consP y) (consP a) = true then y else a) z
theorem minD_encC : ∀ (zs : List Pr) (z : Pr), PySem.W.minD (encC z) (zs.map encC) = encC (minP z zs)
  | [], z => rfl
  | y :: zs, z => by
    unfold PySem.W.minD minP
    rw [List.map_cons, List.foldl_cons, List.foldl_cons]
    have ih := minD_encC zs (if Uw55.less (consP y) (consP z) = true then y else z)
    unfold PySem.W.minD minP at ih
    rw [← ih]
    congr 1
    rw [dataLt_encC]
    split <;> rfl
theorem minP_cons : ∀ (zs : List Pr) (z : Pr), consP (minP z zs) = minL (consP z) (zs.map consP)
  | [], z => rfl
  | y :: zs, z => by
    unfold minP minL
    rw [List.map_cons, List.foldl_cons, List.foldl_cons]
    have ih := minP_cons zs (if Uw55.less (consP y) (consP z) = true then y else z)
    unfold minP minL at ih
    rw [ih]
    congr 1
    split <;> rfl
theorem consP_inj {c d : Pr} (h : consP c = consP d) : c = d := by
  obtain ⟨h1, h2⟩ := List.cons.inj h
  exact Prod.ext h1 h2
theorem minP_least (z : Pr) (zs : List Pr) : minP z zs ∈ z :: zs ∧ ∀ y ∈ z :: zs, Uw55.less (consP y) (consP (minP z zs)) = false := by
  obtain ⟨f1, f2, f3⟩ := min_fold (zs.map consP) (consP z)
  have e : (zs.map consP).foldl (fun a y => if Uw55.less y a = true then y else a) (consP z) = consP (minP z zs) := (minP_cons zs z).symm
  rw [e] at f1 f2 f3
  refine ⟨?_, fun y hy => ?_⟩
  · rcases f1 with h | h
    · rw [consP_inj h]; exact List.mem_cons_self ..
    · obtain ⟨y, hy, h⟩ := List.mem_map.mp h
      rw [← consP_inj h]
      exact List.mem_cons_of_mem _ hy
  · rcases List.mem_cons.mp hy with h | h
    · rw [h]; exact f2
    · exact f3 _ (List.mem_map.mpr ⟨y, h, rfl⟩)
def RP : Hp → V → Pr → Prop := fun H y z => ∃ t c, y = .ref t ∧ H t = some (.tup [.int (z.1 : Int), .ref c]) ∧ TupAt H c z.2
theorem RP.st {D : Addr} : ∀ (H H' : Hp) (y : V) (z : Pr) (ys : List V), H D = some (.lst ys) → But D H H' → y ≠ .ref D → RP H y z → RP H' y z := fun _ _ _ _ _ hD b _ ⟨t, c, e, h1, h2⟩ => ⟨t, c, e, b t _ (tup_ne h1 hD) h1, b c _ (tup_ne h2 hD) h2⟩
theorem RP.same {H H' : Hp} {ys : List V} {zs : List Pr} (h : Paired (RP H) ys zs) (s : Same H H') : Paired (RP H') ys zs := Paired.mapP h fun _ _ ⟨t, c, e, h1, h2⟩ => ⟨t, c, e, s _ _ h1, s _ _ h2⟩
theorem dpC {K : PySem.W.Frag} {H : Hp} : ∀ {ys : List V} {zs : List Pr}, Paired (RP H) ys zs → DpAll K H ys (zs.map encC)
  | _, _, .nil => .nil
  | _, _, .cons (b := z) ⟨t, c, e, h1, h2⟩ r => by
    subst e
    refine .cons (.tup (sqT h1) (.cons (.int _) (.cons (.tup (sqT h2) ?_) .nil))) (dpC r)
    have := dpV (K := K) (H := H) z.2
    unfold toI at this
    rw [List.map_map] at this
    exact this
theorem depth_encCs : ∀ zs : List Pr, PyData.depthAll (zs.map encC) ≤ 4
  | [] => by rw [List.map_nil, PyData.depthAll]; omega
  | z :: zs => by
    have ih := depth_encCs zs
    have h := depth_encT z.2
    have e : (encC z).depth ≤ 4 := by
      unfold encC
      rw [PyData.depth, PyData.depthAll, PyData.depthAll, PyData.depthAll, PyData.depth]
      omega
    rw [List.map_cons, PyData.depthAll]
    omega
theorem alike_encCs (zs : List Pr) : PySem.W.AlikeAll (zs.map encC) := by
  refine ⟨fun a ha b hb => ?_, fun a ha => ?_⟩
  · obtain ⟨s, _, rfl⟩ := List.mem_map.mp ha
    obtain ⟨t, _, rfl⟩ := List.mem_map.mp hb
    unfold encC
    simp only [PySem.W.alike, PySem.W.alikeAll, alike_encT, Bool.and_self]
  · obtain ⟨s, _, rfl⟩ := List.mem_map.mp ha
    unfold encC
    exact fun z => by cases z
def spNear (CF : Addr) : Sp := fun vs H Q _ => ∃ (f c : Addr) (x : Box) (s : List Nat), vs = [.ref f, .ref c] ∧ FoldAt CF H f x ∧ Good x ∧ TupAt H c s ∧ s.length = x.cells - 2 ∧
  ∀ H' r b n, Same H H' → x.nearest s = some n → H' r = some (.tup [.int (n.changes : Nat), .int (n.many : Nat), .ref b]) → TupAt H' b n.chain → Q (.ref r) H'
section
variable {P : Program} {w : World} {K : PySem.W.Frag} {mg : Str → Option Value} {base : Heap} {CF : Addr}
abbrev nNe : List Str := ["self", "chain", "found", "least", "first", "other", "far"]
theorem scNe : FnScope nNe ["self", "chain"] (C8.fnScope (mF 5)) := C8.fnScope_by (by decide +kernel)
theorem met_near (T : Blt mg) (C : FC K CF) (D : Mtd K CF "nearest" "Foldings.nearest" (mF 5) ["self", "chain"]) (GF : C8.Cal P w K mg base 1 "how_far" (spFar K) []) : C8.Met P w K mg base 2 CF "nearest" (spNear CF) [] := by
  refine D.met scNe (fun vs H Q E h => ?_) (fun fa cdv A outer s H vs Q E hr h => ?_)
  · obtain ⟨f, c, x, s, rfl, _⟩ := h
    rfl
  · obtain ⟨f, c, x, s, rfl, F0, g, hc, hsl, q⟩ := h
    obtain ⟨dx, dP, lC, dK, kvP, kvK, bs, F⟩ := id F0
    refine ⟨_, pss_cons (ps_setLc (i := 2) (own := [("other", 5)]) (g := gName 5) (tt := tYes) (te := tTup (tCons (tCall (spFar K) [] C8.E0 (tCons (tVar 1) (tCons (tVar 5) tNil))) (tCons (tVar 5) tNil))) rfl scNe.nd rfl rfl (sw_true rfl rfl rfl (by decide +kernel)) (pi_list (pe_fld (pv 0) rfl))
        (blkOk_by (N := nNe) (sc := C8.fnScope (mF 5)) (by decide +kernel))
        (fun _ _ _ _ _ => pg_name (i := 5) scNe.nd rfl (.inl rfl) (.inr rfl)) (fun _ _ _ _ _ => pts_nil)
        (fun _ _ _ _ _ => pe_tup (pa_cons (C8.pe_c GF hr (by decide) (by rfl) (pa_cons (pv 1) (pa_cons (pv 5) pa_nil))) (pa_cons (pv 5) pa_nil))))
      (pss_cons (ps_asg (pe_callB (cr_minD rfl hr.units) (by rfl) T.min (by decide +kernel) (pa_cons (pv 2) pa_nil)) (pg_tup rfl (pgs_cons (pg_name (i := 3) scNe.nd rfl (.inr rfl)) (pgs_cons (pg_name (i := 4) scNe.nd rfl (.inl rfl)) pgs_nil))))
      (pss_one (ps_ret (pe_tup (pa_cons (pv 3) (pa_cons (pe_callB call_len_seq (by rfl) T.len PySem.boot_len (pa_cons
        (pe_lc (own := [("far", 6), ("other", 5)]) (g := gTup K 2 (gCons (gName 6) (gCons (gName 5) gNil))) (tt := tB (tOp rEq (tVar 6) (tVar 3))) (te := tVar 6) rfl scNe.nd (pi_list (pv 2))
          (blkOk_by (N := nNe) (sc := C8.fnScope (mF 5)) (by decide +kernel))
          (fun _ _ _ _ _ => pg_tup rfl (pgs_cons (pg_name (i := 6) scNe.nd rfl (.inl rfl) (.inr rfl)) (pgs_cons (pg_name (i := 5) scNe.nd rfl (.inl rfl) (.inr rfl)) pgs_nil)))
          (fun _ _ _ _ _ => pts_one (pt_cmpR op_eq (pv 6) (pv 3) (nomark _))) (fun _ _ _ _ _ => pv 6)) pa_nil)) (pa_cons (pv 4) pa_nil))))))), ?_⟩
    have bl : bs.length = x.chains.length := Paired.length F.ch
    have n12 := g.n12
    have cl3 := chains_len_le g
    refine ⟨_, rfl, f, CF, dx, _, _, rfl, F.ob, C.cl, C.nC, fF_chains dP lC dK, lC, rfl, ⟨_, sqL F.lC⟩, fun D nD => ?_⟩
    refine lc_gen (walk_list (K := K) (xs := bs.map V.ref)) RP (fun i => some (Uw55.apart s (x.chains.getD i []), x.chains.getD i [])) nD (by rw [List.length_map, bl]; exact Nat.le_trans cl3 (by decide)) (fun H s => sqL (s _ _ F.lC)) RP.st (fun i v H3 H4 ys K1 K0 hi s3 hD y k1 k0 => ?_) (fun H3 ys s3 hD hpd => ?_)
    · obtain ⟨rfl, hv⟩ := y
      rw [List.getElem?_map] at hv
      obtain ⟨b, hb, rfl⟩ := Option.map_eq_some_iff.mp hv
      obtain ⟨u, hu, hTu⟩ := Paired.at F.ch hb
      have eu : x.chains.getD i [] = u := by rw [List.getD_eq_getElem?_getD, hu]; rfl
      rw [eu] at k1
      have ul := chains_len g (List.mem_of_getElem? hu)
      refine ⟨rfl, ?_⟩
      refine ⟨_, rfl, _, rfl, c, b, s, u, rfl, sqT (s3 _ _ hc), sqT (s3 _ _ hTu), by omega, by omega, fun H5 s5 => ?_⟩
      refine ⟨_, rfl, (by show 2 ≤ sizeLine; decide), fun t nt => k1 _ _ _ (s5.trans (same_upd nt)) (fun z => ne_of_none (s5 _ _ hD) nt (V.ref.inj z).symm) rfl ⟨t, b, rfl, upd_same, ?_⟩⟩
      exact (same_upd nt) _ _ (s5 _ _ (s3 _ _ hTu))
    · have ez : (List.range (bs.map V.ref).length).filterMap (fun i => some (Uw55.apart s (x.chains.getD i []), x.chains.getD i [])) = x.chains.map fun u => (Uw55.apart s u, u) := by
        rw [List.length_map, bl, fm_list (F := fun u : List Nat => some (Uw55.apart s u, u)) (d := []), fm_pure (fun u : List Nat => (Uw55.apart s u, u))]
      rw [ez] at hpd
      obtain ⟨u0, ur, eu⟩ : ∃ u0 ur, x.chains = u0 :: ur := by
        cases e : x.chains with
        | nil => exact absurd e (chains_ne g)
        | cons a b => exact ⟨a, b, rfl⟩
      have edp := dpC (K := K) hpd
      rw [eu, List.map_cons, List.map_cons] at edp
      have hal := alike_encCs (x.chains.map fun u => (Uw55.apart s u, u))
      have hdp := depth_encCs (x.chains.map fun u => (Uw55.apart s u, u))
      rw [eu, List.map_cons, List.map_cons] at hal hdp
      refine ⟨_, rfl, D, ys, _, _, rfl, sqL hD, edp, hal, Nat.le_trans hdp (by decide), fun i v hv hm => ?_⟩
      obtain ⟨z, hz, t, b, rfl, ht, hb⟩ := Paired.at hpd hv
      have e1 : (encC (Uw55.apart s u0, u0) :: (ur.map fun u => (Uw55.apart s u, u)).map encC).getD i .none = encC z := by
        have : ((x.chains.map fun u => (Uw55.apart s u, u)).map encC).getD i .none = encC z := by rw [List.getD_eq_getElem?_getD, List.getElem?_map, hz]; rfl
        rw [eu] at this
        exact this
      rw [e1, minD_encC] at hm
      have em := encC_inj hm
      obtain ⟨_, hleast⟩ := minP_least (Uw55.apart s u0, u0) (ur.map fun u => (Uw55.apart s u, u))
      rw [← em] at hleast
      rw [List.getElem?_map] at hz
      obtain ⟨v0, hv0, rfl⟩ := Option.map_eq_some_iff.mp hz
      have hv0m : v0 ∈ x.chains := List.mem_of_getElem? hv0
      have least : ∀ u ∈ x.chains, Uw55.less (consP (Uw55.apart s u, u)) (consP (Uw55.apart s v0, v0)) = false := fun u hu => by
        refine hleast _ ?_
        rw [eu] at hu
        show (Uw55.apart s u, u) ∈ List.map (fun u => (Uw55.apart s u, u)) (u0 :: ur)
        exact List.mem_map.mpr ⟨u, hu, rfl⟩
      obtain ⟨n, hn, IN⟩ := near_spec x s (chains_ne g)
      have l1 : ∀ u ∈ x.chains, Uw55.apart s v0 ≤ Uw55.apart s u := fun u hu => by
        have := least u hu
        rcases Nat.lt_or_ge (Uw55.apart s u) (Uw55.apart s v0) with h | h
        · have q : Uw55.less (Uw55.apart s u :: u) (Uw55.apart s v0 :: v0) = true := less_cons.mpr (.inl h)
          have this : Uw55.less (Uw55.apart s u :: u) (Uw55.apart s v0 :: v0) = false := this
          rw [q] at this
          cases this
        · exact h
      have l2 : ∀ u ∈ x.chains, Uw55.apart s u = Uw55.apart s v0 → Uw55.less u v0 = false := fun u hu e => by
        cases h : Uw55.less u v0 with
        | false => rfl
        | true =>
          have q : Uw55.less (Uw55.apart s u :: u) (Uw55.apart s v0 :: v0) = true := less_cons.mpr (.inr ⟨e, h⟩)
          have this : Uw55.less (Uw55.apart s u :: u) (Uw55.apart s v0 :: v0) = false := least u hu
          rw [q] at this
          cases this
      obtain ⟨en1, en2⟩ := near_is IN hv0m l1 l2
      refine ⟨t, _, rfl, sqT ht, rfl, _, _, rfl, _, _, rfl, rfl, ?_⟩
      refine ⟨_, rfl, _, rfl, D, rfl, ⟨_, sqL hD⟩, fun D2 nD2 => ?_⟩
      have yl : ys.length = x.chains.length := by rw [Paired.length hpd, List.length_map]
      refine lc_gen (walk_list (K := K) (xs := ys)) RI (fun j => if (Uw55.apart s (x.chains.getD j []) == Uw55.apart s v0) = true then some ((Uw55.apart s (x.chains.getD j []) : Nat) : Int) else none) nD2 (by rw [yl]; exact Nat.le_trans cl3 (by decide)) (fun H s => sqL (s _ _ hD)) RI.st (fun j v H5 H6 ys' K1 K0 hj s5 hD2 y k1 k0 => ?_) (fun H5 ys' s5 hD2 hpd2 => ?_)
      · obtain ⟨rfl, hv⟩ := y
        obtain ⟨z, hz, t2, b2, rfl, ht2, hb2⟩ := Paired.at hpd hv
        rw [List.getElem?_map] at hz
        obtain ⟨u, hu, rfl⟩ := Option.map_eq_some_iff.mp hz
        have eu2 : x.chains.getD j [] = u := by rw [List.getD_eq_getElem?_getD, hu]; rfl
        rw [eu2] at k1 k0
        refine ⟨t2, _, rfl, sqT (s5 _ _ ht2), rfl, _, _, rfl, _, _, rfl, rfl, rfl, ?_⟩
        refine ⟨_, rfl, _, rfl, rfl, _, rfl, ?_⟩
        have e : decide (V.int ((Uw55.apart s u : Nat) : Int) = V.int ((Uw55.apart s v0 : Nat) : Int)) = (Uw55.apart s u == Uw55.apart s v0) := by
          by_cases c : Uw55.apart s u = Uw55.apart s v0
          · rw [c]; simp
          · rw [beq_eq_false_iff_ne.mpr c]
            exact decide_eq_false fun z => c (by have := V.int.inj z; omega)
        rw [e]
        exact ite2 (fun e => ⟨_, rfl, k1 _ _ _ (Same.refl _) (fun z => by cases z) (if_pos e) rfl⟩) (fun e => k0 _ (Same.refl _) (if_neg e))
      · have ez2 : (List.range ys.length).filterMap (fun j => if (Uw55.apart s (x.chains.getD j []) == Uw55.apart s v0) = true then some ((Uw55.apart s (x.chains.getD j []) : Nat) : Int) else none) = (x.chains.filter fun u => Uw55.apart s u == Uw55.apart s v0).map fun u => ((Uw55.apart s u : Nat) : Int) := by
          rw [yl, fm_list (F := fun u : List Nat => if (Uw55.apart s u == Uw55.apart s v0) = true then some ((Uw55.apart s u : Nat) : Int) else none) (d := [])]
          generalize x.chains = l
          induction l with
          | nil => rfl
          | cons a l ih =>
            rw [List.filterMap_cons, List.filter_cons, ih]
            cases h : (Uw55.apart s a == Uw55.apart s v0) <;> simp
        rw [pairedI hpd2, ez2] at hD2
        refine ⟨D2, _, rfl, .inl (sqL hD2), _, rfl, (by show 3 ≤ sizeLine; decide), fun r nr => ?_⟩
        refine q _ r b n ((s3.trans s5).trans (same_upd nr)) hn ?_ ?_
        · rw [upd_same, en1, IN.many, en1, List.length_map, List.length_map]
        · rw [en2]
          exact (same_upd nr) _ _ (s5 _ _ hb)
end
end CC
end
section
set_option Elab.async false
set_option linter.all false
set_option maxRecDepth 100000
set_option maxHeartbeats 4000000
namespace CC
open PySem PySem.Spec PyProof.Rows L2
open Uw55 (Box)
def spFold (CF : Addr) (R : Box → Hp → VK → Hp → Prop) : Sp := fun vs H Q _ => ∃ (f : Addr) (x : Box), vs = [.ref f] ∧ FoldAt CF H f x ∧ Good x ∧ ∀ H', Same H H' → R x H Q H'
def spMP (CF : Addr) : Sp := spFold CF fun x _ Q H' => Q (.int (x.all.length : Nat)) H'
def spMS (CF : Addr) : Sp := spFold CF fun x _ Q H' => Q (.int ((x.chains.filter fun s => x.ways s == 1).length : Nat)) H'
def spTold (CF : Addr) : Sp := spFold CF fun x H Q H' => ∀ r, H r = none → H' r = some (.lst (vi (toldN x))) → Q (.ref r) H'
theorem none_same {H H' : Hp} (s : Same H H') {r : Addr} (h : H' r = none) : H r = none := by
  cases e : H r with
  | none => rfl
  | some u => rw [s _ _ e] at h; cases h
def rLen (K : PySem.W.Frag) : List V → Hp → VK → Prop := fun xs H Q => ∃ p ys, xs = [.ref p] ∧ (SqL K H p ys ∨ SqT K H p ys) ∧ Q (.int ys.length) H
section
variable {P : Program} {w : World} {K : PySem.W.Frag} {mg : Str → Option Value} {base : Heap} {CF : Addr}
abbrev nMp : List Str := ["self", "chain"]
theorem scMp : FnScope nMp ["self"] (C8.fnScope (mF 6)) := C8.fnScope_by (by decide +kernel)
theorem met_mp (T : Blt mg) (C : FC K CF) (D : Mtd K CF "many_paths" "Foldings.many_paths" (mF 6) ["self"]) : C8.Met P w K mg base 1 CF "many_paths" (spMP CF) [] := by
  refine D.met scMp (fun vs H Q E h => ?_) (fun fa cdv A outer s H vs Q E hr h => ?_)
  · obtain ⟨f, x, rfl, _⟩ := h
    rfl
  · obtain ⟨f, x, rfl, F0, g, q⟩ := h
    obtain ⟨dx, dP, lC, dK, kvP, kvK, bs, F⟩ := id F0
    refine ⟨_, pss_one (ps_ret (pe_callB (cr_sum rfl) (by rfl) T.sum (by decide +kernel) (pa_cons
      (pe_lc (own := [("chain", 1)]) (g := gName 1) (tt := tYes) (te := tCB (rLen K) (tCons (tDGet (tFld K (tVar 0) "paths") (tVar 1)) tNil)) rfl scMp.nd (pi_list (pe_fld (pv 0) rfl))
        (blkOk_by (N := nMp) (sc := C8.fnScope (mF 6)) (by decide +kernel))
        (fun _ _ _ _ _ => pg_name (i := 1) scMp.nd rfl (.inl rfl) (.inr rfl)) (fun _ _ _ _ _ => pts_nil)
        (fun _ _ _ _ _ => pe_callB call_len_seq (by rfl) T.len PySem.boot_len (pa_cons (pe_dget (hu_of hr) (pe_fld (pv 0) rfl) (pv 1) (fun _ _ => rfl)) pa_nil))) pa_nil))), ?_⟩
    have bl : bs.length = x.chains.length := Paired.length F.ch
    have cl3 := chains_len_le g
    refine ⟨_, rfl, f, CF, dx, _, _, rfl, F.ob, C.cl, C.nC, fF_chains dP lC dK, lC, rfl, ⟨_, sqL F.lC⟩, fun D nD => ?_⟩
    refine lc_gen (walk_list (K := K) (xs := bs.map V.ref)) RI (fun i => some (((x.folds (x.chains.getD i [])).length : Nat) : Int)) nD (by rw [List.length_map, bl]; exact Nat.le_trans cl3 (by decide)) (fun H s => sqL (s _ _ F.lC)) RI.st (fun i v H3 H4 ys K1 K0 hi s3 hD y k1 k0 => ?_) (fun H3 ys s3 hD hpd => ?_)
    · obtain ⟨rfl, hv⟩ := y
      rw [List.getElem?_map] at hv
      obtain ⟨b, hb, rfl⟩ := Option.map_eq_some_iff.mp hv
      obtain ⟨u, hu, hTu⟩ := Paired.at F.ch hb
      have eu : x.chains.getD i [] = u := by rw [List.getD_eq_getElem?_getD, hu]; rfl
      rw [eu] at k1
      obtain ⟨l, ts, e1, e2, e3⟩ := F.pv u (List.mem_of_getElem? hu)
      have F4 := F.same s3
      refine ⟨rfl, _, rfl, f, CF, dx, _, _, rfl, F4.ob, C.cl, C.nP, fF_paths dP lC dK, _, rfl, dP, .ref l, rfl, (by rw [← e1]; exact DGet.t F4.dP (by rw [kV_ki]; exact s3 _ _ hTu)), l, _, rfl, .inl (sqL (s3 _ _ e2)), k1 _ _ _ (Same.refl _) (fun z => by cases z) rfl ?_⟩
      show V.int _ = V.int _
      rw [List.length_map, Paired.length e3]
    · have ez : (List.range (bs.map V.ref).length).filterMap (fun i => some (((x.folds (x.chains.getD i [])).length : Nat) : Int)) = toI (x.chains.map fun s => (x.folds s).length) := by
        rw [List.length_map, bl, fm_list (F := fun u : List Nat => some (((x.folds u).length : Nat) : Int)) (d := []), fm_pure (fun u : List Nat => (((x.folds u).length : Nat) : Int))]
        unfold toI
        rw [List.map_map]
        rfl
      rw [pairedI hpd, ez] at hD
      refine ⟨D, _, rfl, sqL hD, ?_⟩
      unfold toI
      rw [sum_cast, paths_sum]
      exact q _ s3
theorem scMs : FnScope nMp ["self"] (C8.fnScope (mF 7)) := C8.fnScope_by (by decide +kernel)
theorem met_ms (T : Blt mg) (C : FC K CF) (D : Mtd K CF "many_single" "Foldings.many_single" (mF 7) ["self"]) : C8.Met P w K mg base 1 CF "many_single" (spMS CF) [] := by
  refine D.met scMs (fun vs H Q E h => ?_) (fun fa cdv A outer s H vs Q E hr h => ?_)
  · obtain ⟨f, x, rfl, _⟩ := h
    rfl
  · obtain ⟨f, x, rfl, F0, g, q⟩ := h
    obtain ⟨dx, dP, lC, dK, kvP, kvK, bs, F⟩ := id F0
    refine ⟨_, pss_one (ps_ret (pe_callB call_len_seq (by rfl) T.len PySem.boot_len (pa_cons
      (pe_lc (own := [("chain", 1)]) (g := gName 1) (tt := tB (tOp rEq (tDGet (tFld K (tVar 0) "kinds") (tVar 1)) (tC (.int 1)))) (te := tVar 1) rfl scMs.nd (pi_list (pe_fld (pv 0) rfl))
        (blkOk_by (N := nMp) (sc := C8.fnScope (mF 7)) (by decide +kernel))
        (fun _ _ _ _ _ => pg_name (i := 1) scMs.nd rfl (.inl rfl) (.inr rfl)) (fun _ _ _ _ _ => pts_one (pt_cmpR op_eq (pe_dget (hu_of hr) (pe_fld (pv 0) rfl) (pv 1) (fun _ _ => rfl)) pe_int (nomark _)))
        (fun _ _ _ _ _ => pv 1)) pa_nil))), ?_⟩
    have bl : bs.length = x.chains.length := Paired.length F.ch
    have cl3 := chains_len_le g
    refine ⟨_, rfl, f, CF, dx, _, _, rfl, F.ob, C.cl, C.nC, fF_chains dP lC dK, lC, rfl, ⟨_, sqL F.lC⟩, fun D nD => ?_⟩
    refine lc_gen (walk_list (K := K) (xs := bs.map V.ref)) RT (fun i => if (x.ways (x.chains.getD i []) == 1) = true then some (x.chains.getD i []) else none) nD (by rw [List.length_map, bl]; exact Nat.le_trans cl3 (by decide)) (fun H s => sqL (s _ _ F.lC)) RT.st (fun i v H3 H4 ys K1 K0 hi s3 hD y k1 k0 => ?_) (fun H3 ys s3 hD hpd => ?_)
    · obtain ⟨rfl, hv⟩ := y
      rw [List.getElem?_map] at hv
      obtain ⟨b, hb, rfl⟩ := Option.map_eq_some_iff.mp hv
      obtain ⟨u, hu, hTu⟩ := Paired.at F.ch hb
      have eu : x.chains.getD i [] = u := by rw [List.getD_eq_getElem?_getD, hu]; rfl
      rw [eu] at k1 k0
      have e1 := F.kv u (List.mem_of_getElem? hu)
      have F4 := F.same s3
      have h4b := s3 _ _ hTu
      refine ⟨rfl, _, rfl, f, CF, dx, _, _, rfl, F4.ob, C.cl, C.nK, fF_kinds dP lC dK, _, rfl, dK, .int (x.ways u : Nat), rfl, (by rw [← e1]; exact DGet.t F4.dK (by rw [kV_ki]; exact h4b)), rfl, _, rfl, ?_⟩
      have e : decide (V.int ((x.ways u : Nat) : Int) = V.int 1) = (x.ways u == 1) := by
        by_cases c : x.ways u = 1
        · rw [c]; rfl
        · rw [beq_eq_false_iff_ne.mpr c]
          exact decide_eq_false fun z => c (by have := V.int.inj z; omega)
      rw [e]
      exact ite2 (fun e => ⟨_, rfl, k1 _ _ _ (Same.refl _) (fun z => tup_ne h4b hD (V.ref.inj z)) (if_pos e) ⟨b, rfl, h4b⟩⟩) (fun e => k0 _ (Same.refl _) (if_neg e))
    · have ez : (List.range (bs.map V.ref).length).filterMap (fun i => if (x.ways (x.chains.getD i []) == 1) = true then some (x.chains.getD i []) else none) = x.chains.filter fun s => x.ways s == 1 := by
        rw [List.length_map, bl, fm_list (F := fun u : List Nat => if (x.ways u == 1) = true then some u else none) (d := []), fm_ifL fun u : List Nat => x.ways u == 1]
      rw [ez] at hpd
      refine ⟨D, _, rfl, .inl (sqL hD), ?_⟩
      rw [Paired.length hpd]
      exact q _ s3
abbrev nTo : List Str := ["self", "turns", "chain"]
theorem scTo : FnScope nTo ["self"] (C8.fnScope (mF 8)) := C8.fnScope_by (by decide +kernel)
theorem met_told (T : Blt mg) (C : FC K CF) (D : Mtd K CF "told_turns" "Foldings.told_turns" (mF 8) ["self"]) : C8.Met P w K mg base 1 CF "told_turns" (spTold CF) [] := by
  refine D.met scTo (fun vs H Q E h => ?_) (fun fa cdv A outer s H vs Q E hr h => ?_)
  · obtain ⟨f, x, rfl, _⟩ := h
    rfl
  · obtain ⟨f, x, rfl, F0, g, q⟩ := h
    obtain ⟨dx, dP, lC, dK, kvP, kvK, bs, F⟩ := id F0
    refine ⟨_, pss_cons (ps_setLc (i := 1) (own := [("chain", 2)]) (g := gName 2) (tt := tYes) (te := tCB (rSumT K) (tCons (tVar 2) tNil)) rfl scTo.nd rfl rfl (sw_true rfl rfl rfl (by decide +kernel)) (pi_list (pe_fld (pv 0) rfl))
        (blkOk_by (N := nTo) (sc := C8.fnScope (mF 8)) (by decide +kernel))
        (fun _ _ _ _ _ => pg_name (i := 2) scTo.nd rfl (.inl rfl) (.inr rfl)) (fun _ _ _ _ _ => pts_nil)
        (fun _ _ _ _ _ => pe_callB (cr_sumT rfl) (by rfl) T.sum (by decide +kernel) (pa_cons (pv 2) pa_nil)))
      (pss_one (ps_ret (pe_lst (pa_cons (pe_callB (cr_min rfl) (by rfl) T.min (by decide +kernel) (pa_cons (pv 1) pa_nil))
        (pa_cons (pe_bm PySem.F.plainAttrs_list PySem.F.slot_list_count PySem.F.type_list_count mt_lcount (pv 1) (pa_cons (pe_callB (cr_min rfl) (by rfl) T.min (by decide +kernel) (pa_cons (pv 1) pa_nil)) pa_nil))
        (pa_cons (pe_callB (cr_max rfl) (by rfl) T.max (by decide +kernel) (pa_cons (pv 1) pa_nil))
        (pa_cons (pe_bm PySem.F.plainAttrs_list PySem.F.slot_list_count PySem.F.type_list_count mt_lcount (pv 1) (pa_cons (pe_callB (cr_max rfl) (by rfl) T.max (by decide +kernel) (pa_cons (pv 1) pa_nil)) pa_nil)) pa_nil))))))), ?_⟩
    have bl : bs.length = x.chains.length := Paired.length F.ch
    have cl3 := chains_len_le g
    refine ⟨_, rfl, f, CF, dx, _, _, rfl, F.ob, C.cl, C.nC, fF_chains dP lC dK, lC, rfl, ⟨_, sqL F.lC⟩, fun D nD => ?_⟩
    refine lc_gen (walk_list (K := K) (xs := bs.map V.ref)) RI (fun i => some ((Uw55.turns (x.chains.getD i []) : Nat) : Int)) nD (by rw [List.length_map, bl]; exact Nat.le_trans cl3 (by decide)) (fun H s => sqL (s _ _ F.lC)) RI.st (fun i v H3 H4 ys K1 K0 hi s3 hD y k1 k0 => ?_) (fun H3 ys s3 hD hpd => ?_)
    · obtain ⟨rfl, hv⟩ := y
      rw [List.getElem?_map] at hv
      obtain ⟨b, hb, rfl⟩ := Option.map_eq_some_iff.mp hv
      obtain ⟨u, hu, hTu⟩ := Paired.at F.ch hb
      have eu : x.chains.getD i [] = u := by rw [List.getD_eq_getElem?_getD, hu]; rfl
      rw [eu] at k1
      refine ⟨rfl, _, rfl, b, toI u, rfl, sqT (by rw [← vi_toI]; exact s3 _ _ hTu), k1 _ _ _ (Same.refl _) (fun z => by cases z) rfl ?_⟩
      show V.int _ = V.int _
      unfold toI
      rw [sum_cast, sum_turns u (chains_01 (List.mem_of_getElem? hu))]
    · have ez : (List.range (bs.map V.ref).length).filterMap (fun i => some ((Uw55.turns (x.chains.getD i []) : Nat) : Int)) = toI (x.chains.map Uw55.turns) := by
        rw [List.length_map, bl, fm_list (F := fun u : List Nat => some ((Uw55.turns u : Nat) : Int)) (d := []), fm_pure (fun u : List Nat => ((Uw55.turns u : Nat) : Int))]
        unfold toI
        rw [List.map_map]
        rfl
      rw [pairedI hpd, ez] at hD
      have hne : 0 < (toI (x.chains.map Uw55.turns)).length := by
        unfold toI
        rw [List.length_map, List.length_map]
        exact List.length_pos_iff.mpr (chains_ne g)
      have nat : ∀ m : Int, m ∈ toI (x.chains.map Uw55.turns) → ∃ n : Nat, m = (n : Int) ∧ n ∈ x.chains.map Uw55.turns := fun m hm => by
        unfold toI at hm
        obtain ⟨n, hn, e⟩ := List.mem_map.mp hm
        exact ⟨n, e.symm, hn⟩
      have mi : ∀ n : Nat, n ∈ x.chains.map Uw55.turns → ((n : Nat) : Int) ∈ toI (x.chains.map Uw55.turns) := fun n hn => by
        unfold toI
        exact List.mem_map.mpr ⟨n, hn, rfl⟩
      refine ⟨_, rfl, D, _, rfl, sqL hD, hne, fun m1 a1 b1 => ?_⟩
      obtain ⟨lo, rfl, hlo⟩ := nat m1 a1
      refine ⟨_, rfl, .inl ⟨rfl, _, sqL hD⟩, _, rfl, D, _, rfl, sqL hD, hne, fun m2 a2 b2 => ?_⟩
      have e2 : m2 = (lo : Int) := Int.le_antisymm (b2 _ a1) (b1 _ a2)
      subst e2
      refine ⟨D, _, (lo : Int), rfl, rfl, sqL hD, ?_⟩
      refine ⟨_, rfl, D, _, rfl, sqL hD, hne, fun m3 a3 b3 => ?_⟩
      obtain ⟨hi, rfl, hhi⟩ := nat m3 a3
      refine ⟨_, rfl, .inl ⟨rfl, _, sqL hD⟩, _, rfl, D, _, rfl, sqL hD, hne, fun m4 a4 b4 => ?_⟩
      have e4 : m4 = (hi : Int) := Int.le_antisymm (b3 _ a4) (b4 _ a3)
      subst e4
      refine ⟨D, _, (hi : Int), rfl, rfl, sqL hD, (by show 4 ≤ sizeLine; decide), fun r nr => ?_⟩
      refine q _ (s3.trans (same_upd nr)) r (none_same s3 nr) ?_
      rw [upd_same, told_is hlo (fun y hy => by have := b1 _ (mi y hy); omega) hhi (fun y hy => by have := b3 _ (mi y hy); omega)]
      unfold toI
      rw [count_cast, count_cast]
      rfl
end
end CC
end
section
set_option Elab.async false
set_option linter.all false
set_option maxRecDepth 100000
set_option maxHeartbeats 4000000
namespace CC
open PySem PySem.Spec PyProof.Rows L2
open Uw55 (Box)
/-! ### the holder -/
def fH (a l : Addr) : List (Str × V) := [("box", .ref a), ("worked_out", .ref l)]
theorem ne_bw : ¬ (("box" : Str) = "worked_out") := by decide +kernel
theorem ne_wb : ¬ (("worked_out" : Str) = "box") := by decide +kernel
theorem putH0 (a : Addr) : putF "box" (.ref a) [] = ([("box", .ref a)] : List (Str × V)) := rfl
theorem putH1 (a l : Addr) : putF "worked_out" (.ref l) [("box", .ref a)] = fH a l := by
  show (if ("box" : Str) = "worked_out" then _ else (("box" : Str), V.ref a) :: putF "worked_out" (.ref l) []) = _
  rw [if_neg ne_bw]
  rfl
theorem putHb (a a' l : Addr) : putF "box" (.ref a') (fH a l) = fH a' l := by
  show (if ("box" : Str) = "box" then _ else _) = _
  rw [if_pos rfl]
  rfl
theorem putHw (a l l' : Addr) : putF "worked_out" (.ref l') (fH a l) = fH a l' := by
  show (if ("box" : Str) = "worked_out" then _ else (("box" : Str), V.ref a) :: putF "worked_out" (.ref l') [("worked_out", .ref l)]) = _
  rw [if_neg ne_bw]
  show (("box" : Str), V.ref a) :: (if ("worked_out" : Str) = "worked_out" then _ else _) = _
  rw [if_pos rfl]
  rfl
theorem fH_box (a l : Addr) : (fH a l).lookup ("box" : Str) = some (.ref a) := by
  rw [← putH1, lookup_putF, if_neg ne_bw, ← putH0, lookup_putF, if_pos rfl]
theorem fH_wo (a l : Addr) : (fH a l).lookup ("worked_out" : Str) = some (.ref l) := by
  rw [← putH1, lookup_putF, if_pos rfl]
theorem fH_no (a l : Addr) {m : Str} (h1 : ¬ m = "box") (h2 : ¬ m = "worked_out") : (fH a l).lookup m = none := by
  rw [← putH1, lookup_putF, if_neg h2, ← putH0, lookup_putF, if_neg h1]
  rfl
theorem FoldP.keep {CF f : Addr} {H H' : Hp} {x : Box} {dx dP lC dK : Addr} {kvP kvK : List (List Key × V)} {bs : List Addr} (F : FoldP CF H f x dx dP lC dK kvP kvK bs) (g : Good x)
    (k1 : ∀ a xs, H a = some (.tup xs) → H' a = some (.tup xs)) (k2 : ∀ a kvs, H a = some (.dT kvs) → H' a = some (.dT kvs)) (k3 : ∀ a (r : Addr) rs, H a = some (.lst (.ref r :: rs)) → H' a = some (.lst (.ref r :: rs))) (k4 : ∀ u, H f = some u → H' f = some u) : FoldP CF H' f x dx dP lC dK kvP kvK bs := by
  have k5 : ∀ (a : Addr) (ts : List Addr) (ss : List (List Nat)), Tups H ts ss → ss ≠ [] → H a = some (.lst (ts.map V.ref)) → H' a = some (.lst (ts.map V.ref)) := fun a ts ss ht hn h => by
    cases ht with
    | nil => exact absurd rfl hn
    | cons _ _ => exact k3 a _ _ h
  refine ⟨k4 _ F.ob, k2 _ _ F.dP, k5 _ _ _ F.ch (chains_ne g) F.lC, F.ch.mono k1, k2 _ _ F.dK, fun u hu => ?_, F.pn, F.kv, F.kn⟩
  obtain ⟨l, ts, h1, h2, h3⟩ := F.pv u hu
  refine ⟨l, ts, h1, k5 _ _ _ h3 (fun z => ?_) h2, h3.mono k1⟩
  obtain ⟨p, hp, e⟩ := mem_chains.mp hu
  have : p ∈ x.folds u := List.mem_filter.mpr ⟨hp, by simpa using e⟩
  rw [z] at this
  cases this
theorem FoldAt.keep {CF f : Addr} {H H' : Hp} {x : Box} (F : FoldAt CF H f x) (g : Good x)
    (k1 : ∀ a xs, H a = some (.tup xs) → H' a = some (.tup xs)) (k2 : ∀ a kvs, H a = some (.dT kvs) → H' a = some (.dT kvs)) (k3 : ∀ a (r : Addr) rs, H a = some (.lst (.ref r :: rs)) → H' a = some (.lst (.ref r :: rs))) (k4 : ∀ u, H f = some u → H' f = some u) : FoldAt CF H' f x := by
  obtain ⟨dx, dP, lC, dK, kvP, kvK, bs, F⟩ := F
  exact ⟨dx, dP, lC, dK, kvP, kvK, bs, F.keep g k1 k2 k3 k4⟩
structure HC (K : PySem.W.Frag) (C : Addr) : Prop where
  cl : Cls K C
  nB : NoAttr K C "box"
  nW : NoAttr K C "worked_out"
structure HoldP (K : PySem.W.Frag) (CH CF : Addr) (H : Hp) (p : Addr) (x : Box) (lw dx ab : Addr) : Prop where
  ob : H p = some (.ins CH dx (fH ab lw))
  bx : BoxAt K H ab x
  g : Good x
  wo : H lw = some (.lst []) ∨ ∃ f, H lw = some (.lst [.ref f]) ∧ FoldAt CF H f x
def HoldAt (K : PySem.W.Frag) (CH CF : Addr) (H : Hp) (p : Addr) (x : Box) (lw : Addr) : Prop := ∃ dx ab, HoldP K CH CF H p x lw dx ab
theorem HoldP.same {K : PySem.W.Frag} {CH CF : Addr} {H H' : Hp} {p : Addr} {x : Box} {lw dx ab : Addr} (O : HoldP K CH CF H p x lw dx ab) (s : Same H H') : HoldP K CH CF H' p x lw dx ab :=
  ⟨s _ _ O.ob, sm_T s O.bx, O.g, by
    rcases O.wo with h | ⟨f, h1, h2⟩
    · exact .inl (s _ _ h)
    · exact .inr ⟨f, s _ _ h1, h2.same s⟩⟩
theorem HoldAt.same {K : PySem.W.Frag} {CH CF : Addr} {H H' : Hp} {p : Addr} {x : Box} {lw : Addr} (O : HoldAt K CH CF H p x lw) (s : Same H H') : HoldAt K CH CF H' p x lw := by
  obtain ⟨dx, ab, O⟩ := O
  exact ⟨dx, ab, O.same s⟩
/-- a list of numbers may be written -/
theorem HoldAt.write {K : PySem.W.Frag} {CH CF : Addr} {H H' : Hp} {p : Addr} {x : Box} {lw D : Addr} {zs : List Int} (O : HoldAt K CH CF H p x lw) (hD : H D = some (.lst (zs.map V.int))) (hne : lw ≠ D) (b : But D H H') : HoldAt K CH CF H' p x lw := by
  obtain ⟨dx, ab, O⟩ := O
  refine ⟨dx, ab, b _ _ (ne_of O.ob hD (fun z => by cases z)) O.ob, ?_, O.g, ?_⟩
  · refine sqT_keep O.bx fun u hu e => b _ _ (fun z => ?_) e
    rw [z, hD] at e
    have e := Option.some.inj e
    rcases hu with r | ⟨o, r⟩
    · rw [r] at e; cases e
    · rw [r] at e; cases e
  · rcases O.wo with h | ⟨f, h1, h2⟩
    · exact .inl (b _ _ hne h)
    · refine .inr ⟨f, b _ _ hne h1, h2.keep O.g (fun a xs e => b _ _ (tup_ne e hD) e) (fun a xs e => b _ _ (ne_of e hD (fun z => by cases z)) e) (fun a r rs e => b _ _ (ne_of e hD (fun z => ?_)) e) (fun u e => b _ _ (fun z => ?_) e)⟩
      · have z := HO.lst.inj z
        cases zs with
        | nil => cases z
        | cons y ys => cases z
      · obtain ⟨dx2, dP, lC, dK, kvP, kvK, bs, F⟩ := h2
        have := F.ob
        rw [z, hD] at this
        cases this
/-- what a call leaves: the object alone is written; the answer is a new list -/
def Aft (K : PySem.W.Frag) (CH CF : Addr) (H : Hp) (p lw : Addr) (x : Box) (zs : List Int) (Q : VK) : Prop :=
  ∀ H' lw' r, But p H H' → HoldAt K CH CF H' p x lw' → (lw' = lw ∨ H lw' = none) → H r = none → H' r = some (.lst (zs.map V.int)) → Q (.ref r) H'
theorem none_but {p : Addr} {H H' : Hp} (b : But p H H') {r : Addr} (h : H' r = none) (hp : ∃ u, H' p = some u) : H r = none := by
  cases e : H r with
  | none => rfl
  | some u =>
    have hne : r ≠ p := fun z => by
      obtain ⟨u, hu⟩ := hp
      rw [z, hu] at h
      cases h
    rw [b _ _ hne e] at h
    cases h
theorem But.trans {p : Addr} {H H1 H2 : Hp} (a : But p H H1) (b : But p H1 H2) : But p H H2 := fun c u n e => b c u n (a c u n e)
theorem but_but {p f : Addr} {H H1 H2 : Hp} (hf : H f = none) (a : But p H H1) (b : But f H1 H2) : But p H H2 := fun c u n e => b c u (ne_of_none e hf) (a c u n e)
theorem Aft.one {K : PySem.W.Frag} {CH CF : Addr} {H H' : Hp} {p lw : Addr} {x : Box} {zs : List Int} {Q : VK} (a : Aft K CH CF H p lw x zs Q) (O : HoldAt K CH CF H p x lw) (s : Same H H') {r : Addr} {ys : List V} (nr : H' r = none) (e : ys = zs.map V.int) : Q (.ref r) (upd H' r (.lst ys)) := by
  have s2 : Same H (upd H' r (.lst ys)) := s.trans (same_upd nr)
  exact a _ lw r (sm_but s2) (O.same s2) (.inl rfl) (none_same s nr) (by rw [upd_same, e])
theorem Aft.on {K : PySem.W.Frag} {CH CF : Addr} {H H1 : Hp} {p lw lw1 : Addr} {x : Box} {zs : List Int} {Q : VK} (a : Aft K CH CF H p lw x zs Q) (O1 : HoldAt K CH CF H1 p x lw1) (b : But p H H1) (hl : lw1 = lw ∨ H lw1 = none) : Aft K CH CF H1 p lw1 x zs Q := fun H' lw' r b' O' hl' hr he => by
  have hp : ∃ u, H1 p = some u := by
    obtain ⟨dx, ab, O1⟩ := O1
    exact ⟨_, O1.ob⟩
  refine a H' lw' r (b.trans b') O' ?_ (none_but b hr hp) he
  rcases hl' with h | h
  · rw [h]; exact hl
  · exact .inr (none_but b h hp)
def spHInit (K : PySem.W.Frag) (CH CF : Addr) : Sp := fun vs H Q _ => ∃ (p dx : Addr), vs = [.ref p] ∧ H p = some (.ins CH dx []) ∧ ∀ H' lw, But p H H' → HoldAt K CH CF H' p Uw55.init lw → H lw = none → Q .non H'
/-- begins(box) -/
def spBegs (K : PySem.W.Frag) (CH CF : Addr) : Sp := fun vs H Q _ => ∃ (p t lw : Addr) (x : Box) (a b c : Nat), vs = [.ref p, .ref t] ∧ HoldAt K CH CF H p x lw ∧ H t = some (.tup [.int a, .int b, .int c]) ∧
  Aft K CH CF H p lw (Uw55.step x (.begins a b c)).1 (Uw55Neutral.out (Uw55.step x (.begins a b c)).2) Q
/-- foldings() -/
def spFo (K : PySem.W.Frag) (CH CF : Addr) : Sp := fun vs H Q _ => ∃ (p lw : Addr) (x : Box), vs = [.ref p] ∧ HoldAt K CH CF H p x lw ∧
  ∀ H' lw' f, But p H H' → HoldAt K CH CF H' p x lw' → (lw' = lw ∨ H lw' = none) → FoldAt CF H' f x → Q (.ref f) H'
theorem good_init : Good Uw55.init := ⟨by decide, by decide, by decide, by decide, by decide, by decide, by decide, by decide⟩
section
variable {P : Program} {w : World} {K : PySem.W.Frag} {mg : Str → Option Value} {base : Heap} {CH CF : Addr}
theorem scHi : FnScope ["self"] ["self"] (C8.fnScope (mH 0)) := C8.fnScope_by (by decide +kernel)
theorem mak_hold (C : HC K CH) (GL : Glo K mg) (D : Ini K mg "Holder" CH "Holder.__init__" (mH 0) ["self"]) : C8.Mak P w K mg base 1 "Holder" CH (spHInit K CH CF) [] := by
  obtain ⟨aA, mA, hA⟩ := GL.first
  refine D.mak scHi (fun vs H Q E h => ?_) (fun fa cdv A outer s H vs Q E hr h => ?_)
  · obtain ⟨p, dx, rfl, _⟩ := h
    rfl
  · obtain ⟨p, dx, rfl, hp, q⟩ := h
    refine ⟨_, pss_cons (ps_fld (pv 0) (pe_glob rfl mA (v := .ref aA) rfl) rfl) (pss_one (ps_fld (pv 0) (pe_lst pa_nil) rfl)), ?_⟩
    refine ⟨_, rfl, p, CH, dx, _, rfl, hp, C.cl, C.nB, by decide, Nat.zero_le _, fun l nl => ?_⟩
    have hne : l ≠ p := fun z => by rw [z, upd_same] at nl; cases nl
    have nl0 : H l = none := by rw [upd_ne hne] at nl; exact nl
    refine ⟨_, rfl, p, CH, dx, _, rfl, (by rw [upd_ne hne.symm, upd_same]), C.cl, C.nW, (by show 1 < 1000; decide), ?_⟩
    refine q _ l (fun b u hb e => ?_) ⟨dx, aA, ?_, hA.sq, good_init, .inl ?_⟩ nl0
    · rw [upd_ne hb, upd_ne (ne_of_none e nl0), upd_ne hb]; exact e
    · rw [upd_same, putH0, putH1]
    · rw [upd_ne hne, upd_same]
theorem scFo : FnScope ["self"] ["self"] (C8.fnScope (mH 2)) := C8.fnScope_by (by decide +kernel)
theorem met_fo (C : HC K CH) (D : Mtd K CH "foldings" "Holder.foldings" (mH 2) ["self"]) (MF : C8.Mak P w K mg base 5 "Foldings" CF (spFInit K CF) []) : C8.Met P w K mg base 7 CH "foldings" (spFo K CH CF) [] := by
  refine D.met scFo (fun vs H Q E h => ?_) (fun fa cdv A outer s H vs Q E hr h => ?_)
  · obtain ⟨p, lw, x, rfl, _⟩ := h
    rfl
  · obtain ⟨p, lw, x, rfl, O0, q⟩ := h
    obtain ⟨dx, ab, O⟩ := id O0
    refine ⟨_, pss_cons (ps_if (pt_cmpR (op_eqN hr.units) (pe_fld (pv 0) rfl) (pe_lst pa_nil) (nomark _))
        (pss_one (ps_fld (pv 0) (pe_lst (pa_cons (C8.pe_mk MF hr (by decide) (by rfl) (pa_cons (pe_fld (pv 0) rfl) pa_nil)) pa_nil)) rfl)) pss_nil)
      (pss_one (ps_ret (pe_ix ix_list (pe_fld (pv 0) rfl) pe_int (fun _ _ => rfl)))), ?_⟩
    refine ⟨_, rfl, p, CH, dx, _, _, rfl, O.ob, C.cl, C.nW, fH_wo ab lw, Nat.zero_le _, fun l0 n0 => ?_⟩
    have s0 : Same H (upd H l0 (.lst [])) := same_upd n0
    have O1 := O.same s0
    rcases O1.wo with hw | ⟨f, hw, hF⟩
    · refine ⟨lw, l0, [], rfl, rfl, sqL hw, sqL upd_same, _, rfl, ?_⟩
      refine ⟨_, rfl, p, CH, dx, _, _, rfl, O1.ob, C.cl, C.nB, fH_box ab lw, fun f dxf nf ndx hne => ?_⟩
      have s1 : Same (upd H l0 (.lst [])) (upd (upd (upd H l0 (.lst [])) dxf (.own f)) f (.ins CF dxf [])) := (same_upd ndx).trans (same_upd (by rw [upd_ne hne.symm]; exact nf))
      refine ⟨f, ab, dxf, x, rfl, upd_same, sm_T s1 O1.bx, O.g, fun H2 b2 hF => ⟨rfl, ?_⟩⟩
      have s2 : Same (upd H l0 (.lst [])) H2 := fun b u e => b2 b u (ne_of_none e nf) (s1 b u e)
      refine ⟨(by show 1 ≤ sizeLine; decide), fun l nl => ?_⟩
      have s3 : Same (upd H l0 (.lst [])) (upd H2 l (.lst [.ref f])) := s2.trans (same_upd nl)
      have hp3 := s3 _ _ O1.ob
      have hlp : l ≠ p := fun z => by rw [z, s2 _ _ O1.ob] at nl; cases nl
      refine ⟨_, rfl, p, CH, dx, _, rfl, hp3, C.cl, C.nW, (by show 2 < 1000; decide), ?_⟩
      rw [putHw]
      have bt : But p H (upd (upd H2 l (.lst [.ref f])) p (.ins CH dx (fH ab l))) := (sm_but (s0.trans s3)).trans But.upd
      have hl4 : (upd (upd H2 l (.lst [.ref f])) p (.ins CH dx (fH ab l))) l = some (.lst [.ref f]) := by rw [upd_ne hlp, upd_same]
      have hF3 : FoldAt CF (upd H2 l (.lst [.ref f])) f x := hF.same (same_upd nl)
      have hF4 : FoldAt CF (upd (upd H2 l (.lst [.ref f])) p (.ins CH dx (fH ab l))) f x := by
        have bt := But.upd (D := p) (H := upd H2 l (.lst [.ref f])) (o := .ins CH dx (fH ab l))
        refine hF3.keep O.g (fun a xs e => bt _ _ (ne_of e hp3 (fun z => by cases z)) e) (fun a xs e => bt _ _ (ne_of e hp3 (fun z => by cases z)) e) (fun a r rs e => bt _ _ (ne_of e hp3 (fun z => by cases z)) e) (fun u e => bt _ _ (fun z => ?_) e)
        exact ne_of_none O1.ob nf z.symm
      refine ⟨_, rfl, p, CH, dx, _, _, rfl, upd_same, C.cl, C.nW, fH_wo ab l, l, _, 0, _, rfl, rfl, sqL hl4, rfl, ?_⟩
      exact q _ l f bt ⟨dx, ab, upd_same, but_sq (But.upd) hp3 (sm_T s3 O1.bx), O.g, .inr ⟨f, hl4, hF4⟩⟩ (.inr (none_same (s0.trans s2) nl)) hF4
    · refine ⟨lw, l0, _, rfl, rfl, sqL hw, sqL upd_same, _, rfl, ?_⟩
      refine ⟨_, rfl, p, CH, dx, _, _, rfl, O1.ob, C.cl, C.nW, fH_wo ab lw, lw, _, 0, _, rfl, rfl, sqL hw, rfl, ?_⟩
      exact q _ lw f (sm_but s0) ⟨dx, ab, O1⟩ (.inl rfl) hF
end
end CC
end
section
set_option Elab.async false
set_option linter.all false
set_option maxRecDepth 100000
set_option maxHeartbeats 4000000
namespace CC
open PySem PySem.Spec PyProof.Rows L2
open Uw55 (Box)
def rLe0 : R2 := rI0 fun i j => .bl (decide (i ≤ j))
def okS (n : Nat) : Bool := decide (1 ≤ n) && decide (n ≤ 4)
theorem begs_no {x : Box} {a b c : Nat} (h : ([okS a, okS b, okS c] : List Bool).all id = false) : Uw55.step x (.begins a b c) = (x, Uw55.ok (-1)) := by
  refine if_pos ?_
  simp [okS] at h
  unfold Uw55.SIDE
  omega
theorem begs_no2 {x : Box} {a b c : Nat} (h : a * b * c < 2 ∨ 12 < a * b * c) : Uw55.step x (.begins a b c) = (x, Uw55.ok (-1)) := by
  refine if_pos ?_
  unfold Uw55.CELLS
  rw [Nat.mul_assoc] at h
  rcases h with h | h
  · exact .inr (.inr (.inr (.inr (.inr (.inr (.inl h))))))
  · exact .inr (.inr (.inr (.inr (.inr (.inr (.inr h))))))
theorem okS_le {n : Nat} (h : okS n = true) : 1 ≤ n ∧ n ≤ 4 := by
  unfold okS at h
  simpa using h
theorem begs_yes {x : Box} {a b c : Nat} (h : ([okS a, okS b, okS c] : List Bool).all id = true) (h2 : ¬ (a * b * c < 2)) (h3 : ¬ (12 < a * b * c)) : Uw55.step x (.begins a b c) = (⟨a, b, c⟩, Uw55.ok ((a * b * c : Nat) : Int)) ∧ Good ⟨a, b, c⟩ := by
  have h : okS a = true ∧ okS b = true ∧ okS c = true := by simpa using h
  have h4 := okS_le h.1
  have h5 := okS_le h.2.1
  have h6 := okS_le h.2.2
  rw [Nat.mul_assoc] at h2 h3 ⊢
  refine ⟨if_neg ?_, h4.1, h4.2, h5.1, h5.2, h6.1, h6.2, ?_, ?_⟩
  · unfold Uw55.SIDE Uw55.CELLS
    omega
  · show 2 ≤ a * (b * c)
    omega
  · show a * (b * c) ≤ 12
    omega
/-- path(cells) -/
def spPa (K : PySem.W.Frag) (CH CF : Addr) : Sp := fun vs H Q _ => ∃ (p t lw : Addr) (x : Box) (s : List Nat), vs = [.ref p, .ref t] ∧ HoldAt K CH CF H p x lw ∧ TupAt H t s ∧ s.length ≤ 1000 ∧ Aft K CH CF H p lw x (Uw55Neutral.out (Uw55.step x (.path s)).2) Q
/-- is_chain(chain) -/
def spIs (K : PySem.W.Frag) (CH CF : Addr) : Sp := fun vs H Q _ => ∃ (p t lw : Addr) (x : Box) (s : List Nat), vs = [.ref p, .ref t] ∧ HoldAt K CH CF H p x lw ∧ TupAt H t s ∧ s.length ≤ 1000 ∧ ∀ H', Same H H' → Q (.bl (x.isChain s)) H'
section
variable {P : Program} {w : World} {K : PySem.W.Frag} {mg : Str → Option Value} {base : Heap} {CH CF : Addr}
abbrev nBg : List Str := ["self", "box", "along"]
theorem scBg : FnScope nBg ["self", "box"] (C8.fnScope (mH 1)) := C8.fnScope_by (by decide +kernel)
theorem met_begs (T : Blt mg) (GL : Glo K mg) (C : HC K CH) (D : Mtd K CH "begins" "Holder.begins" (mH 1) ["self", "box"]) (GM : C8.Cal P w K mg base 1 "how_many" (spMany K) []) : C8.Met P w K mg base 2 CH "begins" (spBegs K CH CF) [] := by
  obtain ⟨tB, mB⟩ := GL.noBox
  obtain ⟨tA, mA⟩ := GL.mostA
  obtain ⟨tM, mM⟩ := GL.mostC
  obtain ⟨tL, mL⟩ := GL.leastC
  refine D.met scBg (fun vs H Q E h => ?_) (fun fa cdv A outer s H vs Q E hr h => ?_)
  · obtain ⟨p, t, lw, x, a, b, c, rfl, _⟩ := h
    rfl
  · obtain ⟨p, t, lw, x, a, b, c, rfl, O0, ht, q⟩ := h
    obtain ⟨dx, ab, O⟩ := id O0
    refine ⟨_, pss_cons (ps_if (pt_not (pt_val (pe_callB (cr_all rfl) (by rfl) T.all (by decide +kernel) (pa_cons
          (pe_lc (own := [("along", 2)]) (g := gName 2) (tt := tYes) (te := tAndV (tOp rLe0 (tC (.int 1)) (tVar 2)) (tOp rLe0 (tVar 2) (tC (.int 4)))) rfl scBg.nd (pi_tup (pv 1))
            (blkOk_by (N := nBg) (sc := C8.fnScope (mH 1)) (by decide +kernel))
            (fun _ _ _ _ _ => pg_name (i := 2) scBg.nd rfl (.inl rfl) (.inr rfl)) (fun _ _ _ _ _ => pts_nil)
            (fun _ _ _ _ _ => pe_and (pe_cmpR op_le pe_int (pv 2) (nomark _)) (pe_one (pe_cmpR op_le (pv 2) (pe_glob rfl mA (v := .int 4) ⟨tA, rfl⟩) (nomark _))))) pa_nil))))
        (pss_one (ps_ret (pe_lst (pa_cons (pe_glob rfl mB (v := .int (-1)) ⟨tB, rfl⟩) pa_nil)))) pss_nil)
      (pss_cons (ps_if (PW.pt (pw_or (pt_cmpR op_lt (C8.pe_c GM hr (by decide) (by rfl) (pa_cons (pv 1) pa_nil)) (pe_glob rfl mL (v := .int 2) ⟨tL, rfl⟩) (nomark _))
          (pw_or1 (pt_cmpR op_gt (C8.pe_c GM hr (by decide) (by rfl) (pa_cons (pv 1) pa_nil)) (pe_glob rfl mM (v := .int 12) ⟨tM, rfl⟩) (nomark _)))))
        (pss_one (ps_ret (pe_lst (pa_cons (pe_glob rfl mB (v := .int (-1)) ⟨tB, rfl⟩) pa_nil)))) pss_nil)
      (pss_cons (ps_fld (pv 0) (pv 1) rfl)
      (pss_cons (ps_fld (pv 0) (pe_lst pa_nil) rfl)
      (pss_one (ps_ret (pe_lst (pa_cons (C8.pe_c GM hr (by decide) (by rfl) (pa_cons (pv 1) pa_nil)) pa_nil))))))), ?_⟩
    refine ⟨_, rfl, t, rfl, ⟨_, sqT ht⟩, fun D nD => ?_⟩
    refine lc_gen (walk_tup (K := K) (xs := [.int a, .int b, .int c])) RB (fun i => some (okS ((⟨a, b, c⟩ : Box).size i))) nD (by show 3 ≤ sizeLine; decide) (fun H s => sqT (s _ _ ht)) RB.st (fun i v H3 H4 ys K1 K0 hi s3 hD y k1 k0 => ?_) (fun H3 ys s3 hD hpd => ?_)
    · obtain ⟨rfl, hv⟩ := y
      rw [box_at (x := ⟨a, b, c⟩) hi] at hv
      cases hv
      refine ⟨rfl, _, rfl, _, _, rfl, rfl, _, rfl, ?_⟩
      refine ite2 (fun e => ⟨_, rfl, _, _, rfl, rfl, k1 _ _ _ (Same.refl _) (fun z => by cases z) rfl ?_⟩) (fun e => k1 _ _ _ (Same.refl _) (fun z => by cases z) rfl ?_)
      · show V.bl _ = V.bl _
        have e := of_decide_eq_true e
        unfold okS
        congr 1
        rw [decide_eq_true (p := 1 ≤ (⟨a, b, c⟩ : Box).size i) (by omega), Bool.true_and]
        exact decide_eq_decide.mpr (by omega)
      · show V.bl _ = V.bl _
        have e : ¬ _ := fun z => e (decide_eq_true z)
        unfold okS
        rw [decide_eq_false (p := 1 ≤ (⟨a, b, c⟩ : Box).size i) (by omega), Bool.false_and]
    · rw [pairedB hpd] at hD
      have ht3 := s3 _ _ ht
      have O3 := O.same s3
      refine ⟨D, [okS a, okS b, okS c], rfl, sqL hD, _, rfl, ?_⟩
      cases ea : ([okS a, okS b, okS c] : List Bool).all id with
      | false =>
        rw [begs_no ea] at q
        refine ⟨(by show 1 ≤ sizeLine; decide), fun r nr => ?_⟩
        exact q.one O0 s3 nr rfl
      | true =>
        have hh : okS a = true ∧ okS b = true ∧ okS c = true := by simpa using ea
        have ha4 := (okS_le hh.1).2
        have hb4 := (okS_le hh.2.1).2
        refine ⟨_, rfl, t, a, b, c, rfl, sqT ht3, by omega, by omega, _, _, rfl, rfl, _, rfl, ?_⟩
        refine ite2 (fun e => ?_) (fun e => ?_)
        · have e := of_decide_eq_true e
          rw [begs_no2 (.inl (by omega))] at q
          refine ⟨(by show 1 ≤ sizeLine; decide), fun r nr => ?_⟩
          exact q.one O0 s3 nr rfl
        · have e : ¬ _ := fun z => e (decide_eq_true z)
          refine ⟨_, rfl, t, a, b, c, rfl, sqT ht3, by omega, by omega, _, _, rfl, rfl, _, rfl, ?_⟩
          refine ite2 (fun e2 => ?_) (fun e2 => ?_)
          · have e2 := of_decide_eq_true e2
            rw [begs_no2 (.inr (by omega))] at q
            refine ⟨(by show 1 ≤ sizeLine; decide), fun r nr => ?_⟩
            exact q.one O0 s3 nr rfl
          · have e2 : ¬ _ := fun z => e2 (decide_eq_true z)
            obtain ⟨e3, g'⟩ := begs_yes (x := x) ea (fun z => e (by omega)) (fun z => e2 (by omega))
            rw [e3] at q
            refine ⟨_, rfl, _, rfl, p, CH, dx, _, rfl, O3.ob, C.cl, C.nB, (by show 2 < 1000; decide), ?_⟩
            rw [putHb]
            refine ⟨Nat.zero_le _, fun l nl => ?_⟩
            have hlp : l ≠ p := fun z => by rw [z, upd_same] at nl; cases nl
            have nl3 : H3 l = none := by rw [upd_ne hlp] at nl; exact nl
            refine ⟨_, rfl, p, CH, dx, _, rfl, (by rw [upd_ne hlp.symm, upd_same]), C.cl, C.nW, (by show 2 < 1000; decide), ?_⟩
            rw [putHw]
            have bt : But p H3 (upd (upd (upd H3 p (.ins CH dx (fH t lw))) l (.lst [])) p (.ins CH dx (fH t l))) := fun b u hb e => by
              rw [upd_ne hb, upd_ne (ne_of_none e nl3), upd_ne hb]; exact e
            have ht4 := bt _ _ (ne_of ht3 O3.ob (fun z => by cases z)) ht3
            refine ⟨_, rfl, t, a, b, c, rfl, sqT ht4, by omega, by omega, (by show 1 ≤ sizeLine; decide), fun r nr => ?_⟩
            have s5 := same_upd (o := .lst [V.int ((a * b * c : Nat) : Int)]) nr
            have b5 : But p H (upd (upd (upd (upd H3 p (.ins CH dx (fH t lw))) l (.lst [])) p (.ins CH dx (fH t l))) r (.lst [V.int ((a * b * c : Nat) : Int)])) := ((sm_but s3).trans bt).trans (sm_but s5)
            refine q _ l r b5 ⟨dx, t, s5 _ _ upd_same, sqT (s5 _ _ ht4), g', .inl (s5 _ _ (by rw [upd_ne hlp, upd_same]))⟩ (.inr (none_same s3 nl3)) ?_ upd_same
            exact none_same s3 (none_but bt nr ⟨_, upd_same⟩)
abbrev nPt : List Str := ["self", "cells", "wrong", "chain"]
theorem scPt : FnScope nPt ["self", "cells"] (C8.fnScope (mH 3)) := C8.fnScope_by (by decide +kernel)
theorem met_path (T : Blt mg) (GL : Glo K mg) (C : HC K CH) (D : Mtd K CH "path" "Holder.path" (mH 3) ["self", "cells"]) (GM : C8.Cal P w K mg base 1 "how_many" (spMany K) []) (GW : C8.Cal P w K mg base 3 "first_wrong" (spWrong K) []) (GC : C8.Cal P w K mg base 3 "chain_of" (spChain K) []) : C8.Met P w K mg base 4 CH "path" (spPa K CH CF) [] := by
  obtain ⟨tB, mB⟩ := GL.noBox
  obtain ⟨tP, mP⟩ := GL.noPath
  refine D.met scPt (fun vs H Q E h => ?_) (fun fa cdv A outer s H vs Q E hr h => ?_)
  · obtain ⟨p, t, lw, x, s, rfl, _⟩ := h
    rfl
  · obtain ⟨p, t, lw, x, s, rfl, O0, ht, hs, q⟩ := h
    obtain ⟨dx, ab, O⟩ := id O0
    refine ⟨_, pss_cons (ps_if (pt_cmpR op_ne (pe_callB call_len_seq (by rfl) T.len PySem.boot_len (pa_cons (pv 1) pa_nil)) (C8.pe_c GM hr (by decide) (by rfl) (pa_cons (pe_fld (pv 0) rfl) pa_nil)) (nomark _))
        (pss_one (ps_ret (pe_lst (pa_cons (pe_glob rfl mB (v := .int (-1)) ⟨tB, rfl⟩) pa_nil)))) pss_nil)
      (pss_cons (ps_set (i := 2) scPt.nd rfl (.inl rfl) (C8.pe_c GW hr (by decide) (by rfl) (pa_cons (pe_fld (pv 0) rfl) (pa_cons (pv 1) pa_nil))))
      (pss_cons (ps_if (pt_cmpR op_ge (pv 2) pe_int (nomark _)) (pss_one (ps_ret (pe_lst (pa_cons (pe_glob rfl mP (v := .int (-6)) ⟨tP, rfl⟩) (pa_cons (pv 2) pa_nil))))) pss_nil)
      (pss_cons (ps_set (i := 3) scPt.nd rfl (.inl rfl) (C8.pe_c GC hr (by decide) (by rfl) (pa_cons (pe_fld (pv 0) rfl) (pa_cons (pv 1) pa_nil))))
      (pss_one (ps_ret (pe_op op_cat (pe_lst (pa_cons (pe_callB (cr_sumT rfl) (by rfl) T.sum (by decide +kernel) (pa_cons (pv 3) pa_nil)) pa_nil)) (pe_callTy call_list_of (by rfl) T.list (by decide +kernel) (pa_cons (pv 3) pa_nil)))))))), ?_⟩
    have g := O.g
    have a4 := g.a4
    have b4 := g.b4
    refine ⟨_, rfl, t, _, rfl, .inr (sqT ht), _, rfl, p, CH, dx, _, _, rfl, O.ob, C.cl, C.nB, fH_box ab lw, ab, x.a, x.b, x.c, rfl, O.bx, by omega, by omega, rfl, _, rfl, ?_⟩
    rw [vi_len, cells_mul]
    refine ite2 (fun e => ?_) (fun e => ?_)
    · have hne : s.length ≠ x.cells := fun z => by rw [z] at e; simp at e
      have es : Uw55.step x (.path s) = (x, Uw55.ok (-1)) := if_pos hne
      rw [es] at q
      refine ⟨(by show 1 ≤ sizeLine; decide), fun r nr => ?_⟩
      exact q.one O0 (Same.refl _) nr rfl
    · have heq : ¬ s.length ≠ x.cells := fun z => e (by
        rw [decide_eq_false (fun z2 => z (by have := V.int.inj z2; omega))]
        rfl)
      have es : Uw55.step x (.path s) = (x, match x.fault s with
        | some i => ⟨-6, [i]⟩
        | none => ⟨(Uw55.turns (x.chain s) : Nat), x.chain s⟩) := if_neg heq
      rw [es] at q
      refine ⟨_, rfl, p, CH, dx, _, _, rfl, O.ob, C.cl, C.nB, fH_box ab lw, _, rfl, ab, t, x, s, rfl, O.bx, g, sqT ht, hs, fun H1 s1 => ?_⟩
      have O1 := O.same s1
      refine ⟨_, rfl, _, _, rfl, rfl, _, rfl, ?_⟩
      unfold faultI
      cases ef : x.fault s with
      | some i =>
        rw [ef] at q
        rw [if_pos (decide_eq_true (show (0 : Int) ≤ ((i : Nat) : Int) by omega))]
        refine ⟨_, rfl, (by show 2 ≤ sizeLine; decide), fun r nr => ?_⟩
        exact q.one O0 s1 nr rfl
      | none =>
        rw [ef] at q
        rw [if_neg (by decide)]
        refine ⟨_, rfl, p, CH, dx, _, _, rfl, O1.ob, C.cl, C.nB, fH_box ab lw, _, rfl, ab, t, x, s, rfl, O1.bx, g, sqT (s1 _ _ ht), hs, fun H2 b s2 hb => ?_⟩
        refine ⟨_, rfl, b, toI (x.chain s), rfl, sqT (by rw [← vi_toI]; exact hb), (by show 1 ≤ sizeLine; decide), fun l nl => ?_⟩
        refine ⟨_, rfl, b, vi (x.chain s), rfl, .inr (sqT ((same_upd nl) _ _ hb)), fun l2 nl2 => ?_⟩
        have cl := chain_len x s
        refine ⟨l, l2, _, _, rfl, rfl, (same_upd nl2) _ _ upd_same, upd_same, ?_, fun r nr => ?_⟩
        · rw [vi_len, cl]
          exact Nat.le_trans (by show 1 + (s.length - 2) ≤ 1001; omega) (by decide)
        · refine q.one O0 (((s1.trans s2).trans (same_upd nl)).trans (same_upd nl2)) nr ?_
          show V.int _ :: vi _ = V.int _ :: ((x.chain s).map fun (n : Nat) => (n : Int)).map V.int
          rw [vi_toI]
          unfold toI
          rw [sum_cast, sum_turns _ (chain_01 x s)]
abbrev nIs : List Str := ["self", "chain", "number"]
theorem scIs : FnScope nIs ["self", "chain"] (C8.fnScope (mH 4)) := C8.fnScope_by (by decide +kernel)
theorem met_is (T : Blt mg) (C : HC K CH) (D : Mtd K CH "is_chain" "Holder.is_chain" (mH 4) ["self", "chain"]) (GM : C8.Cal P w K mg base 1 "how_many" (spMany K) []) : C8.Met P w K mg base 2 CH "is_chain" (spIs K CH CF) [] := by
  refine D.met scIs (fun vs H Q E h => ?_) (fun fa cdv A outer s H vs Q E hr h => ?_)
  · obtain ⟨p, t, lw, x, s, rfl, _⟩ := h
    rfl
  · obtain ⟨p, t, lw, x, s, rfl, O0, ht, hs, q⟩ := h
    obtain ⟨dx, ab, O⟩ := id O0
    refine ⟨_, pss_one (ps_ret (pe_and (pe_cmpR op_eq (pe_callB call_len_seq (by rfl) T.len PySem.boot_len (pa_cons (pv 1) pa_nil)) (pe_op op_sub (C8.pe_c GM hr (by decide) (by rfl) (pa_cons (pe_fld (pv 0) rfl) pa_nil)) pe_int) (nomark _))
        (pe_one (pe_callB (cr_all rfl) (by rfl) T.all (by decide +kernel) (pa_cons
          (pe_lc (own := [("number", 2)]) (g := gName 2) (tt := tYes) (te := tOp rLe0 (tVar 2) (tC (.int 1))) rfl scIs.nd (pi_tup (pv 1))
            (blkOk_by (N := nIs) (sc := C8.fnScope (mH 4)) (by decide +kernel))
            (fun _ _ _ _ _ => pg_name (i := 2) scIs.nd rfl (.inl rfl) (.inr rfl)) (fun _ _ _ _ _ => pts_nil)
            (fun _ _ _ _ _ => pe_cmpR op_le (pv 2) pe_int (nomark _))) pa_nil))))), ?_⟩
    have g := O.g
    have a4 := g.a4
    have b4 := g.b4
    have n2 := g.n2
    refine ⟨_, rfl, t, _, rfl, .inr (sqT ht), _, rfl, p, CH, dx, _, _, rfl, O.ob, C.cl, C.nB, fH_box ab lw, ab, x.a, x.b, x.c, rfl, O.bx, by omega, by omega, _, _, rfl, rfl, rfl, _, rfl, ?_⟩
    rw [vi_len, cells_mul]
    have ed : decide (V.int (s.length : Nat) = V.int ((x.cells : Int) - 2)) = (s.length == x.cells - 2) := by
      by_cases e : s.length = x.cells - 2
      · rw [e, decide_eq_true (by congr 1; omega)]; simp
      · rw [decide_eq_false (fun z => e (by have := V.int.inj z; omega)), beq_eq_false_iff_ne.mpr e]
    rw [ed]
    refine ite2 (fun e => ?_) (fun e => ?_)
    · refine ⟨_, rfl, t, rfl, ⟨_, sqT ht⟩, fun D nD => ?_⟩
      refine lc_gen (walk_tup (K := K) (xs := vi s)) RB (fun i => some (decide (s.getD i 0 ≤ 1))) nD (by rw [vi_len]; exact Nat.le_trans hs (by decide)) (fun H s => sqT (s _ _ ht)) RB.st (fun i v H3 H4 ys K1 K0 hi s3 hD y k1 k0 => ?_) (fun H3 ys s3 hD hpd => ?_)
      · obtain ⟨rfl, hv⟩ := y
        rw [vi_at hv]
        refine ⟨rfl, _, rfl, _, _, rfl, rfl, k1 _ _ _ (Same.refl _) (fun z => by cases z) rfl ?_⟩
        show V.bl _ = V.bl _
        congr 1
        exact decide_eq_decide.mpr (by omega)
      · rw [pairedB hpd] at hD
        refine ⟨D, _, rfl, sqL hD, ?_⟩
        have e2 : ((List.range (vi s).length).filterMap fun i => some (decide (s.getD i 0 ≤ 1))).all id = x.isChain s := by
          rw [vi_len, fm_at (F := fun z : Nat => some (decide (z ≤ 1)))]
          unfold Box.isChain
          rw [e, Bool.true_and, fm_pure (fun z : Nat => decide (z ≤ 1)), List.all_map]
          rfl
        rw [e2]
        exact q _ s3
    · have e2 : x.isChain s = false := by
        unfold Box.isChain
        rw [eq_false_of_ne_true e, Bool.false_and]
      have := q _ (Same.refl _)
      rw [e2] at this
      exact this
end
end CC
end
section
set_option Elab.async false
set_option linter.all false
set_option maxRecDepth 100000
set_option maxHeartbeats 4000000
namespace CC
open PySem PySem.Spec PyProof.Rows L2
open Uw55 (Box)
theorem ifY {c : Bool} {A B : Prop} (h : c = true) (a : A) : if c = true then A else B := by rw [if_pos h]; exact a
theorem ifN {c : Bool} {A B : Prop} (h : c = false) (b : B) : if c = true then A else B := by rw [if_neg (by rw [h]; decide)]; exact b
theorem encT_toI (s : List Nat) : encT s = .tuple ((toI s).map PyData.int) := by
  unfold encT toI
  rw [List.map_map]
  rfl
theorem dpTs {K : PySem.W.Frag} {H : Hp} : ∀ {ts : List Addr} {ss : List (List Nat)}, Tups H ts ss → DpAll K H (ts.map V.ref) (ss.map encT)
  | _, _, .nil => .nil
  | _, _, .cons (b := s) h r => by
    refine .cons ?_ (dpTs r)
    rw [encT_toI]
    exact .tup (sqT h) (dpV s)
theorem layTs : ∀ ss : List (List Nat), PyData.canLayAll0 (ss.map encT) = true
  | [] => by rw [List.map_nil, PyData.canLayAll0]
  | s :: ss => by rw [List.map_cons, PyData.canLayAll0, layTs ss, encT_toI, PyData.canLay0, layI]; rfl
theorem depTs : ∀ ss : List (List Nat), PyData.depthAll (ss.map encT) ≤ 10
  | [] => by rw [List.map_nil, PyData.depthAll]; omega
  | s :: ss => by
    have ih := depTs ss
    have := depI (toI s)
    rw [List.map_cons, PyData.depthAll, encT_toI, PyData.depth]
    omega
theorem shTs (ss : List (List Nat)) : SeqAt.shaped (.list (ss.map encT)) = true := by
  unfold SeqAt.shaped
  rw [PyData.canLay0, layTs, PyData.depth]
  have := depTs ss
  exact decide_eq_true (by omega)
theorem eqv_nil (ss : List (List Nat)) : PyData.eqv (.list (ss.map encT)) (.list []) = ss.isEmpty := by
  rw [PyData.eqv]
  cases ss with
  | nil => rw [List.map_nil, PyData.eqvAll]; rfl
  | cons s ss => rw [List.map_cons, PyData.eqvAll]; rfl
theorem sh0 : SeqAt.shaped (.list []) = true := shTs []
/-- found != [] -/
theorem ne_nil {K : PySem.W.Frag} {H : Hp} {l l0 : Addr} {ts : List Addr} {ss : List (List Nat)} (h : H l = some (.lst (ts.map V.ref))) (ht : Tups H ts ss) (h0 : H l0 = some (.lst [])) {Q : VK} (q : Q (.bl (!ss.isEmpty)) H) : rNeD K (.ref l) (.ref l0) H Q := by
  refine ⟨_, _, .lst (sqL h) (dpTs ht), .lst (sqL h0) .nil, shTs ss, sh0, ?_⟩
  rw [eqv_nil]
  exact q
def oI (n : Nat) (l : List Nat) : List Int := (n : Int) :: toI l
/-- folds(chain) -/
def spFs (K : PySem.W.Frag) (CH CF : Addr) : Sp := fun vs H Q _ => ∃ (p c lw : Addr) (x : Box) (s : List Nat), vs = [.ref p, .ref c] ∧ HoldAt K CH CF H p x lw ∧ TupAt H c s ∧ Aft K CH CF H p lw x (oI (x.folds s).length (x.ways s :: (x.folds s).headD [])) Q
def goesA (x : Box) (s p : List Nat) : Uw55.Ans := match x.fault p with
    | some i => ⟨-6, [i]⟩
    | none => let l := (x.folds s).filter fun q => q.take p.length == p
      ⟨(l.length : Nat), l.headD []⟩
/-- goes(chain, cells) -/
def spGo (K : PySem.W.Frag) (CH CF : Addr) : Sp := fun vs H Q _ => ∃ (p c d lw : Addr) (x : Box) (s t : List Nat), vs = [.ref p, .ref c, .ref d] ∧ HoldAt K CH CF H p x lw ∧ TupAt H c s ∧ TupAt H d t ∧ t.length ≤ 1000 ∧ Aft K CH CF H p lw x (Uw55Neutral.out (goesA x s t)) Q
theorem Tups.cons_inv {H : Hp} {ts : List Addr} {s : List Nat} {ss : List (List Nat)} (h : Tups H ts (s :: ss)) : ∃ t ts', ts = t :: ts' ∧ TupAt H t s ∧ Tups H ts' ss := by
  cases h with
  | cons a b => exact ⟨_, _, rfl, a, b⟩
theorem folds_item {x : Box} (g : Good x) {s t : List Nat} {ss : List (List Nat)} (h : x.folds s = t :: ss) : t.length = x.cells := by
  have : t ∈ x.folds s := by rw [h]; exact List.mem_cons_self ..
  exact ((mem_folds (Nat.le_trans (by decide) g.n2)).mp this).1
section
variable {P : Program} {w : World} {K : PySem.W.Frag} {mg : Str → Option Value} {base : Heap} {CH CF : Addr}
abbrev nFs : List Str := ["self", "chain", "found", "first"]
theorem scFs : FnScope nFs ["self", "chain"] (C8.fnScope (mH 5)) := C8.fnScope_by (by decide +kernel)
theorem met_fs (T : Blt mg) (C : HC K CH) (D : Mtd K CH "folds" "Holder.folds" (mH 5) ["self", "chain"]) (MFo : C8.Met P w K mg base 7 CH "foldings" (spFo K CH CF) []) (MO : C8.Met P w K mg base 1 CF "of_chain" (spOf CF) []) (MK : C8.Met P w K mg base 1 CF "many_kinds" (spKinds CF) []) : C8.Met P w K mg base 8 CH "folds" (spFs K CH CF) [] := by
  refine D.met scFs (fun vs H Q E h => ?_) (fun fa cdv A outer s H vs Q E hr h => ?_)
  · obtain ⟨p, c, lw, x, s, rfl, _⟩ := h
    rfl
  · obtain ⟨p, c, lw, x, s, rfl, O0, hc, q⟩ := h
    obtain ⟨dx, ab, O⟩ := id O0
    refine ⟨_, pss_cons (ps_set (i := 2) scFs.nd rfl (.inl rfl) (C8.pe_mt MO hr (by decide) (C8.pe_mt0 MFo hr (by decide) (pv 0)) (pa_cons (pv 1) pa_nil)))
      (pss_cons (ps_set (i := 3) scFs.nd rfl (.inl rfl) (pe_ifExp (pt_cmpR (op_neD hr.units) (pv 2) (pe_lst pa_nil) (nomark _)) (pe_callTy call_list_of (by rfl) T.list (by decide +kernel) (pa_cons (pe_ix ix_list (pv 2) pe_int (fun _ _ => rfl)) pa_nil)) (pe_lst pa_nil)))
      (pss_one (ps_ret (pe_op op_cat (pe_lst (pa_cons (pe_callB call_len_seq (by rfl) T.len PySem.boot_len (pa_cons (pv 2) pa_nil)) (pa_cons (C8.pe_mt MK hr (by decide) (C8.pe_mt0 MFo hr (by decide) (pv 0)) (pa_cons (pv 1) pa_nil)) pa_nil))) (pv 3))))), ?_⟩
    have g := O.g
    have n12 := g.n12
    refine ⟨_, rfl, p, dx, _, rfl, O.ob, fH_no ab lw (by decide +kernel) (by decide +kernel), p, lw, x, rfl, O0, fun H1 lw1 f b1 O1 hl1 hF => ?_⟩
    have q1 := q.on O1 b1 hl1
    obtain ⟨dx1, ab1, O1P⟩ := id O1
    have hc1 : TupAt H1 c s := b1 _ _ (ne_of hc O.ob (fun z => by cases z)) hc
    obtain ⟨dxf, dP, lC, dK, kvP, kvK, bs, F⟩ := id hF
    refine ⟨f, dxf, _, rfl, F.ob, fF_no dP lC dK (by decide +kernel) (by decide +kernel) (by decide +kernel), _, rfl, f, c, x, s, rfl, hF, hc1, fun H2 l ts s2 hl hts => ?_⟩
    have fin : ∀ (H3 : Hp) (r3 : Addr) (zs : List Nat), Same H2 H3 → H3 r3 = some (.lst (vi zs)) → zs = (x.folds s).headD [] → zs.length ≤ 12 → tRet (tOp rCat (tLst (tCons (tCB (fun xs H Q => ∃ p ys, xs = [.ref p] ∧ (SqL K H p ys ∨ SqT K H p ys) ∧ Q (.int ys.length) H) (tCons (tVar 2) tNil)) (tCons (tMeth CF "many_kinds" (spKinds CF) [] C8.E0 (tMeth CH "foldings" (spFo K CH CF) [] C8.E0 (tVar 0) tNil) (tCons (tVar 1) tNil)) tNil))) (tVar 3)) { nx := fun _ H' => Q .non H', rt := Q } [some (.ref p), some (.ref c), some (.ref l), some (.ref r3)] H3 := fun H3 r3 zs s3 h3 ez lz => by
      have q3 := q1.on (O1.same (s2.trans s3)) (sm_but (s2.trans s3)) (.inl rfl)
      have O3 := O1.same (s2.trans s3)
      have O3P := O1P.same (s2.trans s3)
      refine ⟨_, rfl, l, _, rfl, .inl (sqL (s3 _ _ hl)), _, rfl, p, dx1, _, rfl, O3P.ob, fH_no ab1 lw1 (by decide +kernel) (by decide +kernel), p, lw1, x, rfl, O3, fun H4 lw4 f4 b4 O4 hl4 hF4 => ?_⟩
      have q4 := q3.on O4 b4 hl4
      obtain ⟨dxf4, dP4, lC4, dK4, kvP4, kvK4, bs4, F4⟩ := id hF4
      have np : ∀ {a : Addr} {u : HO}, H3 a = some u → (∀ C dx fs, u ≠ .ins C dx fs) → H4 a = some u := fun {a u} e hu => b4 _ _ (fun z => by
        rw [z, O3P.ob] at e
        exact hu _ _ _ (Option.some.inj e).symm) e
      have hc4 : TupAt H4 c s := np (s3 _ _ (s2 _ _ hc1)) (fun _ _ _ z => by cases z)
      have h34 := np h3 (fun _ _ _ z => by cases z)
      refine ⟨f4, dxf4, _, rfl, F4.ob, fF_no dP4 lC4 dK4 (by decide +kernel) (by decide +kernel) (by decide +kernel), _, rfl, f4, c, x, s, rfl, hF4, hc4, ?_⟩
      refine ⟨(by show 2 ≤ sizeLine; decide), fun l5 n5 => ?_⟩
      refine ⟨_, rfl, l5, r3, _, _, rfl, rfl, upd_same, (same_upd n5) _ _ h34, ?_, fun r nr => ?_⟩
      · rw [vi_len]
        exact Nat.le_trans (by show 2 + zs.length ≤ 14; omega) (by decide)
      · refine q4.one O4 (same_upd n5) nr ?_
        rw [vi_toI, ez, List.length_map, Paired.length hts]
        rfl
    refine ⟨_, rfl, Nat.zero_le _, fun l0 n0 => ?_⟩
    have hl0 := (same_upd (o := .lst []) n0) _ _ hl
    refine ne_nil hl0 (hts.same (same_upd n0)) upd_same ⟨_, rfl, ?_⟩
    cases es : x.folds s with
    | nil =>
      refine ⟨Nat.zero_le _, fun r3 n3 => ?_⟩
      exact fin _ r3 [] ((same_upd n0).trans (same_upd n3)) upd_same (by rw [es]; rfl) (Nat.zero_le _)
    | cons t0 ss =>
      have hts2 := hts
      rw [es] at hts2
      obtain ⟨b0, ts', rfl, hb0, _⟩ := Tups.cons_inv hts2
      refine ⟨_, rfl, l, _, 0, _, rfl, rfl, sqL hl0, at_of (j := 0) rfl rfl, b0, _, rfl, .inr (sqT ((same_upd n0) _ _ hb0)), fun r3 n3 => ?_⟩
      exact fin _ r3 t0 ((same_upd n0).trans (same_upd n3)) upd_same (by rw [es]; rfl) (by rw [folds_item g es]; exact n12)
abbrev nGo : List Str := ["self", "chain", "cells", "wrong", "found"]
theorem scGo : FnScope nGo ["self", "chain", "cells"] (C8.fnScope (mH 6)) := C8.fnScope_by (by decide +kernel)
theorem met_go (T : Blt mg) (GL : Glo K mg) (C : HC K CH) (D : Mtd K CH "goes" "Holder.goes" (mH 6) ["self", "chain", "cells"]) (MFo : C8.Met P w K mg base 7 CH "foldings" (spFo K CH CF) []) (MW : C8.Met P w K mg base 2 CF "with_beginning" (spWith CF K) []) (GW : C8.Cal P w K mg base 3 "first_wrong" (spWrong K) []) : C8.Met P w K mg base 8 CH "goes" (spGo K CH CF) [] := by
  obtain ⟨tP, mP⟩ := GL.noPath
  refine D.met scGo (fun vs H Q E h => ?_) (fun fa cdv A outer s H vs Q E hr h => ?_)
  · obtain ⟨p, c, d, lw, x, s, t, rfl, _⟩ := h
    rfl
  · obtain ⟨p, c, d, lw, x, s, t, rfl, O0, hc, hd, ht, q⟩ := h
    obtain ⟨dx, ab, O⟩ := id O0
    refine ⟨_, pss_cons (ps_set (i := 3) scGo.nd rfl (.inl rfl) (C8.pe_c GW hr (by decide) (by rfl) (pa_cons (pe_fld (pv 0) rfl) (pa_cons (pv 2) pa_nil))))
      (pss_cons (ps_if (pt_cmpR op_ge (pv 3) pe_int (nomark _)) (pss_one (ps_ret (pe_lst (pa_cons (pe_glob rfl mP (v := .int (-6)) ⟨tP, rfl⟩) (pa_cons (pv 3) pa_nil))))) pss_nil)
      (pss_cons (ps_set (i := 4) scGo.nd rfl (.inl rfl) (C8.pe_mt MW hr (by decide) (C8.pe_mt0 MFo hr (by decide) (pv 0)) (pa_cons (pv 1) (pa_cons (pv 2) pa_nil))))
      (pss_one (ps_ret (pe_op op_cat (pe_lst (pa_cons (pe_callB call_len_seq (by rfl) T.len PySem.boot_len (pa_cons (pv 4) pa_nil)) pa_nil))
        (pe_ifExp (pt_cmpR (op_neD hr.units) (pv 4) (pe_lst pa_nil) (nomark _)) (pe_callTy call_list_of (by rfl) T.list (by decide +kernel) (pa_cons (pe_ix ix_list (pv 4) pe_int (fun _ _ => rfl)) pa_nil)) (pe_lst pa_nil))))))), ?_⟩
    have g := O.g
    have n12 := g.n12
    refine ⟨_, rfl, p, CH, dx, _, _, rfl, O.ob, C.cl, C.nB, fH_box ab lw, _, rfl, ab, d, x, t, rfl, O.bx, g, sqT hd, ht, fun H1 s1 => ?_⟩
    refine ⟨_, rfl, _, _, rfl, rfl, _, rfl, ?_⟩
    unfold faultI
    unfold goesA at q
    cases ef : x.fault t with
    | some i =>
      rw [ef] at q
      rw [if_pos (decide_eq_true (show (0 : Int) ≤ ((i : Nat) : Int) by omega))]
      refine ⟨_, rfl, (by show 2 ≤ sizeLine; decide), fun r nr => ?_⟩
      exact q.one O0 s1 nr rfl
    | none =>
      rw [ef] at q
      rw [if_neg (by decide)]
      have q1 := q.on (O0.same s1) (sm_but s1) (.inl rfl)
      have O1 := O.same s1
      refine ⟨_, rfl, p, dx, _, rfl, O1.ob, fH_no ab lw (by decide +kernel) (by decide +kernel), p, lw, x, rfl, O0.same s1, fun H2 lw2 f b2 O2 hl2 hF => ?_⟩
      have q2 := q1.on O2 b2 hl2
      have hc2 : TupAt H2 c s := b2 _ _ (ne_of (s1 _ _ hc) O1.ob (fun z => by cases z)) (s1 _ _ hc)
      have hd2 : TupAt H2 d t := b2 _ _ (ne_of (s1 _ _ hd) O1.ob (fun z => by cases z)) (s1 _ _ hd)
      obtain ⟨dxf, dP, lC, dK, kvP, kvK, bs, F⟩ := id hF
      refine ⟨f, dxf, _, rfl, F.ob, fF_no dP lC dK (by decide +kernel) (by decide +kernel) (by decide +kernel), _, rfl, _, rfl, f, c, d, x, s, t, rfl, hF, g, hc2, sqT hd2, ht, fun H3 l ts s3 hl hts => ?_⟩
      refine ⟨_, rfl, l, _, rfl, .inl (sqL hl), (by show 1 ≤ sizeLine; decide), fun l1 n1 => ?_⟩
      refine ⟨_, rfl, Nat.zero_le _, fun l0 n0 => ?_⟩
      have s4 := (same_upd (o := .lst [V.int ((ts.map V.ref).length : Nat)]) n1).trans (same_upd (o := .lst []) n0)
      have hl4 := s4 _ _ hl
      have h1 := (same_upd (o := .lst []) n0) _ _ (upd_same (H := H3) (a := l1) (o := .lst [V.int ((ts.map V.ref).length : Nat)]))
      refine ne_nil hl4 (hts.same s4) upd_same ⟨_, rfl, ?_⟩
      cases es : (x.folds s).filter fun q => q.take t.length == t with
      | nil =>
        rw [es] at q2 hts
        refine ⟨Nat.zero_le _, fun r3 n3 => ?_⟩
        refine ⟨l1, r3, _, _, rfl, rfl, (same_upd n3) _ _ h1, upd_same, (by show 1 ≤ sizeLine; decide), fun r nr => ?_⟩
        refine q2.one O2 ((s3.trans s4).trans (same_upd n3)) nr ?_
        rw [List.length_map, Paired.length hts]
        rfl
      | cons t0 ss =>
        rw [es] at q2 hts
        obtain ⟨b0, ts', rfl, hb0, _⟩ := Tups.cons_inv hts
        have lt0 : t0.length = x.cells := by
          have hm : t0 ∈ (x.folds s).filter fun q => q.take t.length == t := by rw [es]; exact List.mem_cons_self ..
          exact ((mem_folds (Nat.le_trans (by decide) g.n2)).mp (List.mem_filter.mp hm).1).1
        refine ⟨_, rfl, l, _, 0, _, rfl, rfl, sqL hl4, at_of (j := 0) rfl rfl, b0, _, rfl, .inr (sqT (s4 _ _ hb0)), fun r3 n3 => ?_⟩
        refine ⟨l1, r3, _, _, rfl, rfl, (same_upd n3) _ _ h1, upd_same, ?_, fun r nr => ?_⟩
        · rw [vi_len]
          exact Nat.le_trans (by show 1 + t0.length ≤ 13; omega) (by decide)
        · refine q2.one O2 ((s3.trans s4).trans (same_upd n3)) nr ?_
          rw [vi_toI, List.length_map, Paired.length hts]
          rfl
end
end CC
end
section
set_option Elab.async false
set_option linter.all false
set_option maxRecDepth 100000
set_option maxHeartbeats 4000000
namespace CC
open PySem PySem.Spec PyProof.Rows L2
open Uw55 (Box)
def ofCall (k : Nat) (s t : List Nat) : Uw55.Call := if k = 2 then .folds s else if k = 3 then .from_ s else if k = 4 then .goes s t else .nearest s
/-- of_chain(call, chain, cells) -/
def spOc (K : PySem.W.Frag) (CH CF : Addr) : Sp := fun vs H Q _ => ∃ (p c d lw : Addr) (x : Box) (k : Nat) (s t : List Nat), vs = [.ref p, .int (k : Nat), .ref c, .ref d] ∧ HoldAt K CH CF H p x lw ∧ TupAt H c s ∧ s.length ≤ 1000 ∧ TupAt H d t ∧ t.length ≤ 1000 ∧ Aft K CH CF H p lw x (Uw55Neutral.out (Uw55.step x (ofCall k s t)).2) Q
def spOn (K : PySem.W.Frag) (CH CF : Addr) : Sp := fun vs H Q _ => ∃ (p lw : Addr) (x : Box), vs = [.ref p] ∧ HoldAt K CH CF H p x lw ∧ Aft K CH CF H p lw x (Uw55Neutral.out (Uw55.step x .only).2) Q
theorem eqK (k m : Nat) : decide (V.int ((k : Nat) : Int) = V.int ((m : Nat) : Int)) = decide (k = m) := by
  by_cases e : k = m
  · rw [e]; simp
  · rw [decide_eq_false e]
    exact decide_eq_false fun z => e (by have := V.int.inj z; omega)
section
variable {P : Program} {w : World} {K : PySem.W.Frag} {mg : Str → Option Value} {base : Heap} {CH CF : Addr}
abbrev nOc : List Str := ["self", "call", "chain", "cells", "found", "far", "many", "first"]
theorem scOc : FnScope nOc ["self", "call", "chain", "cells"] (C8.fnScope (mH 7)) := C8.fnScope_by (by decide +kernel)
theorem met_oc (T : Blt mg) (GL : Glo K mg) (C : HC K CH) (D : Mtd K CH "of_chain" "Holder.of_chain" (mH 7) ["self", "call", "chain", "cells"]) (MFo : C8.Met P w K mg base 7 CH "foldings" (spFo K CH CF) []) (MI : C8.Met P w K mg base 2 CH "is_chain" (spIs K CH CF) []) (MFs : C8.Met P w K mg base 8 CH "folds" (spFs K CH CF) [])
    (MB : C8.Met P w K mg base 2 CF "begin_cells" (spBegin CF) []) (MG : C8.Met P w K mg base 8 CH "goes" (spGo K CH CF) []) (MN : C8.Met P w K mg base 2 CF "nearest" (spNear CF) []) : C8.Met P w K mg base 9 CH "of_chain" (spOc K CH CF) [] := by
  obtain ⟨tC, mC⟩ := GL.noChain
  refine D.met scOc (fun vs H Q E h => ?_) (fun fa cdv A outer s H vs Q E hr h => ?_)
  · obtain ⟨p, c, d, lw, x, k, s, t, rfl, _⟩ := h
    rfl
  · obtain ⟨p, c, d, lw, x, k, s, t, rfl, O0, hc, hs, hd, ht, q⟩ := h
    obtain ⟨dx, ab, O⟩ := id O0
    refine ⟨_, pss_cons (ps_if (pt_not (pt_val (C8.pe_mt MI hr (by decide) (pv 0) (pa_cons (pv 2) pa_nil)))) (pss_one (ps_ret (pe_lst (pa_cons (pe_glob rfl mC (v := .int (-2)) ⟨tC, rfl⟩) pa_nil)))) pss_nil)
      (pss_cons (ps_if (pt_cmpR op_eq (pv 1) pe_int (nomark _)) (pss_one (ps_ret (C8.pe_mt MFs hr (by decide) (pv 0) (pa_cons (pv 2) pa_nil)))) pss_nil)
      (pss_cons (ps_if (pt_cmpR op_eq (pv 1) pe_int (nomark _))
        (pss_cons (ps_set (i := 4) scOc.nd rfl (.inl rfl) (C8.pe_mt MB hr (by decide) (C8.pe_mt0 MFo hr (by decide) (pv 0)) (pa_cons (pv 2) pa_nil)))
          (pss_one (ps_ret (pe_op op_cat (pe_lst (pa_cons (pe_callB call_len_seq (by rfl) T.len PySem.boot_len (pa_cons (pv 4) pa_nil)) pa_nil)) (pv 4))))) pss_nil)
      (pss_cons (ps_if (pt_cmpR op_eq (pv 1) pe_int (nomark _)) (pss_one (ps_ret (C8.pe_mt MG hr (by decide) (pv 0) (pa_cons (pv 2) (pa_cons (pv 3) pa_nil))))) pss_nil)
      (pss_cons (ps_asg (C8.pe_mt MN hr (by decide) (C8.pe_mt0 MFo hr (by decide) (pv 0)) (pa_cons (pv 2) pa_nil)) (pg_tup rfl (pgs_cons (pg_name (i := 5) scOc.nd rfl (.inl rfl)) (pgs_cons (pg_name (i := 6) scOc.nd rfl (.inl rfl)) (pgs_cons (pg_name (i := 7) scOc.nd rfl (.inl rfl)) pgs_nil)))))
      (pss_one (ps_ret (pe_op op_cat (pe_lst (pa_cons (pv 5) (pa_cons (pv 6) pa_nil))) (pe_callTy call_list_of (by rfl) T.list (by decide +kernel) (pa_cons (pv 7) pa_nil))))))))), ?_⟩
    have g := O.g
    have n12 := g.n12
    have st1 : ∀ a : Uw55.Ans, x.isChain s = true → x.with_ s a = a := fun a h => if_pos h
    have st0 : ∀ a : Uw55.Ans, x.isChain s = false → x.with_ s a = Uw55.ok (-2) := fun a h => if_neg (by rw [h]; decide)
    refine ⟨_, rfl, p, dx, _, rfl, O.ob, fH_no ab lw (by decide +kernel) (by decide +kernel), _, rfl, p, c, lw, x, s, rfl, O0, hc, hs, fun H1 s1 => ⟨_, rfl, ?_⟩⟩
    have q1 := q.on (O0.same s1) (sm_but s1) (.inl rfl)
    have O1 := O.same s1
    have O10 := O0.same s1
    have hc1 := s1 _ _ hc
    have hd1 := s1 _ _ hd
    cases ei : x.isChain s with
    | false =>
      refine ⟨(by show 1 ≤ sizeLine; decide), fun r nr => ?_⟩
      have eo : (Uw55.step x (ofCall k s t)).2 = Uw55.ok (-2) := by
        unfold ofCall
        split
        · exact st0 _ ei
        · split
          · exact st0 _ ei
          · split
            · exact st0 _ ei
            · exact st0 _ ei
      rw [eo] at q1
      exact q1.one O10 (Same.refl _) nr rfl
    | true =>
      have hsl : s.length = x.cells - 2 := by
        unfold Box.isChain at ei
        rw [Bool.and_eq_true] at ei
        exact eq_of_beq ei.1
      refine ⟨_, rfl, rfl, _, rfl, ?_⟩
      refine ite2 (fun e => ?_) (fun e => ?_)
      · have ek : k = 2 := by
          have := V.int.inj (of_decide_eq_true e)
          omega
        have eo : (Uw55.step x (ofCall k s t)).2 = ⟨((x.folds s).length : Nat), x.ways s :: (x.folds s).headD []⟩ := by
          rw [ek]
          exact st1 _ ei
        rw [eo] at q1
        exact ⟨_, rfl, p, dx, _, rfl, O1.ob, fH_no ab lw (by decide +kernel) (by decide +kernel), _, rfl, p, c, lw, x, s, rfl, O10, hc1, q1⟩
      · have k2 : k ≠ 2 := fun z => e (by rw [z]; rfl)
        refine ⟨_, rfl, rfl, _, rfl, ?_⟩
        refine ite2 (fun e => ?_) (fun e => ?_)
        · have ek : k = 3 := by
            have := V.int.inj (of_decide_eq_true e)
            omega
          have eo : (Uw55.step x (ofCall k s t)).2 = ⟨((begN x s).length : Nat), begN x s⟩ := by
            rw [ek]
            exact st1 _ ei
          rw [eo] at q1
          refine ⟨_, rfl, p, dx, _, rfl, O1.ob, fH_no ab lw (by decide +kernel) (by decide +kernel), p, lw, x, rfl, O10, fun H2 lw2 f b2 O2 hl2 hF => ?_⟩
          have q2 := q1.on O2 b2 hl2
          have hc2 : TupAt H2 c s := b2 _ _ (ne_of hc1 O1.ob (fun z => by cases z)) hc1
          obtain ⟨dxf, dP, lC, dK, kvP, kvK, bs, F⟩ := id hF
          refine ⟨f, dxf, _, rfl, F.ob, fF_no dP lC dK (by decide +kernel) (by decide +kernel) (by decide +kernel), _, rfl, f, c, x, s, rfl, hF, g, hc2, fun H3 l s3 hl => ?_⟩
          refine ⟨_, rfl, l, _, rfl, .inl (sqL hl), (by show 1 ≤ sizeLine; decide), fun l1 n1 => ?_⟩
          refine ⟨_, rfl, l1, l, _, _, rfl, rfl, upd_same, (same_upd n1) _ _ hl, ?_, fun r nr => ?_⟩
          · rw [vi_len]
            have : (begN x s).length ≤ x.cells := by
              unfold begN
              exact Nat.le_trans (List.length_filter_le _ _) (by rw [List.length_range]; exact Nat.le_refl _)
            exact Nat.le_trans (by show 1 + (begN x s).length ≤ 13; omega) (by decide)
          · refine q2.one O2 (s3.trans (same_upd n1)) nr ?_
            rw [vi_len, vi_toI]
            rfl
        · have k3 : k ≠ 3 := fun z => e (by rw [z]; rfl)
          refine ⟨_, rfl, rfl, _, rfl, ?_⟩
          refine ite2 (fun e => ?_) (fun e => ?_)
          · have ek : k = 4 := by
              have := V.int.inj (of_decide_eq_true e)
              omega
            have eo : (Uw55.step x (ofCall k s t)).2 = goesA x s t := by
              rw [ek]
              exact st1 _ ei
            rw [eo] at q1
            exact ⟨_, rfl, p, dx, _, rfl, O1.ob, fH_no ab lw (by decide +kernel) (by decide +kernel), _, rfl, _, rfl, p, c, d, lw, x, s, t, rfl, O10, hc1, hd1, ht, q1⟩
          · have k4 : k ≠ 4 := fun z => e (by rw [z]; rfl)
            have eo : (Uw55.step x (ofCall k s t)).2 = (match x.nearest s with
              | some n => ⟨(n.changes : Nat), n.many :: n.chain⟩
              | none => Uw55.ok (-11)) := by
              have : ofCall k s t = .nearest s := by
                unfold ofCall
                rw [if_neg k2, if_neg k3, if_neg k4]
              rw [this]
              exact st1 _ ei
            rw [eo] at q1
            refine ⟨_, rfl, p, dx, _, rfl, O1.ob, fH_no ab lw (by decide +kernel) (by decide +kernel), p, lw, x, rfl, O10, fun H2 lw2 f b2 O2 hl2 hF => ?_⟩
            have q2 := q1.on O2 b2 hl2
            have hc2 : TupAt H2 c s := b2 _ _ (ne_of hc1 O1.ob (fun z => by cases z)) hc1
            obtain ⟨dxf, dP, lC, dK, kvP, kvK, bs, F⟩ := id hF
            refine ⟨f, dxf, _, rfl, F.ob, fF_no dP lC dK (by decide +kernel) (by decide +kernel) (by decide +kernel), _, rfl, f, c, x, s, rfl, hF, g, hc2, hsl, fun H3 r b n s3 hn hr3 hb => ?_⟩
            rw [hn] at q2
            have hln : n.chain.length ≤ 12 := by
              obtain ⟨n', hn', IN⟩ := near_spec x s (chains_ne g)
              rw [hn] at hn'
              cases hn'
              have := chains_len g IN.mem
              omega
            refine ⟨r, _, rfl, sqT hr3, rfl, _, _, rfl, _, _, rfl, _, _, rfl, rfl, ?_⟩
            refine ⟨_, rfl, _, rfl, (by show 2 ≤ sizeLine; decide), fun l1 n1 => ?_⟩
            refine ⟨_, rfl, b, _, rfl, .inr (sqT ((same_upd n1) _ _ hb)), fun l2 n2 => ?_⟩
            refine ⟨l1, l2, _, _, rfl, rfl, (same_upd n2) _ _ upd_same, upd_same, ?_, fun r nr => ?_⟩
            · rw [vi_len]
              exact Nat.le_trans (by show 2 + n.chain.length ≤ 14; omega) (by decide)
            · refine q2.one O2 ((s3.trans (same_upd n1)).trans (same_upd n2)) nr ?_
              rw [vi_toI]
              rfl
abbrev nOn : List Str := ["self", "found"]
theorem scOn : FnScope nOn ["self"] (C8.fnScope (mH 8)) := C8.fnScope_by (by decide +kernel)
theorem met_on (T : Blt mg) (C : HC K CH) (CFc : FC K CF) (D : Mtd K CH "only" "Holder.only" (mH 8) ["self"]) (MFo : C8.Met P w K mg base 7 CH "foldings" (spFo K CH CF) []) (MP : C8.Met P w K mg base 1 CF "many_paths" (spMP CF) []) (MS : C8.Met P w K mg base 1 CF "many_single" (spMS CF) []) : C8.Met P w K mg base 8 CH "only" (spOn K CH CF) [] := by
  refine D.met scOn (fun vs H Q E h => ?_) (fun fa cdv A outer s H vs Q E hr h => ?_)
  · obtain ⟨p, lw, x, rfl, _⟩ := h
    rfl
  · obtain ⟨p, lw, x, rfl, O0, q⟩ := h
    obtain ⟨dx, ab, O⟩ := id O0
    refine ⟨_, pss_cons (ps_set (i := 1) scOn.nd rfl (.inl rfl) (C8.pe_mt0 MFo hr (by decide) (pv 0)))
      (pss_one (ps_ret (pe_lst (pa_cons (pe_callB call_len_seq (by rfl) T.len PySem.boot_len (pa_cons (pe_fld (pv 1) rfl) pa_nil)) (pa_cons (C8.pe_mt0 MP hr (by decide) (pv 1)) (pa_cons (C8.pe_mt0 MS hr (by decide) (pv 1)) pa_nil)))))), ?_⟩
    have g := O.g
    refine ⟨_, rfl, p, dx, _, rfl, O.ob, fH_no ab lw (by decide +kernel) (by decide +kernel), p, lw, x, rfl, O0, fun H1 lw1 f b1 O1 hl1 hF => ?_⟩
    have q1 := q.on O1 b1 hl1
    obtain ⟨dxf, dP, lC, dK, kvP, kvK, bs, F⟩ := id hF
    refine ⟨_, rfl, f, CF, dxf, _, _, rfl, F.ob, CFc.cl, CFc.nC, fF_chains dP lC dK, lC, _, rfl, .inl (sqL F.lC), ?_⟩
    refine ⟨_, rfl, f, dxf, _, rfl, F.ob, fF_no dP lC dK (by decide +kernel) (by decide +kernel) (by decide +kernel), f, x, rfl, hF, g, fun H2 s2 => ?_⟩
    have F2 := F.same s2
    refine ⟨_, rfl, f, dxf, _, rfl, F2.ob, fF_no dP lC dK (by decide +kernel) (by decide +kernel) (by decide +kernel), f, x, rfl, hF.same s2, g, fun H3 s3 => ?_⟩
    refine ⟨(by show 3 ≤ sizeLine; decide), fun r nr => ?_⟩
    refine q1.one O1 (s2.trans s3) nr ?_
    rw [List.length_map, Paired.length F.ch]
    rfl
end
end CC
end
section
set_option Elab.async false
set_option linter.all false
set_option maxRecDepth 100000
set_option maxHeartbeats 4000000
namespace CC
open PySem PySem.Spec PyProof.Rows L2
open Uw55 (Box)
/-- a call by its number, its numbers, its rows -/
inductive Enc : Nat → List Nat → List (List Nat) → Uw55.Call → Prop
  | begins (a b c : Nat) : Enc 0 [a, b, c] [] (.begins a b c)
  | path (s : List Nat) : Enc 1 [] [s] (.path s)
  | folds (s : List Nat) : Enc 2 [] [s] (.folds s)
  | from_ (s : List Nat) : Enc 3 [] [s] (.from_ s)
  | goes (s t : List Nat) : Enc 4 [] [s, t] (.goes s t)
  | nearest (s : List Nat) : Enc 5 [] [s] (.nearest s)
  | only : Enc 6 [] [] .only
  | turns : Enc 7 [] [] .turns
/-- answer(call, n, rows) -/
def spAw (K : PySem.W.Frag) (CH CF : Addr) : Sp := fun vs H Q _ => ∃ (p n l lw : Addr) (x : Box) (k : Nat) (ns : List Nat) (ts : List Addr) (rs : List (List Nat)) (c : Uw55.Call), vs = [.ref p, .int (k : Nat), .ref n, .ref l] ∧ HoldAt K CH CF H p x lw ∧ H n = some (.lst (vi ns)) ∧ H l = some (.lst (ts.map V.ref)) ∧ Tups H ts rs ∧ (∀ r ∈ rs, r.length ≤ 1000) ∧ Enc k ns rs c ∧
  Aft K CH CF H p lw (Uw55.step x c).1 (Uw55Neutral.out (Uw55.step x c).2) Q
theorem told_out {x : Box} (g : Good x) : (toldN x).map (fun n : Nat => (n : Int)) = Uw55Neutral.out (Uw55.step x .turns).2 := by
  unfold toldN Uw55.step
  cases e : x.chains.map Uw55.turns with
  | nil => exact absurd (List.map_eq_nil_iff.mp e) (chains_ne g)
  | cons t r => rfl
section
variable {P : Program} {w : World} {K : PySem.W.Frag} {mg : Str → Option Value} {base : Heap} {CH CF : Addr}
abbrev nAw : List Str := ["self", "call", "n", "rows"]
theorem scAw : FnScope nAw ["self", "call", "n", "rows"] (C8.fnScope (mH 9)) := C8.fnScope_by (by decide +kernel)
theorem met_aw (C : HC K CH) (D : Mtd K CH "answer" "Holder.answer" (mH 9) ["self", "call", "n", "rows"]) (MFo : C8.Met P w K mg base 7 CH "foldings" (spFo K CH CF) []) (MB : C8.Met P w K mg base 2 CH "begins" (spBegs K CH CF) []) (MP : C8.Met P w K mg base 4 CH "path" (spPa K CH CF) [])
    (MO : C8.Met P w K mg base 8 CH "only" (spOn K CH CF) []) (MT : C8.Met P w K mg base 1 CF "told_turns" (spTold CF) []) (MC : C8.Met P w K mg base 9 CH "of_chain" (spOc K CH CF) []) : C8.Met P w K mg base 10 CH "answer" (spAw K CH CF) [] := by
  refine D.met scAw (fun vs H Q E h => ?_) (fun fa cdv A outer s H vs Q E hr h => ?_)
  · obtain ⟨p, n, l, lw, x, k, ns, ts, rs, c, rfl, _⟩ := h
    rfl
  · obtain ⟨p, n, l, lw, x, k, ns, ts, rs, c, rfl, O0, hn, hl, hts, hrs, en, q⟩ := h
    obtain ⟨dx, ab, O⟩ := id O0
    refine ⟨_, pss_cons (ps_if (pt_cmpR op_eq (pv 1) pe_int (nomark _)) (pss_one (ps_ret (C8.pe_mt MB hr (by decide) (pv 0) (pa_cons (pe_tup (pa_cons (pe_ix ix_list (pv 2) pe_int (fun _ _ => rfl)) (pa_cons (pe_ix ix_list (pv 2) pe_int (fun _ _ => rfl)) (pa_cons (pe_ix ix_list (pv 2) pe_int (fun _ _ => rfl)) pa_nil)))) pa_nil)))) pss_nil)
      (pss_cons (ps_if (pt_cmpR op_eq (pv 1) pe_int (nomark _)) (pss_one (ps_ret (C8.pe_mt MP hr (by decide) (pv 0) (pa_cons (pe_ix ix_list (pv 3) pe_int (fun _ _ => rfl)) pa_nil)))) pss_nil)
      (pss_cons (ps_if (pt_cmpR op_eq (pv 1) pe_int (nomark _)) (pss_one (ps_ret (C8.pe_mt0 MO hr (by decide) (pv 0)))) pss_nil)
      (pss_cons (ps_if (pt_cmpR op_eq (pv 1) pe_int (nomark _)) (pss_one (ps_ret (C8.pe_mt0 MT hr (by decide) (C8.pe_mt0 MFo hr (by decide) (pv 0))))) pss_nil)
      (pss_one (ps_ret (C8.pe_mt MC hr (by decide) (pv 0) (pa_cons (pv 1) (pa_cons (pe_ix ix_list (pv 3) pe_int (fun _ _ => rfl)) (pa_cons (pe_ix ix_list (pe_op op_cat (pv 3) (pe_lst (pa_cons (pe_tup pa_nil) pa_nil))) pe_int (fun _ _ => rfl)) pa_nil))))))))), ?_⟩
    refine ⟨_, rfl, rfl, _, rfl, ?_⟩
    have oc : ∀ (k : Nat) (s t : List Nat) (rest : List (List Nat)), 2 ≤ k → k ≤ 5 → (rs = [s] ∧ t = [] ∨ rs = [s, t]) → Aft K CH CF H p lw x (Uw55Neutral.out (Uw55.step x (ofCall k s t)).2) Q →
        tMeth CH "of_chain" (spOc K CH CF) [] C8.E0 (tVar 0) (tCons (tVar 1) (tCons (tOp (rIxL K) (tVar 3) (tC (.int 0))) (tCons (tOp (rIxL K) (tOp rCat (tVar 3) (tLst (tCons (tTup tNil) tNil))) (tC (.int 1))) tNil))) [some (.ref p), some (.int ((k : Nat) : Int)), some (.ref n), some (.ref l)] H Q := fun k s t rest h2 h5 hr2 q => by
      obtain ⟨b, ts', et, hb⟩ : ∃ b ts', ts = b :: ts' ∧ TupAt H b s := by
        rcases hr2 with ⟨e, _⟩ | e
        · rw [e] at hts
          obtain ⟨b, ts', e1, e2, _⟩ := Tups.cons_inv hts
          exact ⟨b, ts', e1, e2⟩
        · rw [e] at hts
          obtain ⟨b, ts', e1, e2, _⟩ := Tups.cons_inv hts
          exact ⟨b, ts', e1, e2⟩
      have hsl : s.length ≤ 1000 := by
        rcases hr2 with ⟨e, _⟩ | e
        · exact hrs s (by rw [e]; simp)
        · exact hrs s (by rw [e]; simp)
      have lts : ts.length ≤ 2 := by
        rw [Paired.length hts]
        rcases hr2 with ⟨e, _⟩ | e
        · rw [e]; exact Nat.le_succ 1
        · rw [e]; exact Nat.le_refl 2
      refine ⟨_, rfl, p, dx, _, rfl, O.ob, fH_no ab lw (by decide +kernel) (by decide +kernel), _, rfl, _, rfl, l, _, 0, _, rfl, rfl, sqL hl, at_of (j := 0) rfl (by rw [et]; rfl), _, rfl, Nat.zero_le _, fun e ne => ⟨(by show 1 ≤ sizeLine; decide), fun l1 n1 => ?_⟩⟩
      have s2 := (same_upd (o := .tup []) ne).trans (same_upd (o := .lst [V.ref e]) n1)
      refine ⟨l, l1, _, _, rfl, rfl, s2 _ _ hl, upd_same, ?_, fun l2 n2 => ?_⟩
      · rw [List.length_map]
        exact Nat.le_trans (by show ts.length + 1 ≤ 3; omega) (by decide)
      · have s3 := s2.trans (same_upd (o := .lst (ts.map V.ref ++ [V.ref e])) n2)
        have he : TupAt (upd (upd (upd H e (.tup [])) l1 (.lst [V.ref e])) l2 (.lst (ts.map V.ref ++ [V.ref e]))) e [] := (same_upd n2) _ _ ((same_upd n1) _ _ upd_same)
        have q3 := q.on (O0.same s3) (sm_but s3) (.inl rfl)
        rcases hr2 with ⟨er, et2⟩ | er
        · rw [er] at hts
          obtain ⟨b', ts2, e1, e2, e3⟩ := Tups.cons_inv hts
          cases e3
          subst e1
          subst et2
          exact ⟨l2, _, 1, _, rfl, rfl, sqL upd_same, at_of (j := 1) rfl rfl, p, b, e, lw, x, k, s, [], rfl, O0.same s3, s3 _ _ hb, hsl, he, Nat.zero_le _, q3⟩
        · rw [er] at hts
          obtain ⟨b', ts2, e1, e2, e3⟩ := Tups.cons_inv hts
          obtain ⟨b2, ts3, e4, e5, e6⟩ := Tups.cons_inv e3
          subst e4
          subst e1
          exact ⟨l2, _, 1, _, rfl, rfl, sqL upd_same, at_of (j := 1) rfl rfl, p, b, b2, lw, x, k, s, t, rfl, O0.same s3, s3 _ _ hb, hsl, s3 _ _ e5, hrs t (by rw [er]; simp), q3⟩
    cases en with
    | begins a b c =>
      refine ifY (by decide) ?_
      refine ⟨_, rfl, p, dx, _, rfl, O.ob, fH_no ab lw (by decide +kernel) (by decide +kernel), _, rfl, n, _, 0, _, rfl, rfl, sqL hn, at_of (j := 0) rfl rfl, _, rfl, n, _, 1, _, rfl, rfl, sqL hn, at_of (j := 1) rfl rfl, _, rfl, n, _, 2, _, rfl, rfl, sqL hn, at_of (j := 2) rfl rfl, (by show 3 ≤ sizeLine; decide), fun t nt => ?_⟩
      have s1 := same_upd (o := .tup [V.int (a : Nat), V.int (b : Nat), V.int (c : Nat)]) nt
      refine ⟨p, t, lw, x, a, b, c, rfl, O0.same s1, upd_same, fun H' lw' r b' O' hl' hr' he' => ?_⟩
      refine q H' lw' r ((sm_but s1).trans b') O' ?_ (none_same s1 hr') he'
      rcases hl' with h | h
      · exact .inl h
      · exact .inr (none_same s1 h)
    | path s =>
      refine ifN (by decide) ⟨_, rfl, rfl, _, rfl, ifY (by decide) ?_⟩
      obtain ⟨b, ts', rfl, hb, _⟩ := Tups.cons_inv hts
      have e1 : (Uw55.step x (.path s)).1 = x := by
        show (if _ then _ else _ : Box × Uw55.Ans).1 = x
        split <;> rfl
      rw [e1] at q
      exact ⟨_, rfl, p, dx, _, rfl, O.ob, fH_no ab lw (by decide +kernel) (by decide +kernel), _, rfl, l, _, 0, _, rfl, rfl, sqL hl, at_of (j := 0) rfl rfl, p, b, lw, x, s, rfl, O0, hb, hrs s (by simp), q⟩
    | only =>
      refine ifN (by decide) ⟨_, rfl, rfl, _, rfl, ifN (by decide) ⟨_, rfl, rfl, _, rfl, ifY (by decide) ?_⟩⟩
      exact ⟨_, rfl, p, dx, _, rfl, O.ob, fH_no ab lw (by decide +kernel) (by decide +kernel), p, lw, x, rfl, O0, q⟩
    | turns =>
      refine ifN (by decide) ⟨_, rfl, rfl, _, rfl, ifN (by decide) ⟨_, rfl, rfl, _, rfl, ifN (by decide) ⟨_, rfl, rfl, _, rfl, ifY (by decide) ?_⟩⟩⟩
      refine ⟨_, rfl, p, dx, _, rfl, O.ob, fH_no ab lw (by decide +kernel) (by decide +kernel), p, lw, x, rfl, O0, fun H1 lw1 f b1 O1 hl1 hF => ?_⟩
      obtain ⟨dxf, dP, lC, dK, kvP, kvK, bs, F⟩ := id hF
      have q1 : Aft K CH CF H1 p lw1 x _ Q := q.on O1 b1 hl1
      refine ⟨f, dxf, _, rfl, F.ob, fF_no dP lC dK (by decide +kernel) (by decide +kernel) (by decide +kernel), f, x, rfl, hF, O.g, fun H2 s2 r nr hr2 => ?_⟩
      refine q1 H2 lw1 r (sm_but s2) (O1.same s2) (.inl rfl) nr ?_
      rw [hr2, vi_toI, ← told_out O.g]
      rfl
    | folds s =>
      refine ifN (by decide) ⟨_, rfl, rfl, _, rfl, ifN (by decide) ⟨_, rfl, rfl, _, rfl, ifN (by decide) ⟨_, rfl, rfl, _, rfl, ifN (by decide) ?_⟩⟩⟩
      exact oc 2 s [] [] (by decide) (by decide) (.inl ⟨rfl, rfl⟩) q
    | from_ s =>
      refine ifN (by decide) ⟨_, rfl, rfl, _, rfl, ifN (by decide) ⟨_, rfl, rfl, _, rfl, ifN (by decide) ⟨_, rfl, rfl, _, rfl, ifN (by decide) ?_⟩⟩⟩
      exact oc 3 s [] [] (by decide) (by decide) (.inl ⟨rfl, rfl⟩) q
    | goes s t =>
      refine ifN (by decide) ⟨_, rfl, rfl, _, rfl, ifN (by decide) ⟨_, rfl, rfl, _, rfl, ifN (by decide) ⟨_, rfl, rfl, _, rfl, ifN (by decide) ?_⟩⟩⟩
      exact oc 4 s t [] (by decide) (by decide) (.inr rfl) q
    | nearest s =>
      refine ifN (by decide) ⟨_, rfl, rfl, _, rfl, ifN (by decide) ⟨_, rfl, rfl, _, rfl, ifN (by decide) ⟨_, rfl, rfl, _, rfl, ifN (by decide) ?_⟩⟩⟩
      exact oc 5 s [] [] (by decide) (by decide) (.inl ⟨rfl, rfl⟩) q
end
end CC
end
section
set_option Elab.async false
set_option linter.all false
set_option maxRecDepth 100000
set_option maxHeartbeats 2000000
namespace CC
open Uw55 (Box)
/-! ### the request, cut into calls -/
def toN (l : List Int) : List Nat := l.map Int.toNat
theorem toI_toN : ∀ {l : List Int}, (∀ z ∈ l, 0 ≤ z) → toI (toN l) = l
  | [], _ => rfl
  | z :: l, h => by
    have h1 := h z (by simp)
    have ih := toI_toN (l := l) fun y hy => h y (by simp [hy])
    show ((z.toNat : Nat) : Int) :: toI (toN l) = z :: l
    rw [ih, Int.toNat_of_nonneg h1]
theorem toI_toNat : ∀ l : List Nat, (toI l).map Int.toNat = l
  | [] => rfl
  | z :: l => by
    show ((z : Nat) : Int).toNat :: (toI l).map Int.toNat = _
    rw [toI_toNat l]
    rfl
theorem callOf_of {l : List Nat} (h : ∀ z ∈ l, z < 2 ^ 32) : Uw55Neutral.callOf (toI l) = Uw55Neutral.callIn l := by
  unfold Uw55Neutral.callOf
  have e : (toI l).all Uw55Neutral.nat = true := by
    rw [List.all_eq_true]
    intro z hz
    unfold toI at hz
    obtain ⟨n, hn, rfl⟩ := List.mem_map.mp hz
    have := h n hn
    unfold Uw55Neutral.nat
    rw [decide_eq_true (by omega), decide_eq_true (by omega)]
    rfl
  rw [e, if_neg (by decide), toI_toNat]
theorem rows_0 {r : List Int} {xs : List (List Int)} {t : List Int} (h : PyFlat.rows 0 r = some (xs, t)) : xs = [] := by
  cases h
  rfl
theorem rows_s {k : Nat} {r : List Int} {xs : List (List Int)} {t : List Int} (h : PyFlat.rows (k + 1) r = some (xs, t)) : ∃ x s ys, PyFlat.row r = some (x, s) ∧ PyFlat.rows k s = some (ys, t) ∧ xs = x :: ys := by
  unfold PyFlat.rows at h
  cases e1 : PyFlat.row r with
  | none => rw [e1] at h; cases h
  | some xs' =>
    obtain ⟨x, s⟩ := xs'
    rw [e1] at h
    cases e2 : PyFlat.rows k s with
    | none => simp only [e2] at h; cases h
    | some yt =>
      obtain ⟨ys, t'⟩ := yt
      simp only [e2] at h
      have h := Option.some.inj h
      have h1 := (Prod.mk.inj h).1
      have h2 := (Prod.mk.inj h).2
      subst h2
      exact ⟨x, s, ys, rfl, e2, h1.symm⟩
theorem row_of {r x s : List Int} (h : PyFlat.row r = some (x, s)) : ∃ (n : Nat) (r' : List Int), r = (n : Int) :: r' ∧ n ≤ r'.length ∧ x = r'.take n ∧ s = r'.drop n := by
  cases r with
  | nil => cases h
  | cons n r =>
    have h : (if 0 ≤ n ∧ n.toNat ≤ r.length then some (r.take n.toNat, r.drop n.toNat) else none) = some (x, s) := h
    by_cases c : 0 ≤ n ∧ n.toNat ≤ r.length
    · rw [if_pos c] at h
      have h := Prod.mk.inj (Option.some.inj h)
      exact ⟨n.toNat, r, by rw [Int.toNat_of_nonneg c.1], c.2, h.1.symm, h.2.symm⟩
    · rw [if_neg c] at h; cases h
theorem call_parts {p : Int} {r : List Int} {c : List (List Int)} {t : List Int} {n m : Nat} (hs : PyUw55.shape p = some (n, m)) (h : PyFlat.call PyUw55.shape (p :: r) = some (c, t)) : n ≤ r.length ∧ ∃ xs, PyFlat.rows m (r.drop n) = some (xs, t) ∧ c = (p :: r.take n) :: xs := by
  unfold PyFlat.call at h
  simp only [hs] at h
  by_cases l : r.length < n
  · rw [if_pos l] at h; cases h
  · rw [if_neg l] at h
    cases e2 : PyFlat.rows m (r.drop n) with
    | none => simp only [e2] at h; cases h
    | some yt =>
      obtain ⟨ys, t'⟩ := yt
      simp only [e2] at h
      have h := Prod.mk.inj (Option.some.inj h)
      have h2 := h.2
      subst h2
      exact ⟨by omega, ys, rfl, h.1.symm⟩
theorem shape_p {p : Int} {y : Nat × Nat} (h : PyUw55.shape p = some y) : p = 0 ∨ p = 1 ∨ p = 2 ∨ p = 3 ∨ p = 4 ∨ p = 5 ∨ p = 6 ∨ p = 7 := by
  unfold PyUw55.shape at h
  by_cases h0 : p = 0
  · exact .inl h0
  by_cases h1 : p = 1
  · exact .inr (.inl h1)
  by_cases h2 : p = 2
  · omega
  by_cases h3 : p = 3
  · omega
  by_cases h4 : p = 4
  · omega
  by_cases h5 : p = 5
  · omega
  by_cases h6 : p = 6
  · omega
  by_cases h7 : p = 7
  · omega
  rw [if_neg h0, if_neg h1, if_neg h2, if_neg h3, if_neg h4, if_neg h5, if_neg h6, if_neg h7] at h
  cases h
def NUMS : List Nat := [3, 0, 0, 0, 0, 0, 0, 0]
def ROWS : List Nat := [0, 1, 1, 1, 2, 1, 0, 0]
/-- a row within its bounds -/
theorem row_in {r : List Int} (h : (decide ((0 : Nat) ≤ r.length) && decide (r.length ≤ 16) && r.all (PyInside.within 0 4294967295)) = true) : (toN r).length ≤ 16 ∧ toI (toN r) = r ∧ ∀ z ∈ toN r, z < 2 ^ 32 := by
  rw [Bool.and_eq_true, Bool.and_eq_true] at h
  have h2 := of_decide_eq_true h.1.2
  have h3 : ∀ z ∈ r, 0 ≤ z ∧ z ≤ 4294967295 := fun z hz => by
    have := List.all_eq_true.mp h.2 z hz
    unfold PyInside.within at this
    simpa using this
  refine ⟨by unfold toN; rw [List.length_map]; exact h2, toI_toN fun z hz => (h3 z hz).1, fun z hz => ?_⟩
  unfold toN at hz
  obtain ⟨y, hy, rfl⟩ := List.mem_map.mp hz
  have := h3 y hy
  omega
theorem up_to {l : List Nat} (h : l.length ≤ 16) (c : Uw55.Call) : Uw55Neutral.upTo l c = some c := if_pos h
structure OneCall (p : Int) (r : List Int) (c : List (List Int)) (t : List Int) (k : Nat) (ns : List Nat) (rs : List (List Nat)) (u : Uw55.Call) : Prop where
  pk : p = (k : Int)
  k8 : k < 8
  nl : NUMS.getD k 0 ≤ r.length
  nt : r.take (NUMS.getD k 0) = toI ns
  rw_ : PyFlat.rows (ROWS.getD k 0) (r.drop (NUMS.getD k 0)) = some (rs.map toI, t)
  rl : ∀ s ∈ rs, s.length ≤ 16
  en : Enc k ns rs u
  of_ : Uw55Neutral.callOf ((PyUw55.whole c).headD []) = some u
theorem lists_cons {lo hi : Int} {a b : Nat} {bs : List (Int × Int × Nat × Nat)} {r : List Int} {rs : List (List Int)} : PyInside.lists ((lo, hi, a, b) :: bs) (r :: rs) = (decide (a ≤ r.length) && decide (r.length ≤ b) && r.all (PyInside.within lo hi) && PyInside.lists bs rs) := rfl
theorem one_row {k : Nat} {r : List Int} {c : List (List Int)} {t : List Int} {u : List Nat → Uw55.Call} (h : PyFlat.call PyUw55.shape ((k : Int) :: r) = some (c, t)) (hs : PyUw55.shape (k : Int) = some (0, 1)) (hb : PyInside.call PyUw55.bound c = true)
    (hk8 : k < 8) (e1 : NUMS.getD k 0 = 0) (e2 : ROWS.getD k 0 = 1) (hbd : PyUw55.bound (k : Int) = ([], [(0, 4294967295, 0, 16)])) (hen : ∀ s, Enc k [] [s] (u s)) (hw : ∀ x, PyUw55.whole [[(k : Int)], x] = [(k : Int) :: x]) (hin : ∀ l, Uw55Neutral.callIn (k :: l) = Uw55Neutral.upTo l (u l)) : ∃ ns rs u, OneCall (k : Int) r c t k ns rs u := by
  obtain ⟨_, xs, hr, hc⟩ := call_parts hs h
  obtain ⟨x, s, ys, a1, a2, a3⟩ := rows_s hr
  have a4 := rows_0 a2
  subst a4
  subst a3
  subst hc
  have hb : PyInside.call PyUw55.bound [[(k : Int)], x] = true := hb
  unfold PyInside.call at hb
  simp only [hbd] at hb
  rw [lists_cons] at hb
  have hb2 := (Bool.and_eq_true_iff.mp (Bool.and_eq_true_iff.mp hb).2).1
  obtain ⟨b1, b2, b3⟩ := row_in hb2
  refine ⟨[], [toN x], u (toN x), rfl, hk8, by rw [e1]; exact Nat.zero_le _, by rw [e1]; rfl, ?_, fun s hs => by rw [List.mem_singleton.mp hs]; exact b1, hen _, ?_⟩
  · rw [e1, e2]
    show _ = some ([toI (toN x)], t)
    rw [b2]
    exact hr
  · have e : PyUw55.whole (((k : Int) :: r.take 0) :: [x]) = [toI (k :: toN x)] := by
      show PyUw55.whole [[(k : Int)], x] = [(k : Int) :: toI (toN x)]
      rw [hw, b2]
    rw [e]
    show Uw55Neutral.callOf (toI (k :: toN x)) = _
    rw [callOf_of, hin, up_to b1]
    intro z hz
    rcases List.mem_cons.mp hz with e | e
    · omega
    · exact b3 z e
theorem call_enc {p : Int} {r : List Int} {c : List (List Int)} {t : List Int} (h : PyFlat.call PyUw55.shape (p :: r) = some (c, t)) (hb : PyInside.call PyUw55.bound c = true) : ∃ k ns rs u, OneCall p r c t k ns rs u := by
  have hp : ∃ y, PyUw55.shape p = some y := by
    cases e : PyUw55.shape p with
    | none =>
      unfold PyFlat.call at h
      simp only [e] at h
      cases h
    | some y => exact ⟨y, rfl⟩
  obtain ⟨y, hy⟩ := hp
  rcases shape_p hy with e | e | e | e | e | e | e | e <;> subst e
  · obtain ⟨hl, xs, hr, hc⟩ := call_parts (n := 3) (m := 0) rfl h
    have a4 := rows_0 hr
    subst a4
    match r, hl with
    | a :: b :: c' :: r', _ =>
      subst hc
      have hb : (PyInside.within 0 4294967295 a && (PyInside.within 0 4294967295 b && (PyInside.within 0 4294967295 c' && true)) && true) = true := hb
      unfold PyInside.within at hb
      have hb : ((0 ≤ a ∧ a ≤ 4294967295) ∧ (0 ≤ b ∧ b ≤ 4294967295) ∧ (0 ≤ c' ∧ c' ≤ 4294967295)) := by simpa using hb
      obtain ⟨n1, rfl⟩ := Int.eq_ofNat_of_zero_le hb.1.1
      obtain ⟨n2, rfl⟩ := Int.eq_ofNat_of_zero_le hb.2.1.1
      obtain ⟨n3, rfl⟩ := Int.eq_ofNat_of_zero_le hb.2.2.1
      refine ⟨0, [n1, n2, n3], [], .begins n1 n2 n3, rfl, by decide, by show 3 ≤ _; simp, rfl, hr, (fun s hs => by cases hs), .begins _ _ _, ?_⟩
      show Uw55Neutral.callOf (toI [0, n1, n2, n3]) = _
      rw [callOf_of]
      · rfl
      · intro z hz
        have h1 := hb.1.2
        have h2 := hb.2.1.2
        have h3 := hb.2.2.2
        simp at hz
        omega
  · obtain ⟨ns, rs, u, o⟩ := one_row (k := 1) (u := .path) h rfl hb (by decide) rfl rfl rfl .path (fun _ => rfl) (fun _ => rfl)
    exact ⟨1, ns, rs, u, o⟩
  · obtain ⟨ns, rs, u, o⟩ := one_row (k := 2) (u := .folds) h rfl hb (by decide) rfl rfl rfl .folds (fun _ => rfl) (fun _ => rfl)
    exact ⟨2, ns, rs, u, o⟩
  · obtain ⟨ns, rs, u, o⟩ := one_row (k := 3) (u := .from_) h rfl hb (by decide) rfl rfl rfl .from_ (fun _ => rfl) (fun _ => rfl)
    exact ⟨3, ns, rs, u, o⟩
  · obtain ⟨_, xs, hr, hc⟩ := call_parts (n := 0) (m := 2) rfl h
    obtain ⟨x, s, ys, a1, a2, a3⟩ := rows_s hr
    obtain ⟨x2, s2, ys2, b1, b2, b3⟩ := rows_s a2
    have a4 := rows_0 b2
    subst a4
    subst b3
    subst a3
    subst hc
    have hb : ((decide ((0 : Nat) ≤ x.length) && decide (x.length ≤ 16) && x.all (PyInside.within 0 4294967295)) && ((decide ((0 : Nat) ≤ x2.length) && decide (x2.length ≤ 16) && x2.all (PyInside.within 0 4294967295)) && true)) = true := hb
    have hb := Bool.and_eq_true_iff.mp hb
    obtain ⟨c1, c2, c3⟩ := row_in hb.1
    obtain ⟨d1, d2, d3⟩ := row_in (Bool.and_eq_true_iff.mp hb.2).1
    refine ⟨4, [], [toN x, toN x2], .goes (toN x) (toN x2), rfl, by decide, Nat.zero_le _, rfl, ?_, fun s hs => ?_, .goes _ _, ?_⟩
    · show _ = some ([toI (toN x), toI (toN x2)], t)
      rw [c2, d2]
      exact hr
    · rcases List.mem_cons.mp hs with e | e
      · rw [e]; exact c1
      · rw [List.mem_singleton.mp e]; exact d1
    · have e : PyUw55.whole ((((4 : Nat) : Int) :: r.take 0) :: [x, x2]) = [toI (4 :: x.length :: (toN x ++ toN x2))] := by
        show [(4 : Int) :: (x.length : Int) :: (x ++ x2)] = [((4 : Nat) : Int) :: ((x.length : Nat) : Int) :: toI (toN x ++ toN x2)]
        have : toI (toN x ++ toN x2) = x ++ x2 := by
          conv => rhs; rw [← c2, ← d2]
          unfold toI
          rw [List.map_append]
        rw [this]
        rfl
      have e : PyUw55.whole (((4 : Int) :: r.take 0) :: [x, x2]) = [toI (4 :: x.length :: (toN x ++ toN x2))] := e
      rw [e]
      show Uw55Neutral.callOf (toI (4 :: x.length :: (toN x ++ toN x2))) = _
      have hx : x.length = (toN x).length := by unfold toN; rw [List.length_map]
      rw [callOf_of]
      · show (if x.length ≤ 16 ∧ x.length ≤ (toN x ++ toN x2).length ∧ ((toN x ++ toN x2).drop x.length).length ≤ 16 then some (Uw55.Call.goes ((toN x ++ toN x2).take x.length) ((toN x ++ toN x2).drop x.length)) else none) = _
        rw [hx, List.drop_left, List.take_left, if_pos ⟨c1, by rw [List.length_append]; omega, d1⟩]
      · intro z hz
        rcases List.mem_cons.mp hz with e | e
        · omega
        · rcases List.mem_cons.mp e with e | e
          · omega
          · rcases List.mem_append.mp e with e | e
            · exact c3 z e
            · exact d3 z e
  · obtain ⟨ns, rs, u, o⟩ := one_row (k := 5) (u := .nearest) h rfl hb (by decide) rfl rfl rfl .nearest (fun _ => rfl) (fun _ => rfl)
    exact ⟨5, ns, rs, u, o⟩
  · obtain ⟨hl, xs, hr, hc⟩ := call_parts (n := 0) (m := 0) rfl h
    have a4 := rows_0 hr
    subst a4
    subst hc
    exact ⟨6, [], [], .only, rfl, by decide, Nat.zero_le _, rfl, hr, (fun s hs => by cases hs), .only, rfl⟩
  · obtain ⟨hl, xs, hr, hc⟩ := call_parts (n := 0) (m := 0) rfl h
    have a4 := rows_0 hr
    subst a4
    subst hc
    exact ⟨7, [], [], .turns, rfl, by decide, Nat.zero_le _, rfl, hr, (fun s hs => by cases hs), .turns, rfl⟩
theorem calls_step {f : Nat} {p : Int} {r : List Int} {cs : List (List (List Int))} (h : PyFlat.calls PyUw55.shape f (p :: r) = some cs) : ∃ f' c t cs', PyFlat.call PyUw55.shape (p :: r) = some (c, t) ∧ PyFlat.calls PyUw55.shape f' t = some cs' ∧ cs = c :: cs' := by
  cases f with
  | zero => cases h
  | succ f =>
    unfold PyFlat.calls at h
    cases e1 : PyFlat.call PyUw55.shape (p :: r) with
    | none => simp only [e1] at h; cases h
    | some ct =>
      obtain ⟨c, t⟩ := ct
      simp only [e1] at h
      cases e2 : PyFlat.calls PyUw55.shape f t with
      | none => simp only [e2] at h; cases h
      | some cs' =>
        simp only [e2] at h
        exact ⟨f, c, t, cs', rfl, e2, (Option.some.inj h).symm⟩
theorem calls_nil {f : Nat} {cs : List (List (List Int))} (h : PyFlat.calls PyUw55.shape f [] = some cs) : cs = [] := by
  unfold PyFlat.calls at h
  exact (Option.some.inj h).symm
end CC
end
section
set_option Elab.async false
set_option linter.all false
set_option maxRecDepth 100000
set_option maxHeartbeats 4000000
namespace CC
open PySem PySem.Spec PyProof.Rows L2
open Uw55 (Box)
def spRows (K : PySem.W.Frag) : Sp := fun vs H Q _ => ∃ (lc : Addr) (a m : Nat) (zs : List Int) (rs : List (List Nat)) (t : List Int), vs = [.ref lc, .int (a : Nat), .int (m : Nat)] ∧ SqL K H lc (zs.map V.int) ∧ m ≤ 1000 ∧ a ≤ zs.length ∧ PyFlat.rows m (zs.drop a) = some (rs.map toI, t) ∧
  ∀ H' r fl ts a', Same H H' → H' r = some (.tup [.ref fl, .int (a' : Nat)]) → H' fl = some (.lst (ts.map V.ref)) → Tups H' ts rs → zs.drop a' = t → a' ≤ zs.length → a ≤ a' → Q (.ref r) H'
theorem cut_mid {zs : List Int} {i n : Nat} (h : i + n ≤ zs.length) : cutV (zs.map V.int) (some (i : Int)) (some ((i + n : Nat) : Int)) = ((zs.drop i).take n).map V.int := by
  unfold cutV
  rw [HT.sIx_nat, HT.sIx_nat, List.length_map, Nat.min_eq_left h, Nat.min_eq_left (by omega : i ≤ zs.length), Nat.add_sub_cancel_left, List.map_take, List.map_drop]
theorem drop_cons {α : Type} {zs r : List α} {a : α} {i : Nat} (h : zs.drop i = a :: r) : zs[i]? = some a ∧ zs.drop (i + 1) = r := by
  have h1 : (zs.drop i)[0]? = some a := by rw [h]; rfl
  rw [List.getElem?_drop] at h1
  refine ⟨by simpa using h1, ?_⟩
  have h2 : (zs.drop i).drop 1 = r := by rw [h]; rfl
  rwa [List.drop_drop] at h2
theorem sm_L {K : PySem.W.Frag} {H H' : Hp} {a : Addr} {xs : List V} (e : Same H H') (h : SqL K H a xs) : SqL K H' a xs := by
  rcases h with (h | ⟨o, h⟩) | h
  · exact .inl (.inl (e _ _ h))
  · exact .inl (.inr ⟨o, e _ _ h⟩)
  · exact .inr h
section
variable {P : Program} {w : World} {K : PySem.W.Frag} {mg : Str → Option Value} {base : Heap}
abbrev nRo : List Str := ["calls", "at", "many", "found", "k", "end"]
theorem scRo : FnScope nRo ["calls", "at", "many"] (C8.fnScope sRows) := C8.fnScope_by (by decide +kernel)
theorem cal_rows (T : Blt mg) (D : Dfn K mg "rows_behind" sRows ["calls", "at", "many"]) : C8.Cal P w K mg base 1 "rows_behind" (spRows K) [] := by
  refine D.cal scRo (fun vs H Q E h => ?_) (fun f cdv A outer s H vs Q E hr h => ?_)
  · obtain ⟨lc, a, m, zs, rs, t, rfl, _⟩ := h
    rfl
  · obtain ⟨lc, a, m, zs, rs, t, rfl, hlc, hm, ha, hrw, q⟩ := h
    refine ⟨_, pss_cons (ps_set (i := 3) scRo.nd rfl (.inl rfl) (pe_lst pa_nil))
      (pss_cons (ps_for PassesOwn.never rfl (pi_range1 rfl T.range (pa_cons (pv 2) pa_nil)) (pg_name (i := 4) scRo.nd rfl (.inl rfl))
        (pss_cons (ps_set (i := 5) scRo.nd rfl (.inl rfl) (pe_op op_add (pe_op op_add (pv 1) pe_int) (pe_ix ix_list (pv 0) (pv 1) (fun _ _ => rfl))))
        (pss_cons (ps_expr (pe_bm PySem.F.plainAttrs_list PySem.F.slot_list_append PySem.F.type_list_append mt_append (pv 3) (pa_cons
          (pe_tupleOf (by rfl) T.tuple (pe_slice sl_list (pv 0) (po_some (pe_op op_add (pv 1) pe_int)) (po_some (pv 5)))) pa_nil)))
        (pss_one (ps_set (i := 1) scRo.nd rfl (.inl rfl) (pv 5))))))
      (pss_one (ps_ret (pe_tup (pa_cons (pv 3) (pa_cons (pv 1) pa_nil)))))), ?_⟩
    refine ⟨Nat.zero_le _, fun fo nfo => ?_⟩
    refine ⟨_, rfl, _, rfl, (by omega), (by omega), ?_⟩
    rw [show ((m : Int)).toNat = m by omega]
    have main : ∀ i, i < m → ∀ ai, PyFlat.rows (m - i) (zs.drop ai) = some ((rs.drop i).map toI, t) → ∃ (n : Nat) (r0 : List Nat), zs[ai]? = some (n : Int) ∧ ai + 1 + n ≤ zs.length ∧ (zs.drop (ai + 1)).take n = toI r0 ∧ rs[i]? = some r0 ∧ PyFlat.rows (m - (i + 1)) (zs.drop (ai + 1 + n)) = some ((rs.drop (i + 1)).map toI, t) := fun i hi ai hrw => by
      have e : m - i = (m - (i + 1)) + 1 := by omega
      rw [e] at hrw
      obtain ⟨x, s, ys, a1, a2, a3⟩ := rows_s hrw
      obtain ⟨n, r', b1, b2, b3, b4⟩ := row_of a1
      obtain ⟨c1, c2⟩ := drop_cons b1
      cases hd : rs.drop i with
      | nil => rw [hd] at a3; cases a3
      | cons r0 rest =>
        obtain ⟨d1, d2⟩ := drop_cons hd
        rw [hd] at a3
        have a3 := List.cons.inj a3
        have hlt : ai < zs.length := (List.getElem?_eq_some_iff.mp c1).1
        have hl : r'.length = zs.length - (ai + 1) := by rw [← c2, List.length_drop]
        refine ⟨n, r0, c1, by omega, by rw [c2, ← b3]; exact a3.1.symm, d1, ?_⟩
        rw [d2, a3.2, ← List.drop_drop, c2, ← b4]
        exact a2
    refine for_range (lo := 0) (n := m) (fun i σ H' => ∃ (ai : Nat) (v4 v5 : Option V) (ts : List Addr), σ = [some (.ref lc), some (.int (ai : Nat)), some (.int (m : Nat)), some (.ref fo), v4, v5] ∧ Same H H' ∧ H' fo = some (.lst (ts.map V.ref)) ∧ Tups H' ts (rs.take i) ∧ ts.length ≤ i ∧ PyFlat.rows (m - i) (zs.drop ai) = some ((rs.drop i).map toI, t) ∧ ai ≤ zs.length ∧ a ≤ ai)
      ⟨a, none, none, [], rfl, same_upd nfo, upd_same, .nil, Nat.zero_le _, hrw, ha, Nat.le_refl _⟩ (fun i σ H1 hi ⟨ai, v4, v5, ts, e1, s1, hfo, hts, hl, hrw, hai, hle⟩ => ?_) (fun σ H1 ⟨ai, v4, v5, ts, e1, s1, hfo, hts, hl, hrw, hai, hle⟩ => ?_)
    · subst e1
      obtain ⟨n, r0, c1, c2, c3, c4, c5⟩ := main i hi ai hrw
      have hz : (zs.map V.int)[ai]? = some (.int (n : Int)) := by rw [List.getElem?_map, c1]; rfl
      have hlc1 := sm_L s1 hlc
      refine ⟨_, rfl, _, _, rfl, rfl, _, rfl, _, rfl, lc, _, _, _, rfl, rfl, hlc1, at_of (j := ai) rfl hz, _, _, rfl, rfl, ?_⟩
      have ecut : cutV (zs.map V.int) (some ((ai : Int) + 1)) (some ((ai : Int) + 1 + (n : Int))) = vi r0 := by
        rw [show ((ai : Nat) : Int) + 1 + (n : Int) = ((ai + 1 + n : Nat) : Int) by omega, show ((ai : Nat) : Int) + 1 = ((ai + 1 : Nat) : Int) by omega, cut_mid c2, c3, ← vi_toI]
      refine ⟨_, rfl, .inl ⟨rfl, _, sqL hfo⟩, _, rfl, _, rfl, _, _, rfl, rfl, _, rfl, _, rfl, _, rfl, lc, _, rfl, hlc1, fun sl nsl => ?_⟩
      refine .inl ⟨sl, vi r0, rfl, sqL (upd_same.trans (congrArg (fun l => some (HO.lst l)) ecut)), fun tp ntp => ?_⟩
      have s2 := (same_upd (o := .lst (cutV (zs.map V.int) (some ((ai : Int) + 1)) (some ((ai : Int) + 1 + (n : Int))))) nsl).trans (same_upd (o := .tup (vi r0)) ntp)
      have hfo2 := s2 _ _ hfo
      refine ⟨fo, _, _, rfl, rfl, hfo2, ?_, ?_⟩
      · rw [List.length_map]
        exact Nat.lt_of_le_of_lt (by omega : ts.length ≤ 1000) (by decide)
      · refine ⟨_, rfl, ai + 1 + n, _, _, ts ++ [tp], rfl, sm_write (s1.trans s2) nfo, ?_, ?_, ?_, c5, c2, by omega⟩
        · rw [upd_same, List.map_append]; rfl
        · have et : rs.take (i + 1) = rs.take i ++ [r0] := by rw [List.take_add_one, c4]; rfl
          rw [et]
          refine Paired.append (Tups.but (hts.same s2) hfo2 But.upd) (.cons ?_ .nil)
          exact But.upd (D := fo) _ _ (tup_ne upd_same hfo2) upd_same
        · rw [List.length_append]
          exact Nat.succ_le_succ hl
    · subst e1
      have e0 : m - m = 0 := by omega
      rw [e0] at hrw
      have hx := rows_0 hrw
      have hrs : rs.take m = rs := by
        have : rs.drop m = [] := List.map_eq_nil_iff.mp hx
        have := List.take_append_drop m rs
        rw [‹rs.drop m = []›, List.append_nil] at this
        exact this
      rw [hrs] at hts
      rw [hx] at hrw
      have ht : zs.drop ai = t := (Prod.mk.inj (Option.some.inj hrw)).2
      refine ⟨_, rfl, _, rfl, (by show 2 ≤ sizeLine; decide), fun r nr => ?_⟩
      have s2 := same_upd (o := .tup [V.ref fo, V.int (ai : Nat)]) nr
      exact q _ r fo ts ai (s1.trans s2) upd_same (s2 _ _ hfo) (hts.same s2) ht hai hle
end
end CC
end
section
set_option Elab.async false
set_option linter.all false
set_option maxRecDepth 100000
set_option maxHeartbeats 4000000
namespace CC
open PySem PySem.Spec PyProof.Rows L2
open Uw55 (Box)
/-- a class made without arguments -/
theorem pe_mk0 {X : Cx} {k j : Nat} {C : Addr} {x : Str} {sp : Sp} {p pos : Pos} (c : C8.Mak X.prog X.w X.K X.mg X.base k x C sp []) (hr : Room j X.A) (hk : k + 1 ≤ j) (hg : Gl X x) (hdb : (x == ("__debug__" : Str)) = false := by decide) :
    PE X (.Call (.Name x p) [] [] pos) (tMake C sp [] C8.E0 tNil) := by
  obtain ⟨f, fd, ps, ds, M, F, hm, b, d⟩ := c.ex
  exact pe_make0 M F (hr.mono hk) hg hm b d C8.pass0 hdb
abbrev stp (s : Box) (c : List (List Int)) : Box × List Int := Uw55Neutral.step s (c.headD [])
def spAns (K : PySem.W.Frag) : Sp := fun vs H Q _ => ∃ (a : Addr) (zs : List Int), vs = [.ref a] ∧ SqL K H a (zs.map V.int) ∧ PyUw55.answers_asked zs = true ∧ ∀ H' r, H' r = some (.lst ((PyUw55.answers zs).map V.int)) → Q (.ref r) H'
theorem asked_parts {zs : List Int} (h : PyUw55.answers_asked zs = true) : ∃ raw, PyFlat.calls PyUw55.shape zs.length zs = some raw ∧ (∀ c ∈ raw, PyInside.call PyUw55.bound c = true) ∧ PyUw55.answers zs = PyFlat.told (PyFlat.played stp Uw55.init (raw.map PyUw55.whole)) ∧ (PyUw55.answers zs).length ≤ 10000000 := by
  unfold PyUw55.answers_asked at h
  cases e : PyFlat.calls PyUw55.shape zs.length zs with
  | none => simp only [e] at h; cases h
  | some raw =>
    simp only [e] at h
    have h1 := Bool.and_eq_true_iff.mp h
    have h2 := Bool.and_eq_true_iff.mp h1.1
    have h3 := Bool.and_eq_true_iff.mp h2.1
    refine ⟨raw, rfl, fun c hc => List.all_eq_true.mp h3.2 c hc, ?_, of_decide_eq_true h1.2⟩
    unfold PyUw55.answers PyUw55.calls
    simp only [e]
    rfl
section
variable {P : Program} {w : World} {K : PySem.W.Frag} {mg : Str → Option Value} {base : Heap} {CH CF : Addr}
abbrev nAn : List Str := ["calls", "holder", "found", "at", "call", "behind", "n", "rows", "told"]
theorem scAn : FnScope nAn ["calls"] (C8.fnScope sAns) := C8.fnScope_by (by decide +kernel)
theorem ok_ans {fo : Addr} {fdo : FuncData} (T : Blt mg) (GL : Glo K mg) (F : C8.Fun K "answers" "answers" sAns fo fdo) (MH : C8.Mak P w K mg base 1 "Holder" CH (spHInit K CH CF) []) (GR : C8.Cal P w K mg base 1 "rows_behind" (spRows K) []) (MA : C8.Met P w K mg base 10 CH "answer" (spAw K CH CF) []) : FnOk P w K mg base C8.CX0 11 fo fdo ["calls"] (spAns K) := by
  obtain ⟨aN, mN, hN⟩ := GL.nums
  obtain ⟨aR, mR, hR⟩ := GL.rows
  refine C8.fn0 F scAn (fun vs H Q E h => ?_) (fun cdv A outer s H vs Q E hr h => ?_)
  · obtain ⟨a, zs, rfl, _⟩ := h
    rfl
  · obtain ⟨lc, zs, rfl, hlc, hask, q⟩ := h
    refine ⟨_, pss_cons (ps_set (i := 1) scAn.nd rfl (.inl rfl) (pe_mk0 MH hr (by decide) (by rfl)))
      (pss_cons (ps_set (i := 2) scAn.nd rfl (.inl rfl) (pe_lst pa_nil))
      (pss_cons (ps_set (i := 3) scAn.nd rfl (.inl rfl) pe_int)
      (pss_cons (ps_while PassesOwn.never (pt_cmpR op_lt (pv 3) (pe_callB call_len_seq (by rfl) T.len PySem.boot_len (pa_cons (pv 0) pa_nil)) (nomark _))
        (pss_cons (ps_set (i := 4) scAn.nd rfl (.inl rfl) (pe_ix ix_list (pv 0) (pv 3) (fun _ _ => rfl)))
        (pss_cons (ps_set (i := 5) scAn.nd rfl (.inl rfl) (pe_op op_add (pe_op op_add (pv 3) pe_int) (pe_ix ix_tup (pe_glob rfl mN (v := .ref aN) rfl) (pv 4) (fun _ _ => rfl))))
        (pss_cons (ps_set (i := 6) scAn.nd rfl (.inl rfl) (pe_slice sl_list (pv 0) (po_some (pe_op op_add (pv 3) pe_int)) (po_some (pv 5))))
        (pss_cons (ps_asg (C8.pe_c GR hr (by decide) (by rfl) (pa_cons (pv 0) (pa_cons (pv 5) (pa_cons (pe_ix ix_tup (pe_glob rfl mR (v := .ref aR) rfl) (pv 4) (fun _ _ => rfl)) pa_nil)))) (pg_tup rfl (pgs_cons (pg_name (i := 7) scAn.nd rfl (.inl rfl)) (pgs_cons (pg_name (i := 3) scAn.nd rfl (.inl rfl)) pgs_nil))))
        (pss_cons (ps_set (i := 8) scAn.nd rfl (.inl rfl) (C8.pe_mt MA hr (by decide) (pv 1) (pa_cons (pv 4) (pa_cons (pv 6) (pa_cons (pv 7) pa_nil)))))
        (pss_cons (ps_expr (pe_bm PySem.F.plainAttrs_list PySem.F.slot_list_append PySem.F.type_list_append mt_append (pv 2) (pa_cons (pe_callB call_len_seq (by rfl) T.len PySem.boot_len (pa_cons (pv 8) pa_nil)) pa_nil)))
        (pss_one (ps_expr (pe_bm PySem.F.plainAttrs_list PySem.F.slot_list_extend PySem.F.type_list_extend mt_extend (pv 2) (pa_cons (pv 8) pa_nil))))))))))
      )
      (pss_one (ps_ret (pv 2)))))), ?_⟩
    obtain ⟨raw, hraw, hin, hans, hlen⟩ := asked_parts hask
    refine fun p dx np ndx hne => ?_
    have s0 : Same H (upd (upd H dx (.own p)) p (.ins CH dx [])) := (same_upd ndx).trans (same_upd (by rw [upd_ne hne.symm]; exact np))
    refine ⟨p, dx, rfl, upd_same, fun H1 lw b1 O1 hlw => ⟨rfl, ?_⟩⟩
    have s1 : Same H H1 := fun b u e => b1 b u (ne_of_none e np) (s0 b u e)
    refine ⟨Nat.zero_le _, fun D nD => ?_⟩
    have nD0 : H D = none := none_same s1 nD
    have hlD : lw ≠ D := fun z => by
      obtain ⟨_, _, O⟩ := O1
      rcases O.wo with h | ⟨_, h, _⟩
      · rw [z, nD] at h; cases h
      · rw [z, nD] at h; cases h
    refine ⟨fun m σ H' => ∃ (a fuel : Nat) (v4 v5 v6 v7 v8 : Option V) (x : Box) (lw : Addr) (ws : List Int) (cs : List (List (List Int))), m = zs.length - a ∧ σ = [some (.ref lc), some (.ref p), some (.ref D), some (.int (a : Nat)), v4, v5, v6, v7, v8] ∧ Same H H' ∧ H' D = some (.lst (ws.map V.int)) ∧ HoldAt K CH CF H' p x lw ∧ lw ≠ D ∧ a ≤ zs.length ∧
      PyFlat.calls PyUw55.shape fuel (zs.drop a) = some cs ∧ (∀ c ∈ cs, PyInside.call PyUw55.bound c = true) ∧ ws ++ PyFlat.told (PyFlat.played stp x (cs.map PyUw55.whole)) = PyUw55.answers zs, ⟨_, 0, zs.length, none, none, none, none, none, Uw55.init, lw, [], raw, rfl, rfl, s1.trans (same_upd nD), upd_same, O1.same (same_upd nD), hlD, Nat.zero_le _, hraw, hin, hans.symm⟩, ?_⟩
    clear hlD hlw O1 b1 lw
    rintro m σ H2 ⟨a, fuel, v4, v5, v6, v7, v8, x, lw, ws, cs, hm, e1, s2, hD, O, hlD, ha, hcs, hin, hF⟩
    subst e1
    have hlc2 := sm_L s2 hlc
    refine ⟨_, rfl, _, rfl, lc, _, rfl, .inl hlc2, _, _, rfl, rfl, _, rfl, ?_⟩
    rw [List.length_map]
    refine ite2 (fun e => ?_) (fun e => ?_)
    · have e := of_decide_eq_true e
      have hlt : a < zs.length := by omega
      obtain ⟨z, r, hz⟩ : ∃ z r, zs.drop a = z :: r := by
        cases h : zs.drop a with
        | nil =>
          have := congrArg List.length h
          rw [List.length_drop] at this
          simp at this
          omega
        | cons z r => exact ⟨z, r, rfl⟩
      obtain ⟨z1, z2⟩ := drop_cons hz
      rw [hz] at hcs
      obtain ⟨f', c, t, cs', c1, c2, rfl⟩ := calls_step hcs
      obtain ⟨k, ns, rs, u, U⟩ := call_enc c1 (hin c (by simp))
      obtain rfl := U.pk
      have rl : r.length = zs.length - (a + 1) := by rw [← z2, List.length_drop]
      have nl := U.nl
      have k8 := U.k8
      generalize hnn : NUMS.getD k 0 = nn at nl
      have hcut : a + 1 + nn ≤ zs.length := by omega
      refine ⟨fun σ' H' => ∃ m', m' < m ∧ _, fun _ _ h => h, ?_⟩
      refine ⟨_, rfl, _, rfl, lc, _, _, _, rfl, rfl, hlc2, at_of (j := a) rfl (by rw [List.getElem?_map, z1]; rfl), ?_⟩
      refine ⟨_, rfl, _, _, rfl, rfl, _, rfl, aN, _, _, _, rfl, rfl, hN.sq, at_of (j := k) rfl (vi_get (p := NUMS) (i := k) k8), _, _, rfl, rfl, ?_⟩
      rw [hnn]
      refine ⟨_, rfl, _, rfl, _, _, rfl, rfl, _, rfl, _, rfl, _, rfl, lc, _, rfl, hlc2, fun ln nln => ?_⟩
      have ecut : cutV (zs.map V.int) (some ((a : Int) + 1)) (some ((a : Int) + 1 + (nn : Int))) = vi ns := by
        rw [show ((a : Nat) : Int) + 1 + (nn : Int) = ((a + 1 + nn : Nat) : Int) by omega, show ((a : Nat) : Int) + 1 = ((a + 1 : Nat) : Int) by omega, cut_mid hcut, z2]
        have := U.nt
        rw [hnn] at this
        rw [this, ← vi_toI]
      have s3 := same_upd (o := .lst (cutV (zs.map V.int) (some ((a : Int) + 1)) (some ((a : Int) + 1 + (nn : Int))))) nln
      have hn3 : (upd H2 ln (.lst (cutV (zs.map V.int) (some ((a : Int) + 1)) (some ((a : Int) + 1 + (nn : Int)))))) ln = some (.lst (vi ns)) := upd_same.trans (congrArg (fun l => some (HO.lst l)) ecut)
      have hrw := U.rw_
      rw [hnn, ← z2, List.drop_drop] at hrw
      refine ⟨_, rfl, _, rfl, _, rfl, aR, _, _, _, rfl, rfl, hR.sq, at_of (j := k) rfl (vi_get (p := ROWS) (i := k) k8), lc, a + 1 + nn, ROWS.getD k 0, zs, rs, t, rfl, sm_L s3 hlc2, ?_, hcut, hrw, fun H4 rr fl ts a' s4 hrr hfl hts ha' hal haa => ?_⟩
      · match k, k8 with
        | 0, _ => exact by decide
        | 1, _ => exact by decide
        | 2, _ => exact by decide
        | 3, _ => exact by decide
        | 4, _ => exact by decide
        | 5, _ => exact by decide
        | 6, _ => exact by decide
        | 7, _ => exact by decide
      refine ⟨rr, _, rfl, sqT hrr, rfl, _, _, rfl, _, _, rfl, rfl, ?_⟩
      have O4 := (O.same s3).same s4
      obtain ⟨dx4, ab4, O4P⟩ := id O4
      have hD4 := s4 _ _ (s3 _ _ hD)
      have hDp : D ≠ p := ne_of hD4 O4P.ob (fun z => by cases z)
      refine ⟨_, rfl, p, dx4, _, rfl, O4P.ob, fH_no ab4 lw (by decide +kernel) (by decide +kernel), _, rfl, _, rfl, _, rfl, p, ln, fl, lw, x, k, ns, ts, rs, u, rfl, O4, s4 _ _ hn3, hfl, hts, (fun s hs => Nat.le_trans (U.rl s hs) (by decide)), U.en, fun H5 lw5 r5 b5 O5 hl5 hr5 he5 => ?_⟩
      have hD5 := b5 _ _ hDp hD4
      have hrD : r5 ≠ D := fun z => by rw [z, hD4] at hr5; cases hr5
      have hlD5 : lw5 ≠ D := fun z => by
        rcases hl5 with h | h
        · exact hlD (h.symm.trans z)
        · rw [z, hD4] at h; cases h
      have estep : stp x (PyUw55.whole c) = ((Uw55.step x u).1, Uw55Neutral.out (Uw55.step x u).2) := by
        show Uw55Neutral.step x ((PyUw55.whole c).headD []) = _
        unfold Uw55Neutral.step
        rw [U.of_]
      have hF2 : (ws ++ [((Uw55Neutral.out (Uw55.step x u).2).length : Int)] ++ Uw55Neutral.out (Uw55.step x u).2) ++ PyFlat.told (PyFlat.played stp (Uw55.step x u).1 (cs'.map PyUw55.whole)) = PyUw55.answers zs := by
        rw [← hF, List.map_cons]
        show _ = ws ++ PyFlat.told ((stp x (PyUw55.whole c)).2 :: PyFlat.played stp (stp x (PyUw55.whole c)).1 (cs'.map PyUw55.whole))
        rw [estep]
        unfold PyFlat.told
        rw [List.flatMap_cons]
        simp
      generalize Uw55Neutral.out (Uw55.step x u).2 = os at hF2 he5
      have hlw : ws.length + 1 + os.length ≤ 10000000 := by
        have := congrArg List.length hF2
        rw [List.length_append, List.length_append, List.length_append] at this
        simp at this
        omega
      refine ⟨_, rfl, .inl ⟨rfl, _, sqL hD5⟩, _, rfl, r5, _, rfl, .inl (sqL he5), D, _, _, rfl, rfl, hD5, ?_, ?_⟩
      · rw [List.length_map]
        exact Nat.lt_of_lt_of_le (by omega : ws.length < 10000001) (by decide)
      · rw [List.length_map]
        have he6 : (upd H5 D (.lst (ws.map V.int ++ [V.int (os.length : Nat)]))) r5 = some (.lst (os.map V.int)) := by rw [upd_ne hrD]; exact he5
        refine ⟨_, rfl, .inl ⟨rfl, _, sqL upd_same⟩, _, rfl, D, r5, _, _, rfl, rfl, upd_same, he6, ?_, ?_⟩
        · rw [List.length_append, List.length_map, List.length_map]
          exact Nat.le_trans (by show ws.length + 1 + os.length ≤ 10000000; exact hlw) (by decide)
        · have b6 : But D H5 (upd (upd H5 D (.lst (ws.map V.int ++ [V.int (os.length : Nat)]))) D (.lst (ws.map V.int ++ [V.int (os.length : Nat)] ++ os.map V.int))) := But.trans But.upd But.upd
          refine ⟨zs.length - a', by omega, a', f', _, _, _, _, _, (Uw55.step x u).1, lw5, ws ++ [(os.length : Int)] ++ os, cs', rfl, rfl, fun b u e => ?_, ?_, O5.write hD5 hlD5 b6, hlD5, hal, ?_, fun c hc => hin c (by simp [hc]), hF2⟩
          · exact b6 _ _ (ne_of_none e nD0) (b5 _ _ (ne_of_none e np) (s4 _ _ (s3 _ _ (s2 _ _ e))))
          · rw [upd_same]
            simp
          · rw [ha']; exact c2
    · have e : ¬ _ := fun z => e (decide_eq_true z)
      have h0 : zs.drop a = [] := List.drop_eq_nil_of_le (by omega)
      rw [h0] at hcs
      have := calls_nil hcs
      subst this
      have hF : ws ++ [] = PyUw55.answers zs := hF
      rw [List.append_nil] at hF
      rw [hF] at hD
      exact ⟨_, rfl, q _ D hD⟩
end
end CC
end
section
set_option Elab.async false
set_option linter.all false
set_option maxRecDepth 100000
set_option maxHeartbeats 8000000
namespace CC
open PySem PySem.Spec PyProof.Rows L2
open Uw55 (Box)
/-! ### what the top has written -/
section
variable {K : PySem.W.Frag} {h : Heap} {mg : Str → Option Value}
theorem fun_of {x qual : Str} {st : Stmt} {f : Addr} {oc : Value} {od an : Option Addr} {osl : Array (Option Value)} {kV doc pm cdv ct : Value}
    (l : K.lookup f = some ⟨oc, od, .func (PySem.W.fnOf x qual (C8.fnArgs st) (C8.fnBody st) (C8.fnScope st) .none kV doc pm an cdv ct), osl⟩) (c : PySem.W.codeIn K cdv qual = true) :
    C8.Fun K x qual st f (PySem.W.fnOf x qual (C8.fnArgs st) (C8.fnBody st) (C8.fnScope st) .none kV doc pm an cdv ct) := ⟨oc, od, .none, kV, doc, pm, an, cdv, ct, osl, rfl, l, c⟩
def Bnd (x qual : Str) (st : Stmt) (ps : List Str) : Prop := ∀ (kV doc pm : Value) (an : Option Addr) (cdv ct : Value) (us : List Value), us.length = ps.length → bindArgs (PySem.W.fnOf x qual (C8.fnArgs st) (C8.fnBody st) (C8.fnScope st) .none kV doc pm an cdv ct) ⟨us, []⟩ = pure (ps.zip us)
theorem dfn_mk {x : Str} {st : Stmt} {ps : List Str} {f : Addr} {oc : Value} {od an : Option Addr} {osl : Array (Option Value)} {kV doc pm cdv ct : Value} (b : Bnd x x st ps) (X : K.In h) (G : h.Ns mainGlobals mg) (a : PySem.W.nsIn K mainGlobals x = some (some (.ref f)))
    (l : K.lookup f = some ⟨oc, od, .func (PySem.W.fnOf x x (C8.fnArgs st) (C8.fnBody st) (C8.fnScope st) .none kV doc pm an cdv ct), osl⟩) (c : PySem.W.codeIn K cdv x = true) (k : PySem.W.keepIn K (.ref f) = true) : Dfn K mg x st ps :=
  ⟨f, _, ⟨fun_of l c, PySem.W.mg_of X G a, k⟩, (fun_of l c).binds rfl b⟩
theorem mtd_mk {C : Addr} {m qual : Str} {st : Stmt} {ps : List Str} {f : Addr} {oc : Value} {od an : Option Addr} {osl : Array (Option Value)} {kV doc pm cdv ct : Value} (b : Bnd m qual st ps) (cl : Cls K C) (a : PySem.W.findIn K (.ref C) m = some (some (.ref f))) (i : PySem.W.isFn K (.ref f) = true)
    (l : K.lookup f = some ⟨oc, od, .func (PySem.W.fnOf m qual (C8.fnArgs st) (C8.fnBody st) (C8.fnScope st) .none kV doc pm an cdv ct), osl⟩) (c : PySem.W.codeIn K cdv qual = true) (k : PySem.W.keepIn K (.ref f) = true) : Mtd K C m qual st ps :=
  ⟨f, _, cl, ⟨a, i, k⟩, fun_of l c, (fun_of l c).binds rfl b⟩
theorem ini_mk {C : Addr} {x qual : Str} {st : Stmt} {ps : List Str} {f : Addr} {oc : Value} {od an : Option Addr} {osl : Array (Option Value)} {kV doc pm cdv ct : Value} (b : Bnd "__init__" qual st ps) (X : K.In h) (G : h.Ns mainGlobals mg) (aC : PySem.W.nsIn K mainGlobals x = some (some (.ref C)))
    (mk : PySem.W.makesIn K C = true) (kc : PySem.W.keepIn K (.ref C) = true) (a : PySem.W.findIn K (.ref C) "__init__" = some (some (.ref f))) (i : PySem.W.isFn K (.ref f) = true)
    (l : K.lookup f = some ⟨oc, od, .func (PySem.W.fnOf "__init__" qual (C8.fnArgs st) (C8.fnBody st) (C8.fnScope st) .none kV doc pm an cdv ct), osl⟩) (c : PySem.W.codeIn K cdv qual = true) : Ini K mg x C qual st ps :=
  ⟨f, _, ⟨mk, a, i, kc⟩, PySem.W.mg_of X G aC, fun_of l c, (fun_of l c).binds rfl b⟩
theorem kt_mk {a : Addr} {its : Array Value} {n : Nat} {od : Option Addr} {sl : Array (Option Value)} {xs : List V} (l : K.lookup a = some ⟨.type "tuple", od, .seq its n, sl⟩) (hz : its.size ≤ sizeLine) (v : Vals xs its.toList) : KT K a xs := ⟨_, its, n, l, rfl, rfl, hz, v⟩
theorem vi_vals {t : Tok} {z : Nat} {l : List Nat} {us : List Value} (h : Vals (vi l) us) : Vals (vi (z :: l)) (.int (z : Int) t :: us) := .cons ⟨t, rfl⟩ h
theorem kt3 {e : Addr} {a b c : Nat} {t1 t2 t3 : Tok} {n : Nat} {od : Option Addr} {sl : Array (Option Value)} (l : K.lookup e = some ⟨.type "tuple", od, .seq #[.int (a : Int) t1, .int (b : Int) t2, .int (c : Int) t3] n, sl⟩) : KT K e (vi [a, b, c]) :=
  kt_mk l (by show 3 ≤ sizeLine; decide) (vi_vals (vi_vals (vi_vals .nil)))
theorem glo_mk {aB aE e1 e2 e3 e4 e5 e6 aF aN aR : Addr} {nB nE n1 n2 n3 n4 n5 n6 nF nN nR : Nat} {dB dE d1 d2 d3 d4 d5 d6 dF dN dR : Option Addr} {sB sE s1 s2 s3 s4 s5 s6 sF sN sR : Array (Option Value)}
    {t11 t12 t13 t21 t22 t23 t31 t32 t33 t41 t42 t43 t51 t52 t53 t61 t62 t63 f1 f2 f3 u1 u2 u3 u4 u5 u6 u7 u8 r1 r2 r3 r4 r5 r6 r7 r8 q1 q2 q3 q4 q5 q6 : Tok} (X : K.In h) (G : h.Ns mainGlobals mg)
    (gB : PySem.W.nsIn K mainGlobals "BOTH" = some (some (.ref aB))) (lB : K.lookup aB = some ⟨.type "tuple", dB, .seq #[.bool false, .bool true] nB, sB⟩)
    (gE : PySem.W.nsIn K mainGlobals "EXCHANGES" = some (some (.ref aE))) (lE : K.lookup aE = some ⟨.type "tuple", dE, .seq #[.ref e1, .ref e2, .ref e3, .ref e4, .ref e5, .ref e6] nE, sE⟩)
    (l1 : K.lookup e1 = some ⟨.type "tuple", d1, .seq #[.int ((0 : Nat) : Int) t11, .int ((1 : Nat) : Int) t12, .int ((2 : Nat) : Int) t13] n1, s1⟩)
    (l2 : K.lookup e2 = some ⟨.type "tuple", d2, .seq #[.int ((0 : Nat) : Int) t21, .int ((2 : Nat) : Int) t22, .int ((1 : Nat) : Int) t23] n2, s2⟩)
    (l3 : K.lookup e3 = some ⟨.type "tuple", d3, .seq #[.int ((1 : Nat) : Int) t31, .int ((0 : Nat) : Int) t32, .int ((2 : Nat) : Int) t33] n3, s3⟩)
    (l4 : K.lookup e4 = some ⟨.type "tuple", d4, .seq #[.int ((1 : Nat) : Int) t41, .int ((2 : Nat) : Int) t42, .int ((0 : Nat) : Int) t43] n4, s4⟩)
    (l5 : K.lookup e5 = some ⟨.type "tuple", d5, .seq #[.int ((2 : Nat) : Int) t51, .int ((0 : Nat) : Int) t52, .int ((1 : Nat) : Int) t53] n5, s5⟩)
    (l6 : K.lookup e6 = some ⟨.type "tuple", d6, .seq #[.int ((2 : Nat) : Int) t61, .int ((1 : Nat) : Int) t62, .int ((0 : Nat) : Int) t63] n6, s6⟩)
    (gF : PySem.W.nsIn K mainGlobals "AT_FIRST" = some (some (.ref aF))) (lF : K.lookup aF = some ⟨.type "tuple", dF, .seq #[.int ((2 : Nat) : Int) f1, .int ((2 : Nat) : Int) f2, .int ((2 : Nat) : Int) f3] nF, sF⟩)
    (gN : PySem.W.nsIn K mainGlobals "HOW_MANY_NUMBERS" = some (some (.ref aN))) (lN : K.lookup aN = some ⟨.type "tuple", dN, .seq #[.int ((3 : Nat) : Int) u1, .int ((0 : Nat) : Int) u2, .int ((0 : Nat) : Int) u3, .int ((0 : Nat) : Int) u4, .int ((0 : Nat) : Int) u5, .int ((0 : Nat) : Int) u6, .int ((0 : Nat) : Int) u7, .int ((0 : Nat) : Int) u8] nN, sN⟩)
    (gR : PySem.W.nsIn K mainGlobals "HOW_MANY_ROWS" = some (some (.ref aR))) (lR : K.lookup aR = some ⟨.type "tuple", dR, .seq #[.int ((0 : Nat) : Int) r1, .int ((1 : Nat) : Int) r2, .int ((1 : Nat) : Int) r3, .int ((1 : Nat) : Int) r4, .int ((2 : Nat) : Int) r5, .int ((1 : Nat) : Int) r6, .int ((0 : Nat) : Int) r7, .int ((0 : Nat) : Int) r8] nR, sR⟩)
    (g1 : PySem.W.nsIn K mainGlobals "NO_BOX" = some (some (.int (-1) q1))) (g2 : PySem.W.nsIn K mainGlobals "NO_CHAIN" = some (some (.int (-2) q2))) (g3 : PySem.W.nsIn K mainGlobals "NO_PATH" = some (some (.int (-6) q3)))
    (g4 : PySem.W.nsIn K mainGlobals "MOST_ALONG" = some (some (.int 4 q4))) (g5 : PySem.W.nsIn K mainGlobals "MOST_CELLS" = some (some (.int 12 q5))) (g6 : PySem.W.nsIn K mainGlobals "LEAST_CELLS" = some (some (.int 2 q6))) : Glo K mg where
  both := ⟨aB, PySem.W.mg_of X G gB, kt_mk lB (by show 2 ≤ sizeLine; decide) (.cons rfl (.cons rfl .nil))⟩
  exch := ⟨aE, [e1, e2, e3, e4, e5, e6], PySem.W.mg_of X G gE, kt_mk lE (by show 6 ≤ sizeLine; decide) (.cons rfl (.cons rfl (.cons rfl (.cons rfl (.cons rfl (.cons rfl .nil)))))),
    .cons (kt3 l1) (.cons (kt3 l2) (.cons (kt3 l3) (.cons (kt3 l4) (.cons (kt3 l5) (.cons (kt3 l6) .nil)))))⟩
  first := ⟨aF, PySem.W.mg_of X G gF, kt3 lF⟩
  nums := ⟨aN, PySem.W.mg_of X G gN, kt_mk lN (by show 8 ≤ sizeLine; decide) (vi_vals (vi_vals (vi_vals (vi_vals (vi_vals (vi_vals (vi_vals (vi_vals .nil))))))))⟩
  rows := ⟨aR, PySem.W.mg_of X G gR, kt_mk lR (by show 8 ≤ sizeLine; decide) (vi_vals (vi_vals (vi_vals (vi_vals (vi_vals (vi_vals (vi_vals (vi_vals .nil))))))))⟩
  noBox := ⟨_, PySem.W.mg_of X G g1⟩
  noChain := ⟨_, PySem.W.mg_of X G g2⟩
  noPath := ⟨_, PySem.W.mg_of X G g3⟩
  mostA := ⟨_, PySem.W.mg_of X G g4⟩
  mostC := ⟨_, PySem.W.mg_of X G g5⟩
  leastC := ⟨_, PySem.W.mg_of X G g6⟩
theorem fc_mk {C : Addr} (pg : PySem.W.plainGet K C Str.empty = true) (hd : PySem.W.hasDictIn K C = true) (po : PySem.W.plainOver K C = true) (sa : PySem.W.findIn K (.ref C) "__setattr__" = some (some (.builtin "object.__setattr__"))) (n1 : PySem.W.findIn K (.ref C) "paths" = some none) (n2 : PySem.W.findIn K (.ref C) "chains" = some none) (n3 : PySem.W.findIn K (.ref C) "kinds" = some none) : FC K C := ⟨⟨pg, hd, po, sa⟩, n1, n2, n3⟩
theorem hc_mk {C : Addr} (pg : PySem.W.plainGet K C Str.empty = true) (hd : PySem.W.hasDictIn K C = true) (po : PySem.W.plainOver K C = true) (sa : PySem.W.findIn K (.ref C) "__setattr__" = some (some (.builtin "object.__setattr__"))) (n1 : PySem.W.findIn K (.ref C) "box" = some none) (n2 : PySem.W.findIn K (.ref C) "worked_out" = some none) : HC K C := ⟨⟨pg, hd, po, sa⟩, n1, n2⟩
theorem blt_mk (X : K.In h) (G : h.Ns mainGlobals mg) (b1 : PySem.W.nsIn K mainGlobals "sum" = some none) (b2 : PySem.W.nsIn K mainGlobals "abs" = some none) (b3 : PySem.W.nsIn K mainGlobals "zip" = some none) (b4 : PySem.W.nsIn K mainGlobals "len" = some none) (b5 : PySem.W.nsIn K mainGlobals "range" = some none) (b6 : PySem.W.nsIn K mainGlobals "list" = some none) (b7 : PySem.W.nsIn K mainGlobals "tuple" = some none)
    (b8 : PySem.W.nsIn K mainGlobals "int" = some none) (b9 : PySem.W.nsIn K mainGlobals "enumerate" = some none) (b10 : PySem.W.nsIn K mainGlobals "all" = some none) (b11 : PySem.W.nsIn K mainGlobals "min" = some none) (b12 : PySem.W.nsIn K mainGlobals "max" = some none) (b13 : PySem.W.nsIn K mainGlobals "sorted" = some none) (b14 : PySem.W.nsIn K mainGlobals "set" = some none) : Blt mg :=
  have f : ∀ {x : Str}, PySem.W.nsIn K mainGlobals x = some none → mg x = none := fun e => PySem.W.mg_none_of X G e
  ⟨f b1, f b2, f b3, f b4, f b5, f b6, f b7, f b8, f b9, f b10, f b11, f b12, f b13, f b14⟩
end
theorem bd_spot_of : Bnd "spot_of" "spot_of" sSpot ["box", "cell"] := fun _ _ _ _ _ _ us hl => match us, hl with | [_, _], _ => rfl
theorem bd_cell_at : Bnd "cell_at" "cell_at" sCell ["box", "spot"] := fun _ _ _ _ _ _ us hl => match us, hl with | [_, _], _ => rfl
theorem bd_how_many : Bnd "how_many" "how_many" sMany ["box"] := fun _ _ _ _ _ _ us hl => match us, hl with | [_], _ => rfl
theorem bd_all_cells : Bnd "all_cells" "all_cells" sCells ["box"] := fun _ _ _ _ _ _ us hl => match us, hl with | [_], _ => rfl
theorem bd_are_beside : Bnd "are_beside" "are_beside" sBeside ["box", "one", "other"] := fun _ _ _ _ _ _ us hl => match us, hl with | [_, _, _], _ => rfl
theorem bd_neighbours : Bnd "neighbours" "neighbours" sNeigh ["box"] := fun _ _ _ _ _ _ us hl => match us, hl with | [_], _ => rfl
theorem bd_turns_at : Bnd "turns_at" "turns_at" sTurns ["box", "ahead", "cell", "behind"] := fun _ _ _ _ _ _ us hl => match us, hl with | [_, _, _, _], _ => rfl
theorem bd_chain_of : Bnd "chain_of" "chain_of" sChain ["box", "path"] := fun _ _ _ _ _ _ us hl => match us, hl with | [_, _], _ => rfl
theorem bd_first_wrong : Bnd "first_wrong" "first_wrong" sWrong ["box", "cells"] := fun _ _ _ _ _ _ us hl => match us, hl with | [_, _], _ => rfl
theorem bd_all_paths : Bnd "all_paths" "all_paths" sPaths ["box"] := fun _ _ _ _ _ _ us hl => match us, hl with | [_], _ => rfl
theorem bd_moved_spot : Bnd "moved_spot" "moved_spot" sMoved ["box", "spot", "exchange", "ends"] := fun _ _ _ _ _ _ us hl => match us, hl with | [_, _, _, _], _ => rfl
theorem bd_all_ends : Bnd "all_ends" "all_ends" sEnds [] := fun _ _ _ _ _ _ us hl => match us, hl with | [], _ => rfl
theorem bd_all_images : Bnd "all_images" "all_images" sImages ["box"] := fun _ _ _ _ _ _ us hl => match us, hl with | [_], _ => rfl
theorem bd_least_image : Bnd "least_image" "least_image" sLeast ["images", "path"] := fun _ _ _ _ _ _ us hl => match us, hl with | [_, _], _ => rfl
theorem bd_how_far : Bnd "how_far" "how_far" sFar ["one", "other"] := fun _ _ _ _ _ _ us hl => match us, hl with | [_, _], _ => rfl
theorem bd_rows_behind : Bnd "rows_behind" "rows_behind" sRows ["calls", "at", "many"] := fun _ _ _ _ _ _ us hl => match us, hl with | [_, _, _], _ => rfl
theorem bi_F : Bnd "__init__" "Foldings.__init__" (mF 0) ["self", "box"] := fun _ _ _ _ _ _ us hl => match us, hl with | [_, _], _ => rfl
theorem bi_H : Bnd "__init__" "Holder.__init__" (mH 0) ["self"] := fun _ _ _ _ _ _ us hl => match us, hl with | [_], _ => rfl
theorem bf_of_chain : Bnd "of_chain" "Foldings.of_chain" (mF 1) ["self", "chain"] := fun _ _ _ _ _ _ us hl => match us, hl with | [_, _], _ => rfl
theorem bf_many_kinds : Bnd "many_kinds" "Foldings.many_kinds" (mF 2) ["self", "chain"] := fun _ _ _ _ _ _ us hl => match us, hl with | [_, _], _ => rfl
theorem bf_begin_cells : Bnd "begin_cells" "Foldings.begin_cells" (mF 3) ["self", "chain"] := fun _ _ _ _ _ _ us hl => match us, hl with | [_, _], _ => rfl
theorem bf_with_beginning : Bnd "with_beginning" "Foldings.with_beginning" (mF 4) ["self", "chain", "cells"] := fun _ _ _ _ _ _ us hl => match us, hl with | [_, _, _], _ => rfl
theorem bf_nearest : Bnd "nearest" "Foldings.nearest" (mF 5) ["self", "chain"] := fun _ _ _ _ _ _ us hl => match us, hl with | [_, _], _ => rfl
theorem bf_many_paths : Bnd "many_paths" "Foldings.many_paths" (mF 6) ["self"] := fun _ _ _ _ _ _ us hl => match us, hl with | [_], _ => rfl
theorem bf_many_single : Bnd "many_single" "Foldings.many_single" (mF 7) ["self"] := fun _ _ _ _ _ _ us hl => match us, hl with | [_], _ => rfl
theorem bf_told_turns : Bnd "told_turns" "Foldings.told_turns" (mF 8) ["self"] := fun _ _ _ _ _ _ us hl => match us, hl with | [_], _ => rfl
theorem bh_begins : Bnd "begins" "Holder.begins" (mH 1) ["self", "box"] := fun _ _ _ _ _ _ us hl => match us, hl with | [_, _], _ => rfl
theorem bh_foldings : Bnd "foldings" "Holder.foldings" (mH 2) ["self"] := fun _ _ _ _ _ _ us hl => match us, hl with | [_], _ => rfl
theorem bh_path : Bnd "path" "Holder.path" (mH 3) ["self", "cells"] := fun _ _ _ _ _ _ us hl => match us, hl with | [_, _], _ => rfl
theorem bh_is_chain : Bnd "is_chain" "Holder.is_chain" (mH 4) ["self", "chain"] := fun _ _ _ _ _ _ us hl => match us, hl with | [_, _], _ => rfl
theorem bh_folds : Bnd "folds" "Holder.folds" (mH 5) ["self", "chain"] := fun _ _ _ _ _ _ us hl => match us, hl with | [_, _], _ => rfl
theorem bh_goes : Bnd "goes" "Holder.goes" (mH 6) ["self", "chain", "cells"] := fun _ _ _ _ _ _ us hl => match us, hl with | [_, _, _], _ => rfl
theorem bh_of_chain : Bnd "of_chain" "Holder.of_chain" (mH 7) ["self", "call", "chain", "cells"] := fun _ _ _ _ _ _ us hl => match us, hl with | [_, _, _, _], _ => rfl
theorem bh_only : Bnd "only" "Holder.only" (mH 8) ["self"] := fun _ _ _ _ _ _ us hl => match us, hl with | [_], _ => rfl
theorem bh_answer : Bnd "answer" "Holder.answer" (mH 9) ["self", "call", "n", "rows"] := fun _ _ _ _ _ _ us hl => match us, hl with | [_, _, _, _], _ => rfl
theorem all_mk {P : Program} {w : World} {K : PySem.W.Frag} {h : Heap} {mg : Str → Option Value} {fa fo CF CH : Addr} {oc : Value} {od an : Option Addr} {osl : Array (Option Value)} {kV doc pm cdv ct : Value} (X : K.In h) (G : h.Ns mainGlobals mg) (hfa : mg "answers" = some (.ref fa))
    (aF : PySem.W.nsIn K mainGlobals "Foldings" = some (some (.ref CF))) (aH : PySem.W.nsIn K mainGlobals "Holder" = some (some (.ref CH)))
    (a : PySem.W.nsIn K mainGlobals "answers" = some (some (.ref fo))) (l : K.lookup fo = some ⟨oc, od, .func (PySem.W.fnOf "answers" "answers" (C8.fnArgs sAns) (C8.fnBody sAns) (C8.fnScope sAns) .none kV doc pm an cdv ct), osl⟩) (c : PySem.W.codeIn K cdv "answers" = true)
    (T : Blt mg) (GL : Glo K mg) (cF : FC K CF) (cH : HC K CH) (iF : Ini K mg "Foldings" CF "Foldings.__init__" (mF 0) ["self", "box"]) (iH : Ini K mg "Holder" CH "Holder.__init__" (mH 0) ["self"])
    (d1 : Dfn K mg "spot_of" sSpot ["box", "cell"])
    (d2 : Dfn K mg "cell_at" sCell ["box", "spot"])
    (d3 : Dfn K mg "how_many" sMany ["box"])
    (d4 : Dfn K mg "all_cells" sCells ["box"])
    (d5 : Dfn K mg "are_beside" sBeside ["box", "one", "other"])
    (d6 : Dfn K mg "neighbours" sNeigh ["box"])
    (d7 : Dfn K mg "turns_at" sTurns ["box", "ahead", "cell", "behind"])
    (d8 : Dfn K mg "chain_of" sChain ["box", "path"])
    (d9 : Dfn K mg "first_wrong" sWrong ["box", "cells"])
    (d10 : Dfn K mg "all_paths" sPaths ["box"])
    (d11 : Dfn K mg "moved_spot" sMoved ["box", "spot", "exchange", "ends"])
    (d12 : Dfn K mg "all_ends" sEnds [])
    (d13 : Dfn K mg "all_images" sImages ["box"])
    (d14 : Dfn K mg "least_image" sLeast ["images", "path"])
    (d15 : Dfn K mg "how_far" sFar ["one", "other"])
    (d16 : Dfn K mg "rows_behind" sRows ["calls", "at", "many"])
    (f1 : Mtd K CF "of_chain" "Foldings.of_chain" (mF 1) ["self", "chain"])
    (f2 : Mtd K CF "many_kinds" "Foldings.many_kinds" (mF 2) ["self", "chain"])
    (f3 : Mtd K CF "begin_cells" "Foldings.begin_cells" (mF 3) ["self", "chain"])
    (f4 : Mtd K CF "with_beginning" "Foldings.with_beginning" (mF 4) ["self", "chain", "cells"])
    (f5 : Mtd K CF "nearest" "Foldings.nearest" (mF 5) ["self", "chain"])
    (f6 : Mtd K CF "many_paths" "Foldings.many_paths" (mF 6) ["self"])
    (f7 : Mtd K CF "many_single" "Foldings.many_single" (mF 7) ["self"])
    (f8 : Mtd K CF "told_turns" "Foldings.told_turns" (mF 8) ["self"])
    (h1 : Mtd K CH "begins" "Holder.begins" (mH 1) ["self", "box"])
    (h2 : Mtd K CH "foldings" "Holder.foldings" (mH 2) ["self"])
    (h3 : Mtd K CH "path" "Holder.path" (mH 3) ["self", "cells"])
    (h4 : Mtd K CH "is_chain" "Holder.is_chain" (mH 4) ["self", "chain"])
    (h5 : Mtd K CH "folds" "Holder.folds" (mH 5) ["self", "chain"])
    (h6 : Mtd K CH "goes" "Holder.goes" (mH 6) ["self", "chain", "cells"])
    (h7 : Mtd K CH "of_chain" "Holder.of_chain" (mH 7) ["self", "call", "chain", "cells"])
    (h8 : Mtd K CH "only" "Holder.only" (mH 8) ["self"])
    (h9 : Mtd K CH "answer" "Holder.answer" (mH 9) ["self", "call", "n", "rows"]) :
    ∃ fd : FuncData, (∀ (s : Shared) (us : List Value), us.length = (["calls"] : List Str).length → BindsTo s fd ⟨us, []⟩ ((["calls"] : List Str).zip us)) ∧ ∀ base : Heap, K.In base → base.Ns mainGlobals mg → FnOk P w K mg base C8.CX0 11 fa fd ["calls"] (spAns K) := by
  have e := hfa.symm.trans (PySem.W.mg_of X G a)
  cases e
  refine ⟨PySem.W.fnOf "answers" "answers" (C8.fnArgs sAns) (C8.fnBody sAns) (C8.fnScope sAns) .none kV doc pm an cdv ct, fun s us hu => match us, hu with | [_], _ => .of_eq rfl, fun base _ _ => ?_⟩
  have g1 := cal_spot (P := P) (w := w) (base := base) d1
  have g2 := cal_cell (P := P) (w := w) (base := base) d2
  have g3 := cal_many (P := P) (w := w) (base := base) d3
  have g4 := cal_cells T d4 g3
  have g5 := cal_beside T d5 g1
  have g6 := cal_neigh T d6 g4 g5
  have g7 := cal_turns T d7 g1
  have g8 := cal_chain T d8 g7
  have g9 := cal_wrong T d9 g3 g5
  have g10 := cal_paths T d10 g6 g4
  have g11 := cal_moved (P := P) (w := w) (base := base) T d11
  have g12 := cal_ends (P := P) (w := w) (base := base) T GL d12
  have g13 := cal_images T GL d13 g12 g4 g1 g11 g2
  have g14 := cal_least (P := P) (w := w) (base := base) T d14
  have g15 := cal_far (P := P) (w := w) (base := base) T d15
  have g16 := cal_rows (P := P) (w := w) (base := base) T d16
  have mF_ := mak_fold T cF iF g13 g10 g8 g14
  have k1 := met_of (P := P) (w := w) (mg := mg) (base := base) cF f1
  have k2 := met_kinds (P := P) (w := w) (mg := mg) (base := base) cF f2
  have k3 := met_begin T cF f3 k1
  have k4 := met_with T cF f4 k1
  have k5 := met_near T cF f5 g15
  have k6 := met_mp (P := P) (w := w) (base := base) T cF f6
  have k7 := met_ms (P := P) (w := w) (base := base) T cF f7
  have k8 := met_told (P := P) (w := w) (base := base) T cF f8
  have mH_ := mak_hold (P := P) (w := w) (base := base) (CF := CF) cH GL iH
  have m2 := met_fo cH h2 mF_
  have m1 := met_begs (CF := CF) T GL cH h1 g3
  have m3 := met_path (CF := CF) T GL cH h3 g3 g9 g8
  have m4 := met_is (CF := CF) T cH h4 g3
  have m5 := met_fs T cH h5 m2 k1 k2
  have m6 := met_go T GL cH h6 m2 k4 g9
  have m7 := met_oc T GL cH h7 m2 m4 m5 k3 m6 k5
  have m8 := met_on T cH cF h8 m2 k6 k7
  have m9 := met_aw cH h9 m2 m1 m3 m8 k8 m7
  exact ok_ans T GL (fun_of l c) mH_ g16 m9
end CC
open PySem PySem.W PyProof.Rows
set_option maxRecDepth 100000 in
set_option maxHeartbeats 16000000 in
theorem PySem.Challenge.cw_cubechain_s01_answers_holds : PySem.Challenge.rw_cubechain_s01_answers.Holds := by
  w_on; k_headS; (case hw => exact ⟨[.list [.int 0, .int 5, .int 5, .int 5]], by decide +kernel, by decide +kernel⟩)
  k_fillS
  refine L2.walk_specK (r := PySem.Challenge.rw_cubechain_s01_answers) (k := 11) (CX := C8.CX0) (ps := ["calls"]) (sp := CC.spAns) (by decide +kernel) rfl rfl ⟨rfl, by decide, by decide⟩ (fun w h Y => PySem.W.kIn_of Y) ?F ?S (fun _ _ _ _ z => z)
  case F =>
    intro w mg fa h Y KX G hmg
    refine' CC.all_mk KX G hmg ?aF ?aH ?a ?l ?c ?T ?GL ?cF ?cH ?iF ?iH ?d1 ?d2 ?d3 ?d4 ?d5 ?d6 ?d7 ?d8 ?d9 ?d10 ?d11 ?d12 ?d13 ?d14 ?d15 ?d16 ?f1 ?f2 ?f3 ?f4 ?f5 ?f6 ?f7 ?f8 ?h1 ?h2 ?h3 ?h4 ?h5 ?h6 ?h7 ?h8 ?h9
    (case aF => k_is); (case aH => k_is); (case a => k_is); (case l => k_is); (case c => k_is)
    (case T => refine' CC.blt_mk KX G ?b1 ?b2 ?b3 ?b4 ?b5 ?b6 ?b7 ?b8 ?b9 ?b10 ?b11 ?b12 ?b13 ?b14 <;> k_is)
    (case GL => refine' CC.glo_mk KX G ?gB ?lB ?gE ?lE ?l1 ?l2 ?l3 ?l4 ?l5 ?l6 ?gF ?lF ?gN ?lN ?gR ?lR ?g1 ?g2 ?g3 ?g4 ?g5 ?g6; (case gB => k_is); (case lB => k_is); (case gE => k_is); (case lE => k_is); (case l1 => k_is); (case l2 => k_is); (case l3 => k_is); (case l4 => k_is); (case l5 => k_is); (case l6 => k_is); (case gF => k_is); (case lF => k_is); (case gN => k_is); (case lN => k_is); (case gR => k_is); (case lR => k_is); (case g1 => k_is); (case g2 => k_is); (case g3 => k_is); (case g4 => k_is); (case g5 => k_is); (case g6 => k_is))
    (case cF => refine' CC.fc_mk ?pg ?hd ?po ?sa ?n1 ?n2 ?n3; (case pg => k_is); (case hd => k_is); (case po => k_is); (case sa => k_is); (case n1 => k_is); (case n2 => k_is); (case n3 => k_is))
    (case cH => refine' CC.hc_mk ?pg ?hd ?po ?sa ?n1 ?n2; (case pg => k_is); (case hd => k_is); (case po => k_is); (case sa => k_is); (case n1 => k_is); (case n2 => k_is))
    (case iF => refine' CC.ini_mk CC.bi_F KX G ?aC ?mk ?kc ?a ?i ?l ?c; (case aC => k_is); (case mk => k_is); (case kc => k_is); (case a => k_is); (case i => k_is); (case l => k_is); (case c => k_is))
    (case iH => refine' CC.ini_mk CC.bi_H KX G ?aC ?mk ?kc ?a ?i ?l ?c; (case aC => k_is); (case mk => k_is); (case kc => k_is); (case a => k_is); (case i => k_is); (case l => k_is); (case c => k_is))
    (case d1 => refine' CC.dfn_mk CC.bd_spot_of KX G ?a ?l ?c ?k; (case a => k_is); (case l => k_is); (case c => k_is); (case k => k_is))
    (case d2 => refine' CC.dfn_mk CC.bd_cell_at KX G ?a ?l ?c ?k; (case a => k_is); (case l => k_is); (case c => k_is); (case k => k_is))
    (case d3 => refine' CC.dfn_mk CC.bd_how_many KX G ?a ?l ?c ?k; (case a => k_is); (case l => k_is); (case c => k_is); (case k => k_is))
    (case d4 => refine' CC.dfn_mk CC.bd_all_cells KX G ?a ?l ?c ?k; (case a => k_is); (case l => k_is); (case c => k_is); (case k => k_is))
    (case d5 => refine' CC.dfn_mk CC.bd_are_beside KX G ?a ?l ?c ?k; (case a => k_is); (case l => k_is); (case c => k_is); (case k => k_is))
    (case d6 => refine' CC.dfn_mk CC.bd_neighbours KX G ?a ?l ?c ?k; (case a => k_is); (case l => k_is); (case c => k_is); (case k => k_is))
    (case d7 => refine' CC.dfn_mk CC.bd_turns_at KX G ?a ?l ?c ?k; (case a => k_is); (case l => k_is); (case c => k_is); (case k => k_is))
    (case d8 => refine' CC.dfn_mk CC.bd_chain_of KX G ?a ?l ?c ?k; (case a => k_is); (case l => k_is); (case c => k_is); (case k => k_is))
    (case d9 => refine' CC.dfn_mk CC.bd_first_wrong KX G ?a ?l ?c ?k; (case a => k_is); (case l => k_is); (case c => k_is); (case k => k_is))
    (case d10 => refine' CC.dfn_mk CC.bd_all_paths KX G ?a ?l ?c ?k; (case a => k_is); (case l => k_is); (case c => k_is); (case k => k_is))
    (case d11 => refine' CC.dfn_mk CC.bd_moved_spot KX G ?a ?l ?c ?k; (case a => k_is); (case l => k_is); (case c => k_is); (case k => k_is))
    (case d12 => refine' CC.dfn_mk CC.bd_all_ends KX G ?a ?l ?c ?k; (case a => k_is); (case l => k_is); (case c => k_is); (case k => k_is))
    (case d13 => refine' CC.dfn_mk CC.bd_all_images KX G ?a ?l ?c ?k; (case a => k_is); (case l => k_is); (case c => k_is); (case k => k_is))
    (case d14 => refine' CC.dfn_mk CC.bd_least_image KX G ?a ?l ?c ?k; (case a => k_is); (case l => k_is); (case c => k_is); (case k => k_is))
    (case d15 => refine' CC.dfn_mk CC.bd_how_far KX G ?a ?l ?c ?k; (case a => k_is); (case l => k_is); (case c => k_is); (case k => k_is))
    (case d16 => refine' CC.dfn_mk CC.bd_rows_behind KX G ?a ?l ?c ?k; (case a => k_is); (case l => k_is); (case c => k_is); (case k => k_is))
    (case f1 => refine' CC.mtd_mk CC.bf_of_chain ?z ?a ?i ?l ?c ?k; (case z => refine' ⟨?pg, ?hd, ?po, ?sa⟩; (case pg => k_is); (case hd => k_is); (case po => k_is); (case sa => k_is)); (case a => k_is); (case i => k_is); (case l => k_is); (case c => k_is); (case k => k_is))
    (case f2 => refine' CC.mtd_mk CC.bf_many_kinds ?z ?a ?i ?l ?c ?k; (case z => refine' ⟨?pg, ?hd, ?po, ?sa⟩; (case pg => k_is); (case hd => k_is); (case po => k_is); (case sa => k_is)); (case a => k_is); (case i => k_is); (case l => k_is); (case c => k_is); (case k => k_is))
    (case f3 => refine' CC.mtd_mk CC.bf_begin_cells ?z ?a ?i ?l ?c ?k; (case z => refine' ⟨?pg, ?hd, ?po, ?sa⟩; (case pg => k_is); (case hd => k_is); (case po => k_is); (case sa => k_is)); (case a => k_is); (case i => k_is); (case l => k_is); (case c => k_is); (case k => k_is))
    (case f4 => refine' CC.mtd_mk CC.bf_with_beginning ?z ?a ?i ?l ?c ?k; (case z => refine' ⟨?pg, ?hd, ?po, ?sa⟩; (case pg => k_is); (case hd => k_is); (case po => k_is); (case sa => k_is)); (case a => k_is); (case i => k_is); (case l => k_is); (case c => k_is); (case k => k_is))
    (case f5 => refine' CC.mtd_mk CC.bf_nearest ?z ?a ?i ?l ?c ?k; (case z => refine' ⟨?pg, ?hd, ?po, ?sa⟩; (case pg => k_is); (case hd => k_is); (case po => k_is); (case sa => k_is)); (case a => k_is); (case i => k_is); (case l => k_is); (case c => k_is); (case k => k_is))
    (case f6 => refine' CC.mtd_mk CC.bf_many_paths ?z ?a ?i ?l ?c ?k; (case z => refine' ⟨?pg, ?hd, ?po, ?sa⟩; (case pg => k_is); (case hd => k_is); (case po => k_is); (case sa => k_is)); (case a => k_is); (case i => k_is); (case l => k_is); (case c => k_is); (case k => k_is))
    (case f7 => refine' CC.mtd_mk CC.bf_many_single ?z ?a ?i ?l ?c ?k; (case z => refine' ⟨?pg, ?hd, ?po, ?sa⟩; (case pg => k_is); (case hd => k_is); (case po => k_is); (case sa => k_is)); (case a => k_is); (case i => k_is); (case l => k_is); (case c => k_is); (case k => k_is))
    (case f8 => refine' CC.mtd_mk CC.bf_told_turns ?z ?a ?i ?l ?c ?k; (case z => refine' ⟨?pg, ?hd, ?po, ?sa⟩; (case pg => k_is); (case hd => k_is); (case po => k_is); (case sa => k_is)); (case a => k_is); (case i => k_is); (case l => k_is); (case c => k_is); (case k => k_is))
    (case h1 => refine' CC.mtd_mk CC.bh_begins ?z ?a ?i ?l ?c ?k; (case z => refine' ⟨?pg, ?hd, ?po, ?sa⟩; (case pg => k_is); (case hd => k_is); (case po => k_is); (case sa => k_is)); (case a => k_is); (case i => k_is); (case l => k_is); (case c => k_is); (case k => k_is))
    (case h2 => refine' CC.mtd_mk CC.bh_foldings ?z ?a ?i ?l ?c ?k; (case z => refine' ⟨?pg, ?hd, ?po, ?sa⟩; (case pg => k_is); (case hd => k_is); (case po => k_is); (case sa => k_is)); (case a => k_is); (case i => k_is); (case l => k_is); (case c => k_is); (case k => k_is))
    (case h3 => refine' CC.mtd_mk CC.bh_path ?z ?a ?i ?l ?c ?k; (case z => refine' ⟨?pg, ?hd, ?po, ?sa⟩; (case pg => k_is); (case hd => k_is); (case po => k_is); (case sa => k_is)); (case a => k_is); (case i => k_is); (case l => k_is); (case c => k_is); (case k => k_is))
    (case h4 => refine' CC.mtd_mk CC.bh_is_chain ?z ?a ?i ?l ?c ?k; (case z => refine' ⟨?pg, ?hd, ?po, ?sa⟩; (case pg => k_is); (case hd => k_is); (case po => k_is); (case sa => k_is)); (case a => k_is); (case i => k_is); (case l => k_is); (case c => k_is); (case k => k_is))
    (case h5 => refine' CC.mtd_mk CC.bh_folds ?z ?a ?i ?l ?c ?k; (case z => refine' ⟨?pg, ?hd, ?po, ?sa⟩; (case pg => k_is); (case hd => k_is); (case po => k_is); (case sa => k_is)); (case a => k_is); (case i => k_is); (case l => k_is); (case c => k_is); (case k => k_is))
    (case h6 => refine' CC.mtd_mk CC.bh_goes ?z ?a ?i ?l ?c ?k; (case z => refine' ⟨?pg, ?hd, ?po, ?sa⟩; (case pg => k_is); (case hd => k_is); (case po => k_is); (case sa => k_is)); (case a => k_is); (case i => k_is); (case l => k_is); (case c => k_is); (case k => k_is))
    (case h7 => refine' CC.mtd_mk CC.bh_of_chain ?z ?a ?i ?l ?c ?k; (case z => refine' ⟨?pg, ?hd, ?po, ?sa⟩; (case pg => k_is); (case hd => k_is); (case po => k_is); (case sa => k_is)); (case a => k_is); (case i => k_is); (case l => k_is); (case c => k_is); (case k => k_is))
    (case h8 => refine' CC.mtd_mk CC.bh_only ?z ?a ?i ?l ?c ?k; (case z => refine' ⟨?pg, ?hd, ?po, ?sa⟩; (case pg => k_is); (case hd => k_is); (case po => k_is); (case sa => k_is)); (case a => k_is); (case i => k_is); (case l => k_is); (case c => k_is); (case k => k_is))
    (case h9 => refine' CC.mtd_mk CC.bh_answer ?z ?a ?i ?l ?c ?k; (case z => refine' ⟨?pg, ?hd, ?po, ?sa⟩; (case pg => k_is); (case hd => k_is); (case po => k_is); (case sa => k_is)); (case a => k_is); (case i => k_is); (case l => k_is); (case c => k_is); (case k => k_is))
  case S =>
    intro K H xs a hO hwi hask hx
    cases hx with
    | cons h1 h2 =>
      cases h2
      cases h1 with
      | lst hs ha =>
        have e := L2.ints_dw a.1 _ ha
        subst e
        exact ⟨_, a.1, rfl, hs, hask, fun H' p hp => .lst (L2.SqL.of hp) (L2.dw_ints _)⟩
#print axioms PySem.Challenge.cw_cubechain_s01_answers_holds
end
