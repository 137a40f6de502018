import PyProof.Rows.All
import Wide.All
import OpenK.AllK
import Wide.FinOn
import HandS.ForMost
import HandS.Codes
import HandS.TupAny
import HandS.SortRule
import HandS.Deep
import PySem.Challenge.RW_textshards_k31_whole_reduction_keeps_all
set_option Elab.async false
set_option linter.all false
set_option maxRecDepth 100000
set_option maxHeartbeats 4000000
/-! The mathematics of the law, without any program: texts are lists of codes. -/
namespace M31
abbrev T := List Nat
/-- n signs of the circle c from s on -/
def rr (c : T) (s n : Nat) : T := (List.range n).map fun k => c.getD ((s + k) % c.length) 0
def starts (c w : T) : List Nat := (List.range c.length).filter fun p => decide (rr c p w.length = w)
/-- w occurs in t -/
def inT (w t : T) : Bool := (List.range (t.length + 1)).any fun i => decide ((t.drop i).take w.length = w)
def contBy (ls : List T) (k j : Nat) : Bool :=
  (decide ((ls.getD k []).length < (ls.getD j []).length) && inT (ls.getD k []) (ls.getD j [])) || (decide (j < k) && decide (ls.getD j [] = ls.getD k []))
def cont (ls : List T) (k : Nat) : Bool := (List.range ls.length).any (contBy ls k)
def freeIx (ls : List T) : List Nat := (List.range ls.length).filter fun k => !cont ls k
def free (ls : List T) : List T := (freeIx ls).map fun k => ls.getD k []
def isOv (a b : T) (c : Nat) : Bool := decide (1 ≤ c) && decide (c < a.length) && decide (c < b.length) && decide (a.drop (a.length - c) = b.take c)
abbrev E := Nat × Nat × Nat
def edges3 (ns : List T) (least i j : Nat) : List E :=
  ((List.range' least ((ns.getD i []).length - least)).filter fun c => isOv (ns.getD i []) (ns.getD j []) c).map fun c => (i, j, c)
def edges2 (ns : List T) (least i : Nat) : List E := (List.range ns.length).flatMap fun j => edges3 ns least i j
def edgesOf (ns : List T) (least : Nat) : List E := (List.range ns.length).flatMap fun i => edges2 ns least i
def ltE (a b : E) : Prop := a.1 < b.1 ∨ (a.1 = b.1 ∧ (a.2.1 < b.2.1 ∨ (a.2.1 = b.2.1 ∧ a.2.2 < b.2.2)))
structure GN (ns : List T) : Prop where
  ne : ns ≠ []
  le : ns.length ≤ 40
  wd : ∀ x ∈ ns, x ≠ [] ∧ x.length ≤ 60
  nc : ∀ k, k < ns.length → cont ns k = false
structure GG (ns : List T) (es : List E) : Prop where
  gn : GN ns
  le : es.length ≤ 96000
  up : es.Pairwise ltE
  ov : ∀ e ∈ es, e.1 < ns.length ∧ e.2.1 < ns.length ∧ isOv (ns.getD e.1 []) (ns.getD e.2.1 []) e.2.2 = true
def isE (i j : Nat) (c : Int) (e : E) : Bool := e.1 == i && (e.2.1 == j && ((e.2.2 : Nat) : Int) == c)
def hasE (es : List E) (i j : Nat) (c : Int) : Bool := es.any (isE i j c)
def foundK (ns : List T) (c : T) (k : Nat) : List (Nat × Nat) := (starts c (ns.getD k [])).map fun p => (p, k)
def foundTo (ns : List T) (c : T) (n : Nat) : List (Nat × Nat) := (List.range n).flatMap (foundK ns c)
def leP (a b : Nat × Nat) : Bool := decide (a.1 < b.1 ∨ (a.1 = b.1 ∧ a.2 ≤ b.2))
def occ (ns : List T) (c : T) : List (Nat × Nat) := (foundTo ns c ns.length).mergeSort leP
def noneTo (ns : List T) (c : T) (n : Nat) : Bool := (List.range n).any fun k => (starts c (ns.getD k [])).isEmpty
def nxt (f : List (Nat × Nat)) (n t : Nat) : Nat × Nat := if t + 1 < f.length then f.getD (t + 1) (0, 0) else ((f.getD 0 (0, 0)).1 + n, (f.getD 0 (0, 0)).2)
def gap (ns : List T) (f : List (Nat × Nat)) (n t : Nat) : Int := ((ns.getD (f.getD t (0, 0)).2 []).length : Int) - ((nxt f n t).1 : Int) + ((f.getD t (0, 0)).1 : Int)
def edgeAt (ns : List T) (es : List E) (f : List (Nat × Nat)) (n t : Nat) : Bool := hasE es (f.getD t (0, 0)).2 (nxt f n t).2 (gap ns f n t)
def tr (ns : List T) (es : List E) (c : T) : Option (List (Nat × Nat)) :=
  if noneTo ns c ns.length = true then none else if (List.range (occ ns c).length).all (edgeAt ns es (occ ns c) c.length) = true then some (occ ns c) else none
def due (ns : List T) (least : Nat) (c : T) : Option (List (Nat × Nat)) :=
  if noneTo ns c ns.length = true then none else if (List.range (occ ns c).length).all (fun t => decide ((least : Int) ≤ gap ns (occ ns c) c.length t)) = true then some (occ ns c) else none
def carriedBy (ns : List T) (es : List E) (e f : E) : Bool := f.1 == e.1 && hasE es f.2.1 e.2.1 ((e.2.2 : Int) + ((ns.getD f.2.1 []).length : Int) - (f.2.2 : Int))
def carried (ns : List T) (es : List E) (e : E) : Bool := es.any (carriedBy ns es e)
def redE (ns : List T) (es : List E) : List E := es.filter fun e => !carried ns es e
/-! ### small facts -/
theorem rr_len (c : T) (s n : Nat) : (rr c s n).length = n := by unfold rr; rw [List.length_map, List.length_range]
theorem rr_get (c : T) (s n x : Nat) (h : x < n) : (rr c s n).getD x 0 = c.getD ((s + x) % c.length) 0 := by
  unfold rr
  rw [List.getD_eq_getElem?_getD, List.getElem?_map, List.getElem?_range h]
  rfl
theorem rr_turn (c : T) (s n : Nat) : rr c (s + c.length) n = rr c s n := by
  unfold rr
  refine List.map_congr_left fun k _ => ?_
  rw [show s + c.length + k = s + k + c.length by omega, Nat.add_mod_right]
theorem ext0 {a b : T} (hl : a.length = b.length) (h : ∀ x, x < a.length → a.getD x 0 = b.getD x 0) : a = b := by
  refine List.ext_getElem hl fun i h1 h2 => ?_
  have e := h i h1
  rw [List.getD_eq_getElem?_getD, List.getD_eq_getElem?_getD, List.getElem?_eq_getElem h1, List.getElem?_eq_getElem h2] at e
  exact e
theorem getD_drop (a : T) (i x : Nat) : (a.drop i).getD x 0 = a.getD (i + x) 0 := by
  rw [List.getD_eq_getElem?_getD, List.getD_eq_getElem?_getD, List.getElem?_drop]
theorem getD_take (a : T) (i x : Nat) (h : x < i) : (a.take i).getD x 0 = a.getD x 0 := by
  rw [List.getD_eq_getElem?_getD, List.getD_eq_getElem?_getD, List.getElem?_take_of_lt h]
theorem rr_part (c : T) (s n i m : Nat) (h : i + m ≤ n) : ((rr c s n).drop i).take m = rr c (s + i) m := by
  have hl : (((rr c s n).drop i).take m).length = m := by rw [List.length_take, List.length_drop, rr_len]; omega
  refine ext0 (by rw [hl, rr_len]) fun x hx => ?_
  rw [hl] at hx
  rw [getD_take _ _ _ hx, getD_drop, rr_get _ _ _ _ (by omega), rr_get _ _ _ _ hx, Nat.add_assoc]
theorem inT_of {w t : T} {i : Nat} (hi : i ≤ t.length) (h : (t.drop i).take w.length = w) : inT w t = true :=
  List.any_eq_true.mpr ⟨i, List.mem_range.mpr (by omega), decide_eq_true h⟩
theorem getD_mem {α : Type} {l : List α} {i : Nat} {d : α} (h : i < l.length) : l.getD i d ∈ l := by
  rw [List.getD_eq_getElem?_getD, List.getElem?_eq_getElem h]
  exact List.getElem_mem h
theorem cont_no {ls : List T} {k : Nat} (h : cont ls k = false) {j : Nat} (hj : j < ls.length) : contBy ls k j = false := by
  cases e : contBy ls k j with
  | false => rfl
  | true =>
    have : cont ls k = true := List.any_eq_true.mpr ⟨j, List.mem_range.mpr hj, e⟩
    rw [h] at this
    cases this
/-- no node lies within another one -/
theorem GN.no {ns : List T} (G : GN ns) {k j : Nat} (hk : k < ns.length) (hj : j < ns.length) (hne : k ≠ j) {i : Nat} (hi : i ≤ (ns.getD j []).length) (h : ((ns.getD j []).drop i).take (ns.getD k []).length = ns.getD k []) : False := by
  have hin : inT (ns.getD k []) (ns.getD j []) = true := inT_of hi h
  have h1 := cont_no (G.nc k hk) hj
  have h2 := cont_no (G.nc j hj) hk
  unfold contBy at h1 h2
  rw [Bool.or_eq_false_iff, Bool.and_eq_false_iff, Bool.and_eq_false_iff, decide_eq_false_iff_not, decide_eq_false_iff_not, decide_eq_false_iff_not] at h1 h2
  have hl : (ns.getD k []).length ≤ (ns.getD j []).length := by
    have e := congrArg List.length h
    rw [List.length_take, List.length_drop] at e
    omega
  have h3 : ¬ (ns.getD k []).length < (ns.getD j []).length := fun z => h1.1.elim (fun q => q z) (fun q => by rw [hin] at q; cases q)
  have hlen : (ns.getD k []).length = (ns.getD j []).length := by omega
  have heq : ns.getD k [] = ns.getD j [] := by
    have e := congrArg List.length h
    rw [List.length_take, List.length_drop, hlen] at e
    by_cases h0 : (ns.getD j []).length = 0
    · have a1 := List.length_eq_zero_iff.mp h0
      have a2 := List.length_eq_zero_iff.mp (hlen.trans h0)
      rw [a1, a2]
    · have hi0 : i = 0 := by omega
      rw [hi0, List.drop_zero, hlen, List.take_length] at h
      exact h.symm
  rcases Nat.lt_or_gt_of_ne hne with q | q
  · exact h2.2.elim (fun z => z q) (fun z => z heq)
  · exact h1.2.elim (fun z => z q) (fun z => z heq.symm)
/-! ### the free pieces are good nodes -/
theorem freeIx_lt {ls : List T} {k : Nat} (h : k ∈ freeIx ls) : k < ls.length ∧ cont ls k = false := by
  obtain ⟨h1, h2⟩ := List.mem_filter.mp h
  refine ⟨List.mem_range.mp h1, ?_⟩
  cases e : cont ls k with
  | false => rfl
  | true => rw [e] at h2; cases h2
theorem freeIx_up (ls : List T) : (freeIx ls).Pairwise (· < ·) := List.Pairwise.filter _ List.pairwise_lt_range
theorem free_at {ls : List T} {k : Nat} (hk : k < (free ls).length) : ∃ a, a ∈ freeIx ls ∧ (freeIx ls)[k]? = some a ∧ (free ls).getD k [] = ls.getD a [] := by
  have hl : k < (freeIx ls).length := by unfold free at hk; rw [List.length_map] at hk; exact hk
  refine ⟨(freeIx ls)[k], List.getElem_mem hl, List.getElem?_eq_getElem hl, ?_⟩
  unfold free
  rw [List.getD_eq_getElem?_getD, List.getElem?_map, List.getElem?_eq_getElem hl]
  rfl
theorem free_nc {ls : List T} (k : Nat) (hk : k < (free ls).length) : cont (free ls) k = false := by
  cases e : cont (free ls) k with
  | false => rfl
  | true =>
    exfalso
    obtain ⟨j, hj, h⟩ := List.any_eq_true.mp e
    have hj := List.mem_range.mp hj
    obtain ⟨a, ha, ja, ea⟩ := free_at hk
    obtain ⟨b, hb, ib, eb⟩ := free_at hj
    unfold contBy at h
    rw [ea, eb] at h
    obtain ⟨la, ca⟩ := freeIx_lt ha
    obtain ⟨lb, cb⟩ := freeIx_lt hb
    have n1 := cont_no ca lb
    unfold contBy at n1
    rw [Bool.or_eq_false_iff] at n1
    rw [Bool.or_eq_true] at h
    rcases h with h | h
    · rw [n1.1] at h; cases h
    · rw [Bool.and_eq_true, decide_eq_true_eq, decide_eq_true_eq] at h
      have up := freeIx_up ls
      obtain ⟨hk', ek⟩ := List.getElem?_eq_some_iff.mp ja
      obtain ⟨hj', ej⟩ := List.getElem?_eq_some_iff.mp ib
      have hab : b < a := by
        have := List.pairwise_iff_getElem.mp up j k hj' hk' h.1
        rw [ej, ek] at this
        exact this
      have n2 := n1.2
      rw [decide_eq_true hab, decide_eq_true h.2] at n2
      cases n2
/-- a longest piece, the first of them -/
theorem longest : ∀ (ls : List T), ls ≠ [] → ∃ k, k < ls.length ∧ (∀ j, j < ls.length → (ls.getD j []).length ≤ (ls.getD k []).length) ∧ ∀ j, j < k → (ls.getD j []).length < (ls.getD k []).length
  | [], h => absurd rfl h
  | [x], _ => ⟨0, by simp, fun j hj => by
      have : j = 0 := by simp at hj; exact hj
      rw [this]; exact Nat.le_refl _, fun j hj => absurd hj (Nat.not_lt_zero _)⟩
  | x :: y :: r, _ => by
    obtain ⟨k, hk, h1, h2⟩ := longest (y :: r) (by simp)
    by_cases hx : ((y :: r).getD k []).length ≤ x.length
    · refine ⟨0, by simp, fun j hj => ?_, fun j hj => absurd hj (Nat.not_lt_zero _)⟩
      cases j with
      | zero => exact Nat.le_refl _
      | succ j =>
        have := h1 j (by simpa using hj)
        rw [List.getD_cons_succ, List.getD_cons_zero]
        omega
    · refine ⟨k + 1, by simpa using hk, fun j hj => ?_, fun j hj => ?_⟩
      · cases j with
        | zero => rw [List.getD_cons_succ, List.getD_cons_zero]; omega
        | succ j => rw [List.getD_cons_succ, List.getD_cons_succ]; exact h1 j (by simpa using hj)
      · cases j with
        | zero => rw [List.getD_cons_succ, List.getD_cons_zero]; omega
        | succ j => rw [List.getD_cons_succ, List.getD_cons_succ]; exact h2 j (by omega)
theorem free_ne {ls : List T} (h : ls ≠ []) : free ls ≠ [] := by
  obtain ⟨k, hk, h1, h2⟩ := longest ls h
  have hc : cont ls k = false := by
    cases e : cont ls k with
    | false => rfl
    | true =>
      exfalso
      obtain ⟨j, hj, q⟩ := List.any_eq_true.mp e
      have hj := List.mem_range.mp hj
      unfold contBy at q
      rw [Bool.or_eq_true, Bool.and_eq_true, Bool.and_eq_true, decide_eq_true_eq, decide_eq_true_eq, decide_eq_true_eq] at q
      rcases q with ⟨q, _⟩ | ⟨q1, q2⟩
      · have := h1 j hj; omega
      · have := h2 j q1
        rw [q2] at this
        omega
  have hm : k ∈ freeIx ls := List.mem_filter.mpr ⟨List.mem_range.mpr hk, by rw [hc]; rfl⟩
  intro z
  have : (freeIx ls) = [] := List.map_eq_nil_iff.mp z
  rw [this] at hm
  cases hm
theorem free_len (ls : List T) : (free ls).length ≤ ls.length := by
  unfold free freeIx
  rw [List.length_map]
  refine Nat.le_trans (List.length_filter_le _ _) ?_
  rw [List.length_range]
  exact Nat.le_refl _
theorem free_good {ls : List T} (h : ls ≠ []) (hl : ls.length ≤ 40) (hw : ∀ x ∈ ls, x ≠ [] ∧ x.length ≤ 60) : GN (free ls) := by
  refine ⟨free_ne h, Nat.le_trans (free_len ls) hl, fun x hx => ?_, fun k hk => free_nc k hk⟩
  obtain ⟨a, ha, rfl⟩ := List.mem_map.mp hx
  exact hw _ (getD_mem (freeIx_lt ha).1)
/-! ### the edges -/
theorem mem_edgesOf {ns : List T} {least : Nat} {e : E} : e ∈ edgesOf ns least ↔ e.1 < ns.length ∧ e.2.1 < ns.length ∧ least ≤ e.2.2 ∧ e.2.2 < (ns.getD e.1 []).length ∧ isOv (ns.getD e.1 []) (ns.getD e.2.1 []) e.2.2 = true := by
  unfold edgesOf edges2 edges3
  constructor
  · intro h
    obtain ⟨i, hi, h⟩ := List.mem_flatMap.mp h
    obtain ⟨j, hj, h⟩ := List.mem_flatMap.mp h
    obtain ⟨c, hc, rfl⟩ := List.mem_map.mp h
    obtain ⟨hc, ho⟩ := List.mem_filter.mp hc
    rw [List.mem_range'_1] at hc
    exact ⟨List.mem_range.mp hi, List.mem_range.mp hj, hc.1, (by show c < (ns.getD i []).length; omega), ho⟩
  · rintro ⟨h1, h2, h3, h4, h5⟩
    refine List.mem_flatMap.mpr ⟨e.1, List.mem_range.mpr h1, List.mem_flatMap.mpr ⟨e.2.1, List.mem_range.mpr h2, List.mem_map.mpr ⟨e.2.2, List.mem_filter.mpr ⟨?_, h5⟩, rfl⟩⟩⟩
    rw [List.mem_range'_1]
    omega
theorem flat_len {α β : Type} {f : α → List β} {b : Nat} : ∀ {l : List α}, (∀ x ∈ l, (f x).length ≤ b) → (l.flatMap f).length ≤ l.length * b
  | [], _ => Nat.zero_le _
  | x :: l, h => by
    rw [List.flatMap_cons, List.length_append, List.length_cons, Nat.succ_mul]
    have h1 := h x (List.mem_cons_self ..)
    have h2 := flat_len (l := l) fun y hy => h y (List.mem_cons_of_mem _ hy)
    omega
theorem edges3_len {ns : List T} (hw : ∀ x ∈ ns, x ≠ [] ∧ x.length ≤ 60) {least i j : Nat} (hi : i < ns.length) : (edges3 ns least i j).length ≤ 60 := by
  unfold edges3
  rw [List.length_map]
  refine Nat.le_trans (List.length_filter_le _ _) ?_
  rw [List.length_range']
  have := (hw _ (getD_mem (d := []) hi)).2
  omega
theorem edges2_len {ns : List T} (hw : ∀ x ∈ ns, x ≠ [] ∧ x.length ≤ 60) (hl : ns.length ≤ 40) {least i : Nat} (hi : i < ns.length) : (edges2 ns least i).length ≤ 2400 := by
  unfold edges2
  refine Nat.le_trans (flat_len (b := 60) fun j _ => edges3_len hw hi) ?_
  rw [List.length_range]
  omega
theorem edgesOf_len {ns : List T} (hw : ∀ x ∈ ns, x ≠ [] ∧ x.length ≤ 60) (hl : ns.length ≤ 40) (least : Nat) : (edgesOf ns least).length ≤ 96000 := by
  unfold edgesOf
  refine Nat.le_trans (flat_len (b := 2400) fun i hi => edges2_len hw hl (List.mem_range.mp hi)) ?_
  rw [List.length_range]
  omega
theorem pw_flat {α : Type} {f : Nat → List α} {R : α → α → Prop} (hin : ∀ i, (f i).Pairwise R) (hx : ∀ i j, i < j → ∀ a ∈ f i, ∀ b ∈ f j, R a b) : ∀ {l : List Nat}, l.Pairwise (· < ·) → (l.flatMap f).Pairwise R
  | [], _ => List.Pairwise.nil
  | i :: l, h => by
    obtain ⟨h1, h2⟩ := List.pairwise_cons.mp h
    rw [List.flatMap_cons]
    refine List.pairwise_append.mpr ⟨hin i, pw_flat hin hx h2, fun a ha b hb => ?_⟩
    obtain ⟨j, hj, hb⟩ := List.mem_flatMap.mp hb
    exact hx i j (h1 j hj) a ha b hb
theorem edgesOf_up (ns : List T) (least : Nat) : (edgesOf ns least).Pairwise ltE := by
  refine pw_flat (fun i => pw_flat (fun j => ?_) (fun j k hjk a ha b hb => ?_) List.pairwise_lt_range) (fun i j hij a ha b hb => ?_) List.pairwise_lt_range
  · unfold edges3
    refine List.pairwise_map.mpr ?_
    refine List.Pairwise.imp (R := (· < ·)) ?_ (List.Pairwise.filter _ List.pairwise_lt_range')
    intro a b h
    exact .inr ⟨rfl, .inr ⟨rfl, h⟩⟩
  · obtain ⟨c, _, rfl⟩ := List.mem_map.mp ha
    obtain ⟨d, _, rfl⟩ := List.mem_map.mp hb
    exact .inr ⟨rfl, .inl hjk⟩
  · obtain ⟨x, _, ha⟩ := List.mem_flatMap.mp ha
    obtain ⟨c, _, rfl⟩ := List.mem_map.mp ha
    obtain ⟨y, _, hb⟩ := List.mem_flatMap.mp hb
    obtain ⟨d, _, rfl⟩ := List.mem_map.mp hb
    exact .inl hij
theorem edges_good {ns : List T} (G : GN ns) (least : Nat) : GG ns (edgesOf ns least) :=
  ⟨G, edgesOf_len G.wd G.le least, edgesOf_up ns least, fun _ h => let z := mem_edgesOf.mp h; ⟨z.1, z.2.1, z.2.2.2.2⟩⟩
theorem red_good {ns : List T} {es : List E} (G : GG ns es) : GG ns (redE ns es) :=
  ⟨G.gn, Nat.le_trans (List.length_filter_le _ _) G.le, List.Pairwise.filter _ G.up, fun e h => G.ov e (List.mem_filter.mp h).1⟩
theorem hasE_iff {es : List E} {i j : Nat} {c : Int} : hasE es i j c = true ↔ ∃ n : Nat, (n : Int) = c ∧ (i, j, n) ∈ es := by
  constructor
  · intro h
    obtain ⟨⟨a, b, n⟩, he, q⟩ := List.any_eq_true.mp h
    simp only [isE, Bool.and_eq_true, beq_iff_eq] at q
    obtain ⟨rfl, rfl, q⟩ := q
    exact ⟨n, q, he⟩
  · rintro ⟨n, rfl, h⟩
    exact List.any_eq_true.mpr ⟨_, h, by simp [isE]⟩
/-! ### the occurrences in order -/
theorem leP_iff {a b : Nat × Nat} : leP a b = true ↔ a.1 < b.1 ∨ (a.1 = b.1 ∧ a.2 ≤ b.2) := decide_eq_true_iff
theorem occ_perm (ns : List T) (c : T) : (occ ns c).Perm (foundTo ns c ns.length) := List.mergeSort_perm _ _
theorem occ_sorted (ns : List T) (c : T) : (occ ns c).Pairwise fun a b => leP a b = true := by
  refine List.pairwise_mergeSort (le := leP) (fun a b d h1 h2 => ?_) (fun a b => ?_) _
  · rw [leP_iff] at *
    omega
  · rw [Bool.or_eq_true, leP_iff, leP_iff]
    omega
theorem mem_starts {c w : T} {p : Nat} : p ∈ starts c w ↔ p < c.length ∧ rr c p w.length = w := by
  unfold starts
  rw [List.mem_filter, List.mem_range, decide_eq_true_iff]
theorem mem_found {ns : List T} {c : T} {n : Nat} {x : Nat × Nat} : x ∈ foundTo ns c n ↔ x.2 < n ∧ x.1 < c.length ∧ rr c x.1 (ns.getD x.2 []).length = ns.getD x.2 [] := by
  unfold foundTo foundK
  constructor
  · intro h
    obtain ⟨k, hk, h⟩ := List.mem_flatMap.mp h
    obtain ⟨p, hp, rfl⟩ := List.mem_map.mp h
    exact ⟨List.mem_range.mp hk, mem_starts.mp hp⟩
  · rintro ⟨h1, h2⟩
    exact List.mem_flatMap.mpr ⟨x.2, List.mem_range.mpr h1, List.mem_map.mpr ⟨x.1, mem_starts.mpr h2, rfl⟩⟩
theorem mem_occ {ns : List T} {c : T} {x : Nat × Nat} : x ∈ occ ns c ↔ x.2 < ns.length ∧ x.1 < c.length ∧ rr c x.1 (ns.getD x.2 []).length = ns.getD x.2 [] := (occ_perm ns c).mem_iff.trans mem_found
theorem found_nodup (ns : List T) (c : T) (n : Nat) : (foundTo ns c n).Nodup := by
  unfold foundTo
  refine pw_flat (R := (· ≠ ·)) (fun i => ?_) (fun i j hij a ha b hb => ?_) List.pairwise_lt_range
  · unfold foundK
    refine List.pairwise_map.mpr (List.Pairwise.imp (R := (· < ·)) ?_ (List.Pairwise.filter _ List.pairwise_lt_range))
    intro a b h e
    have := congrArg Prod.fst e
    simp only at this
    omega
  · obtain ⟨p, _, rfl⟩ := List.mem_map.mp ha
    obtain ⟨q, _, rfl⟩ := List.mem_map.mp hb
    intro e
    have := congrArg Prod.snd e
    simp only at this
    omega
theorem occ_nodup (ns : List T) (c : T) : (occ ns c).Nodup := (occ_perm ns c).nodup_iff.mpr (found_nodup ns c _)
/-- no two nodes at one place -/
theorem one_at {ns : List T} (G : GN ns) {c : T} {p i j : Nat} (hi : i < ns.length) (hj : j < ns.length) (h1 : rr c p (ns.getD i []).length = ns.getD i []) (h2 : rr c p (ns.getD j []).length = ns.getD j []) : i = j := by
  have go : ∀ {i j : Nat}, i < ns.length → j < ns.length → rr c p (ns.getD i []).length = ns.getD i [] → rr c p (ns.getD j []).length = ns.getD j [] → (ns.getD i []).length ≤ (ns.getD j []).length → i = j := by
    intro i j hi hj h1 h2 hl
    by_cases e : i = j
    · exact e
    · exfalso
      refine G.no hi hj e (i := 0) (Nat.zero_le _) ?_
      have := rr_part c p (ns.getD j []).length 0 (ns.getD i []).length (by omega)
      rw [h2] at this
      rw [this]
      exact h1
  rcases Nat.le_total (ns.getD i []).length (ns.getD j []).length with h | h
  · exact go hi hj h1 h2 h
  · exact (go hj hi h2 h1 h).symm
theorem getD_at {α : Type} {l : List α} {i : Nat} {d : α} (h : i < l.length) : l.getD i d = l[i] := by
  rw [List.getD_eq_getElem?_getD, List.getElem?_eq_getElem h]
  rfl
/-- an occurrence and the next one -/
structure Step (ns : List T) (c : T) (p i p' j : Nat) : Prop where
  hi : i < ns.length
  hj : j < ns.length
  oi : rr c p (ns.getD i []).length = ns.getD i []
  oj : rr c p' (ns.getD j []).length = ns.getD j []
  lt : p < p'
  no : ∀ q m, p < q → q < p' → m < ns.length → rr c q (ns.getD m []).length = ns.getD m [] → False
theorem step_at {ns : List T} (G : GN ns) {c : T} {t : Nat} (ht : t < (occ ns c).length) :
    Step ns c ((occ ns c).getD t (0, 0)).1 ((occ ns c).getD t (0, 0)).2 (nxt (occ ns c) c.length t).1 (nxt (occ ns c) c.length t).2 := by
  have hs := occ_sorted ns c
  have hn := occ_nodup ns c
  have hm : ∀ {x}, x ∈ occ ns c → x.2 < ns.length ∧ x.1 < c.length ∧ rr c x.1 (ns.getD x.2 []).length = ns.getD x.2 [] := fun h => mem_occ.mp h
  have hin : ∀ q m, m < ns.length → q < c.length → rr c q (ns.getD m []).length = ns.getD m [] → (q, m) ∈ occ ns c := fun q m h1 h2 h3 => mem_occ.mpr ⟨h1, h2, h3⟩
  revert ht hs hn hm hin
  generalize occ ns c = f
  intro ht hs hn hm hin
  have le_of : ∀ {a b : Nat} (ha : a < f.length) (hb : b < f.length), a ≤ b → f[a].1 < f[b].1 ∨ (f[a].1 = f[b].1 ∧ f[a].2 ≤ f[b].2) := by
    intro a b ha hb h
    rcases Nat.lt_or_ge a b with q | q
    · exact leP_iff.mp (List.pairwise_iff_getElem.mp hs a b ha hb q)
    · have e : a = b := by omega
      subst e
      exact .inr ⟨rfl, Nat.le_refl _⟩
  have at_ : ∀ q m, (q, m) ∈ f → ∃ s, ∃ h : s < f.length, f[s] = (q, m) := fun q m h => List.getElem_of_mem h
  have h0 : 0 < f.length := by omega
  have mt := hm (List.getElem_mem ht)
  rw [getD_at ht]
  unfold nxt
  by_cases h : t + 1 < f.length
  · rw [if_pos h, getD_at h]
    have mn := hm (List.getElem_mem h)
    have le1 := le_of ht h (Nat.le_succ t)
    have ne : f[t] ≠ f[t + 1] := fun e => by
      have := List.pairwise_iff_getElem.mp hn t (t + 1) ht h (Nat.lt_succ_self t)
      exact this e
    have lt : f[t].1 < f[t + 1].1 := by
      rcases le1 with q | ⟨q, q2⟩
      · exact q
      · exfalso
        have o2 := mn.2.2
        rw [← q] at o2
        have e2 := one_at G mt.1 mn.1 mt.2.2 o2
        exact ne (Prod.ext q e2)
    refine ⟨mt.1, mn.1, mt.2.2, mn.2.2, lt, fun q m h1 h2 h3 h4 => ?_⟩
    obtain ⟨s, hs', es⟩ := at_ q m (hin q m h3 (by omega) h4)
    rcases Nat.lt_or_ge t s with z | z
    · have := le_of h hs' z
      rw [es] at this
      simp only at this
      omega
    · have := le_of hs' ht z
      rw [es] at this
      simp only at this
      omega
  · rw [if_neg h, getD_at h0]
    have m0 := hm (List.getElem_mem h0)
    refine ⟨mt.1, m0.1, mt.2.2, (by rw [rr_turn]; exact m0.2.2), (by show f[t].1 < f[0].1 + c.length; omega), fun q m h1 h2 h3 h4 => ?_⟩
    simp only at h2
    by_cases hq : q < c.length
    · obtain ⟨s, hs', es⟩ := at_ q m (hin q m h3 hq h4)
      have := le_of hs' ht (by omega)
      rw [es] at this
      simp only at this
      omega
    · have e : q = (q - c.length) + c.length := by omega
      rw [e, rr_turn] at h4
      obtain ⟨s, hs', es⟩ := at_ (q - c.length) m (hin _ m h3 (by omega) h4)
      have := le_of h0 hs' (Nat.zero_le _)
      rw [es] at this
      simp only at this
      omega
/-- they overlap where they meet -/
theorem Step.ov {ns : List T} (G : GN ns) {c : T} {p i p' j g : Nat} (S : Step ns c p i p' j) (h1 : 1 ≤ g) (hg : g + p' = (ns.getD i []).length + p) : isOv (ns.getD i []) (ns.getD j []) g = true := by
  have lt := S.lt
  have hgj : g < (ns.getD j []).length := by
    rcases Nat.lt_or_ge g (ns.getD j []).length with q | q
    · exact q
    · exfalso
      have hne : j ≠ i := by
        intro e
        rw [e] at q
        omega
      refine G.no S.hj S.hi hne (i := p' - p) (by omega) ?_
      have := rr_part c p (ns.getD i []).length (p' - p) (ns.getD j []).length (by omega)
      rw [S.oi] at this
      rw [this, show p + (p' - p) = p' by omega]
      exact S.oj
  have e1 : (ns.getD i []).drop ((ns.getD i []).length - g) = rr c p' g := by
    have := rr_part c p (ns.getD i []).length ((ns.getD i []).length - g) g (by omega)
    rw [S.oi, show p + ((ns.getD i []).length - g) = p' by omega] at this
    rw [← this]
    exact (List.take_of_length_le (by rw [List.length_drop]; omega)).symm
  have e2 : (ns.getD j []).take g = rr c p' g := by
    have := rr_part c p' (ns.getD j []).length 0 g (by omega)
    rw [S.oj, Nat.add_zero, List.drop_zero] at this
    exact this
  unfold isOv
  rw [e1, e2, decide_eq_true h1, decide_eq_true (show g < (ns.getD i []).length by omega), decide_eq_true hgj, decide_eq_true rfl]
  rfl
theorem isOv_iff {a b : T} {c : Nat} : isOv a b c = true ↔ 1 ≤ c ∧ c < a.length ∧ c < b.length ∧ a.drop (a.length - c) = b.take c := by
  unfold isOv
  rw [Bool.and_eq_true, Bool.and_eq_true, Bool.and_eq_true, decide_eq_true_iff, decide_eq_true_iff, decide_eq_true_iff, decide_eq_true_iff]
  constructor
  · rintro ⟨⟨⟨h1, h2⟩, h3⟩, h4⟩; exact ⟨h1, h2, h3, h4⟩
  · rintro ⟨h1, h2, h3, h4⟩; exact ⟨⟨⟨h1, h2⟩, h3⟩, h4⟩
/-- a node between two others that carries their overlap occurs between them -/
theorem Step.carry {ns : List T} {c : T} {p i p' j g m a b : Nat} (S : Step ns c p i p' j) (hg : g + p' = (ns.getD i []).length + p) (h1 : 1 ≤ g)
    (hm : m < ns.length) (ha : isOv (ns.getD i []) (ns.getD m []) a = true) (hb : isOv (ns.getD m []) (ns.getD j []) b = true) (hab : a + b = g + (ns.getD m []).length) : False := by
  obtain ⟨a1, a2, a3, a4⟩ := isOv_iff.mp ha
  obtain ⟨b1, b2, b3, b4⟩ := isOv_iff.mp hb
  have lt := S.lt
  refine S.no (p + ((ns.getD i []).length - a)) m (by omega) (by omega) hm ?_
  have hI : ∀ x, x < (ns.getD i []).length → (ns.getD i []).getD x 0 = c.getD ((p + x) % c.length) 0 := fun x hx => by
    have := rr_get c p (ns.getD i []).length x hx
    rw [S.oi] at this
    exact this
  have hJ : ∀ x, x < (ns.getD j []).length → (ns.getD j []).getD x 0 = c.getD ((p' + x) % c.length) 0 := fun x hx => by
    have := rr_get c p' (ns.getD j []).length x hx
    rw [S.oj] at this
    exact this
  refine ext0 (rr_len ..) fun x hx => ?_
  rw [rr_len] at hx
  rw [rr_get _ _ _ _ hx]
  by_cases hxa : x < a
  · have e := congrArg (fun l => l.getD x 0) a4
    simp only [getD_drop, getD_take _ _ _ hxa] at e
    rw [← e, hI _ (by omega), Nat.add_assoc]
  · have e := congrArg (fun l => l.getD (x - ((ns.getD m []).length - b)) 0) b4
    simp only [getD_drop] at e
    rw [getD_take _ _ _ (by omega), show (ns.getD m []).length - b + (x - ((ns.getD m []).length - b)) = x by omega] at e
    rw [e, hJ _ (by omega)]
    have : p + ((ns.getD i []).length - a) + x = p' + (x - ((ns.getD m []).length - b)) := by omega
    rw [this]
theorem edge_full {ns : List T} (G : GN ns) {c : T} {least t : Nat} (hl : 1 ≤ least) (ht : t < (occ ns c).length) :
    edgeAt ns (edgesOf ns least) (occ ns c) c.length t = decide ((least : Int) ≤ gap ns (occ ns c) c.length t) ∧
    edgeAt ns (redE ns (edgesOf ns least)) (occ ns c) c.length t = decide ((least : Int) ≤ gap ns (occ ns c) c.length t) := by
  have S := step_at G (c := c) ht
  unfold edgeAt gap
  revert S
  generalize ((occ ns c).getD t (0, 0)).1 = p
  generalize ((occ ns c).getD t (0, 0)).2 = i
  generalize (nxt (occ ns c) c.length t).1 = p'
  generalize (nxt (occ ns c) c.length t).2 = j
  intro S
  have lt := S.lt
  by_cases h : (least : Int) ≤ ((ns.getD i []).length : Int) - (p' : Int) + (p : Int)
  · have hg : (((ns.getD i []).length + p - p' : Nat) : Int) = ((ns.getD i []).length : Int) - (p' : Int) + (p : Int) := by omega
    have hov := S.ov G (g := (ns.getD i []).length + p - p') (by omega) (by omega)
    have hmem : (i, j, (ns.getD i []).length + p - p') ∈ edgesOf ns least := mem_edgesOf.mpr ⟨S.hi, S.hj, (by show least ≤ (ns.getD i []).length + p - p'; omega), (by show (ns.getD i []).length + p - p' < (ns.getD i []).length; omega), hov⟩
    refine ⟨(hasE_iff.mpr ⟨_, hg, hmem⟩).trans (decide_eq_true h).symm, (hasE_iff.mpr ⟨_, hg, List.mem_filter.mpr ⟨hmem, ?_⟩⟩).trans (decide_eq_true h).symm⟩
    cases e : carried ns (edgesOf ns least) (i, j, (ns.getD i []).length + p - p') with
    | false => rfl
    | true =>
      exfalso
      obtain ⟨⟨i', m, a⟩, hf, q⟩ := List.any_eq_true.mp e
      unfold carriedBy at q
      rw [Bool.and_eq_true, beq_iff_eq, hasE_iff] at q
      simp only at q
      obtain ⟨rfl, b, hb, hbm⟩ := q
      obtain ⟨_, hm, _, _, oa⟩ := mem_edgesOf.mp hf
      obtain ⟨_, _, _, _, ob⟩ := mem_edgesOf.mp hbm
      exact S.carry (g := (ns.getD i' []).length + p - p') (a := a) (b := b) (m := m) (by omega) (by omega) hm oa ob (by omega)
  · rw [decide_eq_false h]
    have no : hasE (edgesOf ns least) i j (((ns.getD i []).length : Int) - (p' : Int) + (p : Int)) = false := by
      cases e : hasE (edgesOf ns least) i j (((ns.getD i []).length : Int) - (p' : Int) + (p : Int)) with
      | false => rfl
      | true =>
        exfalso
        obtain ⟨n, hn, hm⟩ := hasE_iff.mp e
        have := (mem_edgesOf.mp hm).2.2.1
        simp only at this
        omega
    refine ⟨no, ?_⟩
    cases e : hasE (redE ns (edgesOf ns least)) i j (((ns.getD i []).length : Int) - (p' : Int) + (p : Int)) with
    | false => rfl
    | true =>
      obtain ⟨n, hn, hm⟩ := hasE_iff.mp e
      have : hasE (edgesOf ns least) i j (((ns.getD i []).length : Int) - (p' : Int) + (p : Int)) = true := hasE_iff.mpr ⟨n, hn, (List.mem_filter.mp hm).1⟩
      rw [no] at this
      cases this
theorem all_eq {α : Type} {f g : α → Bool} : ∀ {l : List α}, (∀ x ∈ l, f x = g x) → l.all f = l.all g
  | [], _ => rfl
  | x :: l, h => by rw [List.all_cons, List.all_cons, h x (List.mem_cons_self ..), all_eq fun y hy => h y (List.mem_cons_of_mem _ hy)]
/-- THE LAW -/
theorem law_full {ns : List T} (G : GN ns) {least : Nat} (hl : 1 ≤ least) (c : T) : tr ns (edgesOf ns least) c = due ns least c := by
  unfold tr due
  rw [all_eq fun t ht => (edge_full G hl (List.mem_range.mp ht)).1]
theorem law_red {ns : List T} (G : GN ns) {least : Nat} (hl : 1 ≤ least) (c : T) : tr ns (redE ns (edgesOf ns least)) c = due ns least c := by
  unfold tr due
  rw [all_eq fun t ht => (edge_full G hl (List.mem_range.mp ht)).2]
end M31
/-! What all the walks of this program share. -/
namespace Sh
open PySem PySem.Spec L2 M31
open PyProof.Rows hiding St
/-! ### the text by places -/
def topS (i : Nat) : Stmt := PySem.Challenge.pw_textshards_k31_whole_reduction_keeps_all.main.body.getD i (.Pass ⟨0, 0, 0, 0⟩)
/-! ### defs by their names -/
structure Cal (P : Program) (w : World) (K : PySem.W.Frag) (mg : Str → Option Value) (base : Heap) (k : Nat) (x : Str) (sp : Sp) : Prop where
  ex : ∃ (f : Addr) (fd : FuncData) (ps : List Str), FnOk P w K mg base CX0 k f fd ps sp ∧ mg x = some (.ref f) ∧ PySem.W.keepIn K (.ref f) = true ∧ Binds K fd ps []
section
variable {X : Cx} {k j : Nat} {x : Str} {sp : Sp} {p pos : Pos} {e : Expr} {es : List Expr} {t : TA}
theorem pe_c (c : Cal X.prog X.w X.K X.mg X.base k x sp) (hr : Room j X.A) (hk : k ≤ j) (hg : Gl X x) (ha : PA X (e :: es) t)
    (h1 : (x == ("__debug__" : Str)) = false := by decide)
    (h2 : starEach (e :: es) X.env = (false, eval e X.env) :: starEach es X.env := by rfl)
    (h3 : (backTo pos (starEach es X.env)).any (fun z => z.1) = false := by rfl) : PE X (.Call (.Name x p) (e :: es) [] pos) (tCall sp [] E0 t) := by
  obtain ⟨f, fd, ps, F, hm, kp, b⟩ := c.ex
  exact pe_call F (hr.mono hk) hg hm kp b .nil pass0 ha h1 h2 h3
theorem pe_c0 (c : Cal X.prog X.w X.K X.mg X.base k x sp) (hr : Room j X.A) (hk : k ≤ j) (hg : Gl X x) (hdb : (x == ("__debug__" : Str)) = false := by decide) :
    PE X (.Call (.Name x p) [] [] pos) (tCall sp [] E0 tNil) := by
  obtain ⟨f, fd, ps, F, hm, kp, b⟩ := c.ex
  exact pe_call0 F (hr.mono hk) hg hm kp b .nil pass0 hdb
end
/-! ### the names that the top leaves alone, its constants -/
structure Txt (mg : Str → Option Value) : Prop where
  len : mg "len" = none
  range : mg "range" = none
  tuple : mg "tuple" = none
  list : mg "list" = none
  max : mg "max" = none
  any : mg "any" = none
  sorted : mg "sorted" = none
  int : mg "int" = none
  abs : mg "abs" = none
  pl : ∃ t, mg "PIECE_LIMIT" = some (.int 40 t)
  ll : ∃ t, mg "LETTER_LIMIT" = some (.int 60 t)
/-! ### heaps -/
theorem same_upd {H : Hp} {p : Addr} {o : HO} (h : H p = none) : Same H (upd H p o) := fun b x e => by
  rw [upd_ne (ne_of_none e h)]
  exact e
theorem sm_upd {H H1 : Hp} {p : Addr} {o : HO} (s : Same H H1) (h : H1 p = none) : Same H (upd H1 p o) := s.trans (same_upd h)
/-- a new object of mine is changed -/
theorem sm_own {H H1 : Hp} {p : Addr} {o : HO} (s : Same H H1) (h : H p = none) : Same H (upd H1 p o) := fun b x e => by
  rw [upd_ne (ne_of_none e h)]
  exact s b x e
/-- all but d is as it was -/
def But (d : Addr) (H H' : Hp) : Prop := ∀ b o, H b = some o → b ≠ d → H' b = some o
theorem But.of {d : Addr} {H H' : Hp} (s : Same H H') : But d H H' := fun b o h _ => s b o h
theorem But.refl (d : Addr) (H : Hp) : But d H H := fun _ _ h _ => h
theorem But.trans {d : Addr} {H H1 H2 : Hp} (a : But d H H1) (b : But d H1 H2) : But d H H2 := fun c o h n => b c o (a c o h n) n
/-- all tuples stand -/
def Kt (K : PySem.W.Frag) (H H' : Hp) : Prop := ∀ a xs, SqT K H a xs → SqT K H' a xs
theorem Kt.refl (K : PySem.W.Frag) (H : Hp) : Kt K H H := fun _ _ h => h
theorem Kt.trans {K : PySem.W.Frag} {H H1 H2 : Hp} (a : Kt K H H1) (b : Kt K H1 H2) : Kt K H H2 := fun x ys h => b x ys (a x ys h)
theorem Kt.of {K : PySem.W.Frag} {H H' : Hp} (s : Same H H') : Kt K H H' := fun a xs h => by
  rcases h with (h | ⟨ob, h⟩) | h
  · exact .inl (.inl (s _ _ h))
  · exact .inl (.inr ⟨ob, s _ _ h⟩)
  · exact .inr h
theorem Kt.but {K : PySem.W.Frag} {H H' : Hp} {d : Addr} {ys : List V} (hd : H d = some (.lst ys)) (s : But d H H') : Kt K H H' := fun a xs h => by
  rcases h with (h | ⟨ob, h⟩) | h
  · exact .inl (.inl (s _ _ h (ne_of h hd (by intro z; cases z))))
  · exact .inl (.inr ⟨ob, s _ _ h (ne_of h hd (by intro z; cases z))⟩)
  · exact .inr h
/-! ### texts -/
abbrev S (l : List Nat) : Str := SX.S l
abbrev sV (l : List Nat) : V := .str (S l)
theorem S_inj {a b : List Nat} (h : S a = S b) : a = b := SX.S_inj h
theorem sV_inj {a b : List Nat} (h : sV a = sV b) : a = b := by
  injection h with h
  exact S_inj h
theorem S_len (a : List Nat) : (S a).length = a.length := SX.S_len a
theorem S_of (z : Str) : ∃ l, z = S l := ⟨z.cps.toList, (SX.S_tl z).symm⟩
theorem S_nil : (Str.ofString "" : Str) = S [] := by rfl
theorem sV_ne {a : List Nat} (h : a ≠ []) : ¬ (sV a = V.str (Str.ofString "")) := fun e => by
  rw [S_nil] at e
  exact h (sV_inj e)
theorem dec_sV (a b : List Nat) : decide (sV a = sV b) = decide (a = b) := by
  by_cases h : a = b
  · rw [h, decide_eq_true rfl, decide_eq_true rfl]
  · rw [decide_eq_false h, decide_eq_false fun e => h (sV_inj e)]
theorem big {n : Nat} (h : n ≤ 1000000) : n ≤ sizeLine := Nat.le_trans h (by decide)
theorem bigl {n : Nat} (h : n ≤ 1000000) : n < sizeLine := Nat.lt_of_le_of_lt h (by decide)
/-- one text within another one -/
theorem in_S (w t : List Nat) : (!(Builtin.Str.occurrences (S t) (S w) 0 (S t).length 1).isEmpty) = inT w t := by
  have key := StrLaws.found_iff (S t) (S w)
  have e : (∃ i, i + (S w).length ≤ (S t).length ∧ Builtin.Str.subAt (S t) (S w) i = true) ↔ inT w t = true := by
    constructor
    · rintro ⟨i, h1, h2⟩
      rw [StrLaws.subAt_eq, S_len, beq_iff_eq] at h2
      rw [S_len, S_len] at h1
      exact inT_of (i := i) (by omega) h2
    · intro h
      obtain ⟨i, hi, h⟩ := List.any_eq_true.mp h
      have hi := List.mem_range.mp hi
      have h := of_decide_eq_true h
      refine ⟨i, ?_, ?_⟩
      · have := congrArg List.length h
        rw [List.length_take, List.length_drop] at this
        rw [S_len, S_len]
        omega
      · rw [StrLaws.subAt_eq, S_len, beq_iff_eq]
        exact h
  have k2 := key.trans e
  cases h1 : (!(Builtin.Str.occurrences (S t) (S w) 0 (S t).length 1).isEmpty) with
  | true => exact (k2.mp h1).symm
  | false =>
    cases h2 : inT w t with
    | false => rfl
    | true =>
      rw [k2.mpr h2] at h1
      cases h1
/-! ### what stands in the heap -/
/-- a tuple of texts -/
def TxT (K : PySem.W.Frag) (H : Hp) (v : V) (ls : List (List Nat)) : Prop := ∃ a, v = .ref a ∧ SqT K H a (ls.map sV)
/-- an edge: a tuple of three ints -/
def e3 (K : PySem.W.Frag) (H : Hp) (x : V) (e : E) : Prop := ∃ t, x = .ref t ∧ SqT K H t [.int (e.1 : Nat), .int (e.2.1 : Nat), .int (e.2.2 : Nat)]
def TrT (K : PySem.W.Frag) (H : Hp) (v : V) (es : List E) : Prop := ∃ a xs, v = .ref a ∧ SqT K H a xs ∧ Paired (e3 K H) xs es
def GrT (K : PySem.W.Frag) (H : Hp) (v : V) (ns : List (List Nat)) (es : List E) : Prop := ∃ g n e, v = .ref g ∧ SqT K H g [n, e] ∧ TxT K H n ns ∧ TrT K H e es
/-- an occurrence: a pair of ints -/
def p2 (K : PySem.W.Frag) (H : Hp) (x : V) (p : Nat × Nat) : Prop := ∃ t, x = .ref t ∧ SqT K H t [.int (p.1 : Nat), .int (p.2 : Nat)]
def OptP (K : PySem.W.Frag) (H : Hp) (u : V) : Option (List (Nat × Nat)) → Prop
  | none => u = .non
  | some f => ∃ a xs, u = .ref a ∧ SqT K H a xs ∧ Paired (p2 K H) xs f
section
variable {K : PySem.W.Frag} {H H' : Hp}
theorem TxT.kt {v : V} {ls : List (List Nat)} (k : Kt K H H') (h : TxT K H v ls) : TxT K H' v ls := let ⟨a, e, q⟩ := h; ⟨a, e, k _ _ q⟩
theorem e3.kt {x : V} {e : E} (k : Kt K H H') (h : e3 K H x e) : e3 K H' x e := let ⟨a, e, q⟩ := h; ⟨a, e, k _ _ q⟩
theorem p2.kt {x : V} {e : Nat × Nat} (k : Kt K H H') (h : p2 K H x e) : p2 K H' x e := let ⟨a, e, q⟩ := h; ⟨a, e, k _ _ q⟩
theorem e3s.kt {xs : List V} {es : List E} (k : Kt K H H') (h : Paired (e3 K H) xs es) : Paired (e3 K H') xs es := L2.Paired.mapP h fun _ _ z => z.kt k
theorem p2s.kt {xs : List V} {es : List (Nat × Nat)} (k : Kt K H H') (h : Paired (p2 K H) xs es) : Paired (p2 K H') xs es := L2.Paired.mapP h fun _ _ z => z.kt k
theorem TrT.kt {v : V} {es : List E} (k : Kt K H H') (h : TrT K H v es) : TrT K H' v es := let ⟨a, xs, e, q, r⟩ := h; ⟨a, xs, e, k _ _ q, e3s.kt k r⟩
theorem GrT.kt {v : V} {ns : List (List Nat)} {es : List E} (k : Kt K H H') (h : GrT K H v ns es) : GrT K H' v ns es := let ⟨g, n, e, q, r, s, t⟩ := h; ⟨g, n, e, q, k _ _ r, s.kt k, t.kt k⟩
theorem OptP.kt {v : V} {o : Option (List (Nat × Nat))} (k : Kt K H H') (h : OptP K H v o) : OptP K H' v o := by
  cases o with
  | none => exact h
  | some f =>
    obtain ⟨a, xs, e, q, r⟩ := h
    exact ⟨a, xs, e, k _ _ q, p2s.kt k r⟩
end
section
variable {α β : Type} {F : α → β → Prop}
theorem pr_len : ∀ {xs : List α} {es : List β}, Paired F xs es → xs.length = es.length
  | _, _, .nil => rfl
  | _, _, .cons _ t => congrArg (· + 1) (pr_len t)
theorem pr_get : ∀ {xs : List α} {es : List β} {i : Nat} {e : β}, Paired F xs es → es[i]? = some e → ∃ x, xs[i]? = some x ∧ F x e
  | _, _, _, _, .nil, h => by simp at h
  | _, _, 0, _, .cons r _, h => by
    have := Option.some.inj h
    subst this
    exact ⟨_, rfl, r⟩
  | _, _, i + 1, _, .cons _ t, h => pr_get (i := i) t h
theorem pr_getl : ∀ {xs : List α} {es : List β} {i : Nat} {x : α}, Paired F xs es → xs[i]? = some x → ∃ e, es[i]? = some e ∧ F x e
  | _, _, _, _, .nil, h => by simp at h
  | _, _, 0, _, .cons r _, h => by
    have := Option.some.inj h
    subst this
    exact ⟨_, rfl, r⟩
  | _, _, i + 1, _, .cons _ t, h => pr_getl (i := i) t h
theorem pr_app : ∀ {xs ys : List α} {es fs : List β}, Paired F xs es → Paired F ys fs → Paired F (xs ++ ys) (es ++ fs)
  | _, _, _, _, .nil, h => h
  | _, _, _, _, .cons r t, h => .cons r (pr_app t h)
theorem pr_snoc {xs : List α} {es : List β} {x : α} {e : β} (h : Paired F xs es) (q : F x e) : Paired F (xs ++ [x]) (es ++ [e]) := pr_app h (.cons q .nil)
theorem pr_take : ∀ {xs : List α} {es : List β} (n : Nat), Paired F xs es → Paired F (xs.take n) (es.take n)
  | _, _, 0, _ => .nil
  | _, _, _ + 1, .nil => .nil
  | _, _, n + 1, .cons r t => .cons r (pr_take n t)
/-- a rearrangement of the one is one of the other -/
theorem pr_perm {xs xs' : List α} (p : xs'.Perm xs) : ∀ {es : List β}, Paired F xs es → ∃ es', es'.Perm es ∧ Paired F xs' es' := by
  induction p with
  | nil => intro es h; cases h; exact ⟨[], List.Perm.nil, .nil⟩
  | cons x _ ih =>
    intro es h
    cases h with
    | cons r t =>
      obtain ⟨es', q, s⟩ := ih t
      exact ⟨_ :: es', q.cons _, .cons r s⟩
  | swap x y l =>
    intro es h
    cases h with
    | cons r t =>
      cases t with
      | cons r2 t2 => exact ⟨_ :: _ :: _, List.Perm.swap _ _ _, .cons r2 (.cons r t2)⟩
  | trans _ _ ih1 ih2 =>
    intro es h
    obtain ⟨es1, q1, s1⟩ := ih2 h
    obtain ⟨es2, q2, s2⟩ := ih1 s1
    exact ⟨es2, q2.trans q1, s2⟩
end
theorem tx_at {ls : List (List Nat)} {i : Nat} (h : i < ls.length) : (ls.map sV)[i]? = some (sV (ls.getD i [])) := by
  rw [List.getElem?_map, List.getElem?_eq_getElem h, List.getD_eq_getElem?_getD, List.getElem?_eq_getElem h] <;> rfl
theorem at_nat {xs : List V} {i : Nat} {v : V} (h : xs[i]? = some v) : atI xs (i : Int) = some v := atI_nat h
theorem at_tx {ls : List (List Nat)} {i : Nat} (h : i < ls.length) : atI (ls.map sV) (i : Int) = some (sV (ls.getD i [])) := atI_nat (tx_at h)
/-! ### edges and occurrences as data -/
def e3D (e : E) : PyData := .tuple [.int (e.1 : Nat), .int (e.2.1 : Nat), .int (e.2.2 : Nat)]
def p2D (e : Nat × Nat) : PyData := .tuple [.int (e.1 : Nat), .int (e.2 : Nat)]
theorem sh_of {d : PyData} (h1 : d.canLay0 = true) (h2 : d.depth ≤ 64) : SeqAt.shaped d = true := by
  show (d.canLay0 && decide (d.depth ≤ 64)) = true
  rw [Bool.and_eq_true]
  exact ⟨h1, decide_eq_true h2⟩
theorem lay_map {α : Type} {g : α → PyData} (h : ∀ x, (g x).canLay0 = true) : ∀ l : List α, PyData.canLayAll0 (l.map g) = true
  | [] => by simp only [List.map_nil, PyData.canLayAll0]
  | z :: zs => by simp [PyData.canLayAll0, h z, lay_map h zs]
theorem dep_map {α : Type} {g : α → PyData} {n : Nat} (h : ∀ x, (g x).depth ≤ n) : ∀ l : List α, PyData.depthAll (l.map g) ≤ n
  | [] => by
    rw [List.map_nil]
    exact Nat.zero_le n
  | z :: zs => by
    have h1 := dep_map h zs
    have h2 := h z
    rw [List.map_cons]
    show max (g z).depth (PyData.depthAll (zs.map g)) ≤ n
    omega
theorem e3D_lay (z : E) : (e3D z).canLay0 = true := by simp [e3D, PyData.canLay0, PyData.canLayAll0]
theorem e3D_dep (z : E) : (e3D z).depth ≤ 1 := by simp [e3D, PyData.depth, PyData.depthAll]
theorem p2D_lay (z : Nat × Nat) : (p2D z).canLay0 = true := by simp [p2D, PyData.canLay0, PyData.canLayAll0]
theorem p2D_dep (z : Nat × Nat) : (p2D z).depth ≤ 1 := by simp [p2D, PyData.depth, PyData.depthAll]
theorem tup_sh {α : Type} {g : α → PyData} (h1 : ∀ x, (g x).canLay0 = true) (h2 : ∀ x, (g x).depth ≤ 1) (l : List α) : SeqAt.shaped (.tuple (l.map g)) = true := by
  have := dep_map h2 l
  refine sh_of (by simp only [PyData.canLay0]; exact lay_map h1 l) ?_
  simp only [PyData.depth]
  omega
theorem e3_dp {K : PySem.W.Frag} {H : Hp} {x : V} {e : E} (h : e3 K H x e) : Dp K H x (e3D e) := by
  obtain ⟨t, rfl, h⟩ := h
  exact .tup h (.cons (.int _) (.cons (.int _) (.cons (.int _) .nil)))
theorem p2_dp {K : PySem.W.Frag} {H : Hp} {x : V} {e : Nat × Nat} (h : p2 K H x e) : Dp K H x (p2D e) := by
  obtain ⟨t, rfl, h⟩ := h
  exact .tup h (.cons (.int _) (.cons (.int _) .nil))
theorem all_dp {α : Type} {K : PySem.W.Frag} {H : Hp} {R : V → α → Prop} {g : α → PyData} (hg : ∀ x e, R x e → Dp K H x (g e)) : ∀ {xs : List V} {es : List α}, Paired R xs es → DpAll K H xs (es.map g)
  | _, _, .nil => .nil
  | _, _, .cons r t => .cons (hg _ _ r) (all_dp hg t)
theorem TrT.dp {K : PySem.W.Frag} {H : Hp} {v : V} {es : List E} (h : TrT K H v es) : Dp K H v (.tuple (es.map e3D)) := by
  obtain ⟨a, xs, rfl, h, r⟩ := h
  exact .tup h (all_dp (g := e3D) (fun _ _ => e3_dp) r)
def optD : Option (List (Nat × Nat)) → PyData
  | none => .none
  | some f => .tuple (f.map p2D)
theorem optD_sh (o : Option (List (Nat × Nat))) : SeqAt.shaped (optD o) = true := by
  cases o with
  | none => exact sh_of (by simp [optD, PyData.canLay0]) (by simp [optD, PyData.depth])
  | some f => exact tup_sh p2D_lay p2D_dep f
theorem OptP.dp {K : PySem.W.Frag} {H : Hp} {v : V} {o : Option (List (Nat × Nat))} (h : OptP K H v o) : Dp K H v (optD o) := by
  cases o with
  | none =>
    obtain rfl : v = .non := h
    exact .non
  | some f =>
    obtain ⟨a, xs, rfl, h, r⟩ := h
    exact .tup h (all_dp (g := p2D) (fun _ _ => p2_dp) r)
theorem e3D_eqv (e : E) (i j : Nat) (c : Int) : PyData.eqv (e3D e) (.tuple [.int (i : Nat), .int (j : Nat), .int c]) = isE i j c e := by
  have q : PyData.eqv (e3D e) (.tuple [.int (i : Nat), .int (j : Nat), .int c]) = (((e.1 : Int) == (i : Int)) && (((e.2.1 : Int) == (j : Int)) && ((((e.2.2 : Nat) : Int) == c) && true))) := by simp only [e3D, PyData.eqv, PyData.eqvAll]
  have n : ∀ a b : Nat, ((a : Int) == (b : Int)) = (a == b) := fun a b => by
    rw [Bool.eq_iff_iff, beq_iff_eq, beq_iff_eq]
    omega
  rw [q, n, n, Bool.and_true]
  rfl
/-! ### own rules -/
section
variable {X : Cx}
/-- (i, j, c) in a tuple of edges, not in -/
def rInE (K : PySem.W.Frag) (neg : Bool) : R2 := fun x y H Q => ∃ (t : Addr) (i j : Nat) (c : Int) (es : List E), x = .ref t ∧ SqT K H t [.int (i : Nat), .int (j : Nat), .int c] ∧ TrT K H y es ∧ Q (.bl (if neg then !hasE es i j c else hasE es i j c)) H
theorem q_sh (i j : Nat) (c : Int) : SeqAt.shaped (.tuple [.int (i : Nat), .int (j : Nat), .int c]) = true := sh_of (by simp [PyData.canLay0, PyData.canLayAll0]) (by simp [PyData.depth, PyData.depthAll])
theorem any_has (es : List E) (i j : Nat) (c : Int) : ((es.map e3D).any fun z => PyData.eqv z (.tuple [.int (i : Nat), .int (j : Nat), .int c])) = hasE es i j c := by
  rw [List.any_map]
  unfold hasE
  exact congrArg es.any (funext fun e => e3D_eqv e i j c)
theorem op_inE (hu : X.A.units + 65 < cLine) : OpR X (compareOp .In) (rInE X.K false) := by
  intro ps s σ H x y v u Q I rx ry hh
  have h := hh
  obtain ⟨t, i, j, c, es, rfl, ht, he, q⟩ := h
  obtain ⟨as, r1⟩ := Dp.reads I _ _ v (.tup ht (.cons (.int _) (.cons (.int _) (.cons (.int _) .nil)))) rx
  obtain ⟨bs, r2⟩ := Dp.reads I _ y u he.dp ry
  exact SeqAt.in_tuple_reads r2 r1 (lay_map e3D_lay es) (SeqAt.canLay_of_shaped (q_sh i j c)) (PyProof.Rows.room_in_shaped (q_sh i j c) hu) ⟨.bl _, H, I, rfl, by rw [any_has]; exact q⟩
theorem op_notInE (hu : X.A.units + 65 < cLine) : OpR X (compareOp .NotIn) (rInE X.K true) := by
  intro ps s σ H x y v u Q I rx ry hh
  have h := hh
  obtain ⟨t, i, j, c, es, rfl, ht, he, q⟩ := h
  obtain ⟨as, r1⟩ := Dp.reads I _ _ v (.tup ht (.cons (.int _) (.cons (.int _) (.cons (.int _) .nil)))) rx
  obtain ⟨bs, r2⟩ := Dp.reads I _ y u he.dp ry
  exact SeqAt.notIn_tuple_reads r2 r1 (lay_map e3D_lay es) (SeqAt.canLay_of_shaped (q_sh i j c)) (PyProof.Rows.room_in_shaped (q_sh i j c) hu) ⟨.bl _, H, I, rfl, by rw [any_has]; exact q⟩
/-- two answers, != : the same data -/
def rNeO (K : PySem.W.Frag) : R2 := fun x y H Q => ∃ o, OptP K H x o ∧ OptP K H y o ∧ Q (.bl false) H
theorem op_neO (hu : X.A.units + 64 < cLine) : OpR X (compareOp .NotEq) (rNeO X.K) := by
  intro ps s σ H x y v u Q I rx ry hh
  have h := hh
  obtain ⟨o, h1, h2, q⟩ := h
  refine op_neD hu ps s σ H x y v u Q I rx ry ⟨_, _, h1.dp, h2.dp, optD_sh o, optD_sh o, ?_⟩
  rw [SeqAt.eqv_refl _ (SeqAt.canLay_of_shaped (optD_sh o))]
  exact q
/-- a text times a written int: some text -/
def rMulS : R2 := fun x y H Q => ∃ z n, x = .str z ∧ y = .int n ∧ 2 ≤ n ∧ n ≤ 1000 ∧ 1 ≤ z.length ∧ z.length ≤ 1000 ∧ ∀ t : Str, Q (.str t) H
theorem op_mulS : OpR X (binaryOp .Mult) rMulS := by
  intro ps s σ H x y v u Q I rx ry hh
  have h := hh
  obtain ⟨z, n, rfl, rfl, h1, h2, h3, h4, q⟩ := h
  obtain ⟨t, rfl⟩ := rx
  obtain ⟨k, rfl⟩ := ry
  have hln : z.length * n.toNat ≤ 1000000 := Nat.le_trans (Nat.mul_le_mul h4 (show n.toNat ≤ 1000 by omega)) (by decide)
  refine P.mul_str ?_ (fun _ _ => ?_) (fun _ _ => ?_) ?_
  · rw [Bool.or_eq_false_iff, decide_eq_false_iff_not, decide_eq_false_iff_not]
    omega
  · have : (1000 : Int) ≤ (2 ^ 63 - 1) / n := by
      refine (Int.le_ediv_iff_mul_le (by omega)).mpr ?_
      omega
    omega
  · unfold Builtin.Str.tooLong
    exact decide_eq_false (Nat.not_lt.mpr (big hln))
  · rw [if_neg (show ¬ n < 1 by omega), if_neg (show ¬ (n == 1 || z.length == 0) = true by
      rw [Bool.or_eq_true, beq_iff_eq, beq_iff_eq]
      omega)]
    exact ⟨fits_reps (by unfold Builtin.Str.tooLong; exact decide_eq_false (Nat.not_lt.mpr (big hln))), ⟨.str _, H, I.tok _, ⟨_, rfl⟩, q _⟩⟩
/-! ### loops over range(n), len of texts and of tuples -/
theorem for_rangeN {n : Nat} {g : TG} {tb : TS} {D : Ends} {σ : St} {H : Hp} (Pv : Nat → St → Hp → Prop) (h0 : Pv 0 σ H)
    (hs : ∀ i σ H, i < n → Pv i σ H → g (.int (i : Int)) σ H fun σ2 H2 => tb { D with nx := Pv (i + 1), ct := Pv (i + 1), bk := D.nx } σ2 H2) (hd : ∀ σ H, Pv n σ H → D.nx σ H) : ∃ W : Nat → Nat → St → Hp → Prop, (∃ m, W 0 m σ H) ∧ ∀ i m σ H, W i m σ H → ((Itr 0 n).stop i H ∧ D.nx σ H) ∨ ((Itr 0 n).go i H ∧ ∃ N : St → Hp → Prop, (∀ σ' H', N σ' H' → ∃ m', m' < m ∧ W (i + 1) m' σ' H') ∧ ∀ x H', (Itr 0 n).yld i H x H' → g x σ H' fun σ2 H2 => tb { D with nx := N, ct := N, bk := D.nx } σ2 H2) :=
  for_range Pv h0 (fun i σ H hi p => by rw [Int.zero_add]; exact hs i σ H hi p) hd
theorem lc_rangeN {n : Nat} {g : TG} {tt : TT} {te : TE} {vs : List Nat} {σ : St} {H1 : Hp} {D : Addr} {Qd : Hp → Prop} (Pv : Nat → Hp → Prop) (h0 : Pv 0 (upd H1 D (.lst [])))
    (hs : ∀ i H, i < n → Pv i H → g (.int (i : Int)) (wipe σ vs) H fun σ2 H2 => wipe σ2 vs = wipe σ vs ∧ tt σ2 H2 fun b H3 =>
      if b = true then te σ2 H3 fun y H4 => ∃ acc, H4 D = some (.lst acc) ∧ acc.length < sizeLine ∧ Pv (i + 1) (upd H4 D (.lst (acc ++ [y]))) else Pv (i + 1) H3) (hd : ∀ H, Pv n H → Qd H) : ∃ W : Nat → Nat → Hp → Prop, (∃ m, W 0 m (upd H1 D (.lst []))) ∧ ∀ i m H, W i m H → ((Itr 0 n).stop i H ∧ Qd H) ∨ ((Itr 0 n).go i H ∧ ∃ Nx : Hp → Prop, (∀ H', Nx H' → ∃ m', m' < m ∧ W (i + 1) m' H') ∧ ∀ x H', (Itr 0 n).yld i H x H' → g x (wipe σ vs) H' fun σ2 H2 => wipe σ2 vs = wipe σ vs ∧ tt σ2 H2 fun b H3 => if b = true then te σ2 H3 fun y H4 => ∃ acc, H4 D = some (.lst acc) ∧ acc.length < sizeLine ∧ Nx (upd H4 D (.lst (acc ++ [y]))) else Nx H3) :=
  lc_range Pv h0 (fun i H hi p => by rw [Int.zero_add]; exact hs i H hi p) hd
theorem S_big {l : List Nat} (h : l.length ≤ 1000000) : (S l).length ≤ sizeLine := by
  rw [S_len]
  exact big h
theorem cut_from {x : List Nat} {i : Int} (h : 0 ≤ i) : cutS (S x) (some i) none = S (x.drop i.toNat) := by rw [C8.cutS_slice]; exact SX.slice_from h
theorem cut_to {x : List Nat} {i : Int} (h : 0 ≤ i) : cutS (S x) none (some i) = S (x.take i.toNat) := by rw [C8.cutS_slice]; exact SX.slice_to h
theorem same_ne {H H1 : Hp} {a b : Addr} {o : HO} (s : Same H H1) (h : H1 b = none) (e : H a = some o) : a ≠ b := ne_of_none (s a o e) h
end
end Sh
namespace Sh
open PySem PySem.Spec L2 M31
open PyProof.Rows hiding St
section
variable {P : Program} {w : World} {K : PySem.W.Frag} {mg : Str → Option Value} {base : Heap}
/-! ### need_circle -/
abbrev sNeed : Stmt := topS 8
theorem scNeed : FnScope ["circle"] ["circle"] (defScope sNeed) := ⟨rfl, rfl, rfl, by decide +kernel, rfl, by decide +kernel, by decide +kernel⟩
def spNeed : Sp := fun vs H Q _ => ∃ c : List Nat, vs = [sV c] ∧ c ≠ [] ∧ Q .non H
theorem ok_need {f : Addr} {fd : FuncData} (F : Fun K "need_circle" "need_circle" sNeed f fd) : FnOk P w K mg base CX0 1 f fd ["circle"] spNeed := by
  refine F.ok scNeed (fun vs H Q E h => ?_) (fun cdv A outer s H vs Q E hr h => ?_)
  · obtain ⟨c, rfl, _⟩ := h
    rfl
  · obtain ⟨c, rfl, hc, q⟩ := h
    refine ⟨_, pss_one (ps_if (pt_cmpR op_eq (pv 0) pe_str (nomark _)) pss_never pss_nil), ?_⟩
    exact ⟨_, rfl, rfl, _, rfl, ite2 (fun e => (sV_ne hc (of_decide_eq_true e)).elim) fun _ => q⟩
/-! ### read_round, and the law's own -/
abbrev sRound : Stmt := topS 9
abbrev sLRound : Stmt := topS 32
theorem scRound : FnScope ["circle", "start", "count", "k"] ["circle", "start", "count"] (defScope sRound) := ⟨rfl, rfl, rfl, by decide +kernel, rfl, by decide +kernel, by decide +kernel⟩
theorem scLRound : FnScope ["_law_circle", "_law_start", "_law_count", "_law_k"] ["_law_circle", "_law_start", "_law_count"] (defScope sLRound) := ⟨rfl, rfl, rfl, by decide +kernel, rfl, by decide +kernel, by decide +kernel⟩
def spRound : Sp := fun vs H Q _ => ∃ (c : List Nat) (s n : Nat), vs = [sV c, .int (s : Nat), .int (n : Nat)] ∧ c ≠ [] ∧ c.length ≤ 3000 ∧ n ≤ 3000 ∧ ∀ H', Same H H' → Q (sV (rr c s n)) H'
theorem take_snoc {α : Type} {l : List α} {i : Nat} (h : i < l.length) {x : α} (e : l[i]? = some x) : l.take (i + 1) = l.take i ++ [x] := by
  rw [List.take_add_one, e]
  rfl
theorem rr_snoc (c : List Nat) (s n : Nat) : (rr c s (n + 1)) = rr c s n ++ [c.getD ((s + n) % c.length) 0] := by
  unfold rr
  rw [List.range_succ, List.map_append]
  rfl
def one (x : Nat) : List Nat := [x]
theorem join_ones : ∀ l : List Nat, TL.joinL [] (l.map one) = l
  | [] => rfl
  | [x] => rfl
  | x :: y :: r => by
    show [x] ++ ([] ++ TL.joinL [] ((y :: r).map one)) = x :: y :: r
    rw [join_ones (y :: r)]
    rfl
theorem join_S1 (l : List Nat) : Txt.join (S []) ((l.map one).map S) = S l := by
  rw [SX.join_S, join_ones]
theorem ones_len (l : List Nat) : (((l.map one).map S).map (·.length)).sum = l.length := by
  induction l with
  | nil => rfl
  | cons x r ih =>
    show (S (one x)).length + (((r.map one).map S).map (·.length)).sum = r.length + 1
    rw [ih, S_len]
    show 1 + r.length = r.length + 1
    omega
theorem ones_V (l : List Nat) : l.map (fun x => sV (one x)) = ((l.map one).map S).map V.str := by
  rw [List.map_map, List.map_map] <;> rfl
theorem at_S {c : List Nat} {i : Nat} (h : i < c.length) : atI (S c).cps.toList (i : Int) = some (c.getD i 0) := by
  refine atI_nat (xs := c) ?_
  rw [List.getElem?_eq_getElem h, List.getD_eq_getElem?_getD, List.getElem?_eq_getElem h]
  rfl
theorem nn_mod (a b : Nat) : ((a : Int) + (b : Int)) = ((a + b : Nat) : Int) := by omega
theorem ok_round {f : Addr} {fd : FuncData} (F : Fun K "read_round" "read_round" sRound f fd) (T : Txt mg) : FnOk P w K mg base CX0 1 f fd ["circle", "start", "count"] spRound := by
  refine F.ok scRound (fun vs H Q E h => ?_) (fun cdv A outer s H vs Q E hr h => ?_)
  · obtain ⟨c, s, n, rfl, _⟩ := h
    rfl
  · obtain ⟨c, s, n, rfl, hc, hl, hn, q⟩ := h
    have hc0 : 0 < c.length := List.length_pos_iff.mpr hc
    refine ⟨_, pss_one (ps_ret (pe_bm PySem.F.plainAttrs_str PySem.F.slot_str_join PySem.F.type_str_join mt_join pe_str (pa_cons
      (pe_lc (own := [("k", 3)]) (g := gName 3) (tt := tYes) rfl scRound.nd (pi_range1 (by rfl) T.range (pa_cons (pv 2) pa_nil)) (blkOk_by (N := ["circle", "start", "count", "k"]) (sc := defScope sRound) (by decide +kernel))
        (fun _ _ _ _ _ => pg_name (i := 3) scRound.nd rfl (Or.inl rfl)) (fun _ _ _ _ _ => pts_nil)
        (fun _ _ _ _ _ => pe_ix ix_str (pv 0) (pe_op op_mod (pe_op op_add (pv 1) (pv 3)) (pe_callB call_len_str (by rfl) T.len PySem.boot_len (pa_cons (pv 0) pa_nil))) (fun _ _ => rfl))) pa_nil))), ?_⟩
    refine ⟨rfl, _, rfl, (n : Int), rfl, by omega, by omega, fun D hD => lc_range (lo := 0) (n := n) (fun i H' => Same H H' ∧ H' D = some (.lst ((rr c s i).map fun x => sV (one x)))) ⟨same_upd hD, upd_same⟩ ?_ ?_⟩
    · rintro i H1 hi ⟨s1, h1⟩
      have hmod : (s + i) % c.length < c.length := Nat.mod_lt _ hc0
      refine ⟨rfl, _, rfl, _, rfl, _, rfl, _, _, rfl, rfl, _, rfl, S c, rfl, (by rw [S_len]; exact big (by omega)), _, _, rfl, rfl, (by rw [S_len]; omega), S c, _, c.getD ((s + i) % c.length) 0, rfl, rfl, (by rw [S_len]; exact big (by omega)), ?_, _, h1, ?_, ?_⟩
      · rw [S_len, show ((s : Int) + (0 + (i : Int))) % (c.length : Int) = (((s + i) % c.length : Nat) : Int) by rw [Int.zero_add, nn_mod, Int.natCast_emod]]
        exact at_S hmod
      · rw [List.length_map, rr_len]
        exact bigl (by omega)
      · refine ⟨sm_own s1 hD, ?_⟩
        rw [upd_same, rr_snoc, List.map_append] <;> rfl
    · rintro H1 ⟨s1, h1⟩
      rw [ones_V] at h1
      refine ⟨S [], D, ((rr c s n).map one).map S, rfl, rfl, .inl (SqL.of h1), ?_, ?_⟩
      · rw [ones_len, rr_len, S_len]
        show n + _ * 0 ≤ _
        omega
      · rw [join_S1]
        exact q H1 s1
theorem ok_lround {f : Addr} {fd : FuncData} (F : Fun K "_law_round" "_law_round" sLRound f fd) (T : Txt mg) : FnOk P w K mg base CX0 1 f fd ["_law_circle", "_law_start", "_law_count"] spRound := by
  refine F.ok scLRound (fun vs H Q E h => ?_) (fun cdv A outer s H vs Q E hr h => ?_)
  · obtain ⟨c, s, n, rfl, _⟩ := h
    rfl
  · obtain ⟨c, s, n, rfl, hc, hl, hn, q⟩ := h
    have hc0 : 0 < c.length := List.length_pos_iff.mpr hc
    refine ⟨_, pss_one (ps_ret (pe_bm PySem.F.plainAttrs_str PySem.F.slot_str_join PySem.F.type_str_join mt_join pe_str (pa_cons
      (pe_lc (own := [("_law_k", 3)]) (g := gName 3) (tt := tYes) rfl scLRound.nd (pi_range1 (by rfl) T.range (pa_cons (pv 2) pa_nil)) (blkOk_by (N := ["_law_circle", "_law_start", "_law_count", "_law_k"]) (sc := defScope sLRound) (by decide +kernel))
        (fun _ _ _ _ _ => pg_name (i := 3) scLRound.nd rfl (Or.inl rfl)) (fun _ _ _ _ _ => pts_nil)
        (fun _ _ _ _ _ => pe_ix ix_str (pv 0) (pe_op op_mod (pe_callTy call_int1 (by rfl) T.int boot_int (pa_cons (pe_op op_add (pv 1) (pv 3)) pa_nil)) (pe_callB call_len_str (by rfl) T.len PySem.boot_len (pa_cons (pv 0) pa_nil))) (fun _ _ => rfl))) pa_nil))), ?_⟩
    refine ⟨rfl, _, rfl, (n : Int), rfl, by omega, by omega, fun D hD => lc_range (lo := 0) (n := n) (fun i H' => Same H H' ∧ H' D = some (.lst ((rr c s i).map fun x => sV (one x)))) ⟨same_upd hD, upd_same⟩ ?_ ?_⟩
    · rintro i H1 hi ⟨s1, h1⟩
      have hmod : (s + i) % c.length < c.length := Nat.mod_lt _ hc0
      refine ⟨rfl, _, rfl, _, rfl, _, rfl, _, _, rfl, rfl, .inl ⟨_, rfl, _, rfl, S c, rfl, (by rw [S_len]; exact big (by omega)), _, _, rfl, rfl, (by rw [S_len]; omega), S c, _, c.getD ((s + i) % c.length) 0, rfl, rfl, (by rw [S_len]; exact big (by omega)), ?_, _, h1, ?_, ?_⟩⟩
      · rw [S_len, show ((s : Int) + (0 + (i : Int))) % (c.length : Int) = (((s + i) % c.length : Nat) : Int) by rw [Int.zero_add, nn_mod, Int.natCast_emod]]
        exact at_S hmod
      · rw [List.length_map, rr_len]
        exact bigl (by omega)
      · refine ⟨sm_own s1 hD, ?_⟩
        rw [upd_same, rr_snoc, List.map_append] <;> rfl
    · rintro H1 ⟨s1, h1⟩
      rw [ones_V] at h1
      refine ⟨S [], D, ((rr c s n).map one).map S, rfl, rfl, .inl (SqL.of h1), ?_, ?_⟩
      · rw [ones_len, rr_len, S_len]
        show n + _ * 0 ≤ _
        omega
      · rw [join_S1]
        exact q H1 s1
end
end Sh
namespace Sh
open PySem PySem.Spec L2 M31
open PyProof.Rows hiding St
section
variable {P : Program} {w : World} {K : PySem.W.Frag} {mg : Str → Option Value} {base : Heap}
/-! ### circle_starts -/
abbrev sStarts : Stmt := topS 10
theorem scStarts : FnScope ["circle", "word", "p"] ["circle", "word"] (defScope sStarts) := ⟨rfl, rfl, rfl, by decide +kernel, rfl, by decide +kernel, by decide +kernel⟩
def startsTo (c w : List Nat) (n : Nat) : List Nat := (List.range n).filter fun p => decide (rr c p w.length = w)
theorem startsTo_yes {c w : List Nat} {n : Nat} (h : rr c n w.length = w) : startsTo c w (n + 1) = startsTo c w n ++ [n] := by
  unfold startsTo
  rw [List.range_succ, List.filter_append, List.filter_cons_of_pos (p := fun p => decide (rr c p w.length = w)) (decide_eq_true h)] <;> rfl
theorem startsTo_no {c w : List Nat} {n : Nat} (h : ¬ rr c n w.length = w) : startsTo c w (n + 1) = startsTo c w n := by
  unfold startsTo
  rw [List.range_succ, List.filter_append, List.filter_cons_of_neg (p := fun p => decide (rr c p w.length = w)) (by rw [decide_eq_false h]; exact Bool.false_ne_true), List.filter_nil, List.append_nil]
theorem startsTo_len (c w : List Nat) (n : Nat) : (startsTo c w n).length ≤ n := by
  refine Nat.le_trans (List.length_filter_le _ _) ?_
  rw [List.length_range]
  exact Nat.le_refl _
abbrev nV (n : Nat) : V := .int (n : Nat)
def spStarts : Sp := fun vs H Q _ => ∃ (c wd : List Nat), vs = [sV c, sV wd] ∧ c ≠ [] ∧ c.length ≤ 3000 ∧ wd.length ≤ 3000 ∧ ∀ H' a, Same H H' → H' a = some (.tup ((starts c wd).map nV)) → Q (.ref a) H'
theorem ok_starts {f : Addr} {fd : FuncData} (F : Fun K "circle_starts" "circle_starts" sStarts f fd) (T : Txt mg) (CN : Cal P w K mg base 1 "need_circle" spNeed) (CR : Cal P w K mg base 1 "read_round" spRound) :
    FnOk P w K mg base CX0 2 f fd ["circle", "word"] spStarts := by
  refine F.ok scStarts (fun vs H Q E h => ?_) (fun cdv A outer s H vs Q E hr h => ?_)
  · obtain ⟨c, wd, rfl, _⟩ := h
    rfl
  · obtain ⟨c, wd, rfl, hc, hl, hw, q⟩ := h
    refine ⟨_, pss_cons (ps_expr (pe_c CN hr (by decide) (by rfl) (pa_cons (pv 0) pa_nil)))
      (pss_one (ps_ret (pe_callTy call_tuple_of (by rfl) T.tuple boot_tuple (pa_cons
        (pe_lc (own := [("p", 2)]) (g := gName 2) rfl scStarts.nd (pi_range1 (by rfl) T.range (pa_cons (pe_callB call_len_str (by rfl) T.len PySem.boot_len (pa_cons (pv 0) pa_nil)) pa_nil)) (blkOk_by (N := ["circle", "word", "p"]) (sc := defScope sStarts) (by decide +kernel))
          (fun _ _ _ _ _ => pg_name (i := 2) scStarts.nd rfl (Or.inl rfl))
          (fun _ _ _ _ _ => pts_one (pt_cmpR op_eq (pe_c CR hr (by decide) (by rfl) (pa_cons (pv 0) (pa_cons (pv 2) (pa_cons (pe_callB call_len_str (by rfl) T.len PySem.boot_len (pa_cons (pv 1) pa_nil)) pa_nil)))) (pv 1) (nomark _)))
          (fun _ _ _ _ _ => pv 2)) pa_nil)))), ?_⟩
    refine ⟨_, rfl, c, rfl, hc, ?_⟩
    refine ⟨_, rfl, S c, rfl, S_big (by omega), ((S c).length : Int), rfl, (by rw [S_len]; omega), (by rw [S_len]; omega), fun D hD =>
      lc_rangeN (n := c.length) (fun i H' => Same H H' ∧ H' D = some (.lst ((startsTo c wd i).map nV))) ⟨same_upd hD, upd_same⟩ ?_ ?_⟩
    · rintro i H1 hi ⟨s1, h1⟩
      refine ⟨rfl, _, rfl, _, rfl, _, rfl, S wd, rfl, S_big (by omega), c, i, wd.length, (by rw [S_len] <;> rfl), hc, hl, hw, fun H2 s2 => ⟨_, rfl, rfl, _, rfl, ?_⟩⟩
      refine ite2 (fun e => ?_) (fun e => ?_)
      · have e : rr c i wd.length = wd := sV_inj (of_decide_eq_true e)
        refine ⟨_, rfl, _, s2 _ _ h1, ?_, sm_own (s1.trans s2) hD, ?_⟩
        · rw [List.length_map]
          have := startsTo_len c wd i
          exact bigl (by omega)
        · rw [upd_same, startsTo_yes e, List.map_append] <;> rfl
      · refine ⟨s1.trans s2, ?_⟩
        rw [startsTo_no fun z => e (decide_eq_true (congrArg sV z))]
        exact s2 _ _ h1
    · rintro H1 ⟨s1, h1⟩
      exact ⟨D, _, rfl, .inl ⟨SqL.of h1, fun l hl => q _ l (sm_upd s1 hl) upd_same⟩⟩
/-! ### is_contained -/
abbrev sCont : Stmt := topS 14
theorem scCont : FnScope ["pieces", "k", "j"] ["pieces", "k"] (defScope sCont) := ⟨rfl, rfl, rfl, by decide +kernel, rfl, by decide +kernel, by decide +kernel⟩
def spCont (K : PySem.W.Frag) : Sp := fun vs H Q _ => ∃ (a : Addr) (ls : List (List Nat)) (k : Nat), vs = [.ref a, .int (k : Nat)] ∧ SqT K H a (ls.map sV) ∧ k < ls.length ∧ ls.length ≤ 1000 ∧ (∀ x ∈ ls, x.length ≤ 1000) ∧ Q (.bl (cont ls k)) H
theorem cont_yes {ls : List (List Nat)} {k j : Nat} (hj : j < ls.length) (h : contBy ls k j = true) : cont ls k = true := List.any_eq_true.mpr ⟨j, List.mem_range.mpr hj, h⟩
theorem cont_none {ls : List (List Nat)} {k : Nat} (h : ∀ j, j < ls.length → contBy ls k j = false) : cont ls k = false := by
  cases e : cont ls k with
  | false => rfl
  | true =>
    obtain ⟨j, hj, q⟩ := List.any_eq_true.mp e
    rw [h j (List.mem_range.mp hj)] at q
    cases q
theorem ok_cont {f : Addr} {fd : FuncData} (F : Fun K "is_contained" "is_contained" sCont f fd) (T : Txt mg) : FnOk P w K mg base CX0 1 f fd ["pieces", "k"] (spCont K) := by
  refine F.ok scCont (fun vs H Q E h => ?_) (fun cdv A outer s H vs Q E hr h => ?_)
  · obtain ⟨a, ls, k, rfl, _⟩ := h
    rfl
  · obtain ⟨a, ls, k, rfl, hS, hk, hl, hw, q⟩ := h
    have hL : ∀ {j}, j < ls.length → (ls.getD j []).length ≤ 1000 := fun hj => hw _ (getD_mem hj)
    refine ⟨_, pss_cons (ps_for PassesOwn.never rfl (pi_range1 (by rfl) T.range (pa_cons (pe_callB call_len_seq (by rfl) T.len PySem.boot_len (pa_cons (pv 0) pa_nil)) pa_nil)) (pg_name (i := 2) scCont.nd rfl (Or.inl rfl))
        (pss_cons (ps_if (PW.pt (pw_and (pt_cmpR op_gt (pe_callB call_len_str (by rfl) T.len PySem.boot_len (pa_cons (pe_ix ix_tup (pv 0) (pv 2) (fun _ _ => rfl)) pa_nil)) (pe_callB call_len_str (by rfl) T.len PySem.boot_len (pa_cons (pe_ix ix_tup (pv 0) (pv 1) (fun _ _ => rfl)) pa_nil)) (nomark _))
            (pw_and1 (pt_cmpR op_in_str (pe_ix ix_tup (pv 0) (pv 1) (fun _ _ => rfl)) (pe_ix ix_tup (pv 0) (pv 2) (fun _ _ => rfl)) (by rfl))))) (pss_one (ps_ret pe_bl)) pss_nil)
        (pss_one (ps_if (PW.pt (pw_and (pt_cmpR op_lt (pv 2) (pv 1) (nomark _)) (pw_and1 (pt_cmpR op_eq (pe_ix ix_tup (pv 0) (pv 2) (fun _ _ => rfl)) (pe_ix ix_tup (pv 0) (pv 1) (fun _ _ => rfl)) (nomark _))))) (pss_one (ps_ret pe_bl)) pss_nil))))
      (pss_one (ps_ret pe_bl)), ?_⟩
    refine ⟨_, rfl, a, _, rfl, .inr hS, ((ls.map sV).length : Int), rfl, (by rw [List.length_map]; omega), (by rw [List.length_map]; omega),
      for_rangeN (n := (ls.map sV).length) (fun i σ H' => ∃ v, σ = [some (.ref a), some (.int (k : Nat)), v] ∧ H' = H ∧ ∀ j, j < i → contBy ls k j = false) ⟨none, rfl, rfl, fun j hj => absurd hj (Nat.not_lt_zero _)⟩ ?_ ?_⟩
    · rintro i σ H1 hi ⟨v, rfl, rfl, hno⟩
      rw [List.length_map] at hi
      have ai := at_tx hi
      have ak := at_tx hk
      have hq : contBy ls k i = true → Q (.bl true) H1 := fun z => by
        rw [cont_yes hi z] at q
        exact q
      have hn : contBy ls k i = false → ∃ v, ([some (.ref a), some (.int (k : Nat)), some (.int (i : Nat))] : St) = [some (.ref a), some (.int (k : Nat)), v] ∧ H1 = H1 ∧ ∀ j, j < i + 1 → contBy ls k j = false := fun z => ⟨_, rfl, rfl, fun j hj => by
        rcases Nat.lt_or_ge j i with e | e
        · exact hno j e
        · have : j = i := by omega
          rw [this]
          exact z⟩
      refine ⟨_, rfl, _, rfl, a, _, _, _, rfl, rfl, hS, ai, _, rfl, S_big (Nat.le_trans (hL hi) (by decide)), _, rfl, _, rfl, a, _, _, _, rfl, rfl, hS, ak, _, rfl, S_big (Nat.le_trans (hL hk) (by decide)), _, _, rfl, rfl, _, rfl, ?_⟩
      have second : ((decide ((ls.getD k []).length < (ls.getD i []).length) && inT (ls.getD k []) (ls.getD i [])) = false) → tIfS (tAnd (tTest (tOp (rI0 fun i j => .bl (decide (i < j))) (tVar 2) (tVar 1))) (tTest (tOp rEq (tOp (rIxT K) (tVar 0) (tVar 2)) (tOp (rIxT K) (tVar 0) (tVar 1))))) (tRet (tC (.bl true))) tNext
          { nx := fun σ H' => ∃ v, σ = [some (.ref a), some (.int (k : Nat)), v] ∧ H' = H1 ∧ ∀ j, j < i + 1 → contBy ls k j = false, rt := Q, bk := fun _ _ => False, ct := fun _ _ => False } [some (.ref a), some (.int (k : Nat)), some (.int (i : Nat))] H1 := fun z => by
        refine ⟨_, rfl, _, rfl, _, _, rfl, rfl, _, rfl, ?_⟩
        refine ite2 (fun e => ?_) (fun e => ?_)
        · have e : i < k := by
            have := of_decide_eq_true e
            omega
          refine ⟨_, rfl, _, rfl, a, _, _, _, rfl, rfl, hS, ai, _, rfl, _, rfl, a, _, _, _, rfl, rfl, hS, ak, rfl, _, rfl, ?_⟩
          rw [dec_sV]
          refine ite2 (fun e2 => ?_) (fun e2 => ?_)
          · refine hq ?_
            unfold contBy
            rw [z, decide_eq_true e, e2] <;> rfl
          · refine hn ?_
            unfold contBy
            rw [z, Bool.eq_false_iff.mpr e2, Bool.and_false] <;> rfl
        · refine iteF ?_
          refine hn ?_
          unfold contBy
          rw [z, decide_eq_false (show ¬ i < k by
            intro y
            exact e (decide_eq_true (by omega)))] <;> rfl
      refine ite2 (fun e => ?_) (fun e => ?_)
      · have e : (ls.getD k []).length < (ls.getD i []).length := by
          have := of_decide_eq_true e
          rw [S_len, S_len] at this
          omega
        refine ⟨_, rfl, _, rfl, a, _, _, _, rfl, rfl, hS, ak, _, rfl, _, rfl, a, _, _, _, rfl, rfl, hS, ai, _, _, rfl, rfl, _, rfl, ?_⟩
        rw [in_S]
        refine ite2 (fun e2 => ?_) (fun e2 => ?_)
        · refine hq ?_
          unfold contBy
          rw [decide_eq_true e, e2] <;> rfl
        · refine second ?_
          rw [Bool.eq_false_iff.mpr e2, Bool.and_false]
      · refine iteF ?_
        refine second ?_
        rw [decide_eq_false (show ¬ (ls.getD k []).length < (ls.getD i []).length by
          intro y
          refine e (decide_eq_true ?_)
          rw [S_len, S_len]
          omega)] <;> rfl
    · rintro σ H1 ⟨v, rfl, rfl, hno⟩
      rw [cont_none fun j hj => hno j (by rw [List.length_map]; exact hj)] at q
      exact q
end
end Sh
namespace Sh
open PySem PySem.Spec L2 M31
open PyProof.Rows hiding St
section
variable {P : Program} {w : World} {K : PySem.W.Frag} {mg : Str → Option Value} {base : Heap}
/-! ### is_overlap -/
abbrev sOv : Stmt := topS 16
theorem scOv : FnScope ["one", "other", "length"] ["one", "other", "length"] (defScope sOv) := ⟨rfl, rfl, rfl, by decide +kernel, rfl, by decide +kernel, by decide +kernel⟩
def spOv : Sp := fun vs H Q _ => ∃ (x y : List Nat) (c : Nat), vs = [sV x, sV y, .int (c : Nat)] ∧ x.length ≤ 1000 ∧ y.length ≤ 1000 ∧ Q (.bl (isOv x y c)) H
theorem isOv_no {x y : List Nat} {c : Nat} (h : c < 1 ∨ x.length ≤ c ∨ y.length ≤ c) : isOv x y c = false := by
  cases e : isOv x y c with
  | false => rfl
  | true =>
    obtain ⟨h1, h2, h3, _⟩ := isOv_iff.mp e
    omega
theorem isOv_is {x y : List Nat} {c : Nat} (h1 : 1 ≤ c) (h2 : c < x.length) (h3 : c < y.length) : isOv x y c = decide (x.drop (x.length - c) = y.take c) := by
  unfold isOv
  rw [decide_eq_true h1, decide_eq_true h2, decide_eq_true h3] <;> rfl
theorem ok_ov {f : Addr} {fd : FuncData} (F : Fun K "is_overlap" "is_overlap" sOv f fd) (T : Txt mg) : FnOk P w K mg base CX0 1 f fd ["one", "other", "length"] spOv := by
  refine F.ok scOv (fun vs H Q E h => ?_) (fun cdv A outer s H vs Q E hr h => ?_)
  · obtain ⟨x, y, c, rfl, _⟩ := h
    rfl
  · obtain ⟨x, y, c, rfl, hx, hy, q⟩ := h
    have no : (c < 1 ∨ x.length ≤ c ∨ y.length ≤ c) → Q (.bl false) H := fun z => by
      rw [isOv_no z] at q
      exact q
    refine ⟨_, pss_cons (ps_if (PW.pt (pw_or (pt_cmpR op_lt (pv 2) pe_int (nomark _)) (pw_or (pt_cmpR op_ge (pv 2) (pe_callB call_len_str (by rfl) T.len PySem.boot_len (pa_cons (pv 0) pa_nil)) (nomark _))
          (pw_or1 (pt_cmpR op_ge (pv 2) (pe_callB call_len_str (by rfl) T.len PySem.boot_len (pa_cons (pv 1) pa_nil)) (nomark _)))))) (pss_one (ps_ret pe_bl)) pss_nil)
      (pss_one (ps_ret (pe_cmpR op_eq (pe_slice sl_str (pv 0) (po_some (pe_op op_sub (pe_callB call_len_str (by rfl) T.len PySem.boot_len (pa_cons (pv 0) pa_nil)) (pv 2))) po_none) (pe_slice sl_str (pv 1) po_none (po_some (pv 2))) (nomark _)))), ?_⟩
    refine ⟨_, rfl, _, _, rfl, rfl, _, rfl, ?_⟩
    refine ite2 (fun e => iteT (no (.inl ?_))) (fun e1 => ?_)
    · have := of_decide_eq_true e
      omega
    have e1 : 1 ≤ c := by
      have : ¬ ((c : Int) < 1) := fun z => e1 (decide_eq_true z)
      omega
    refine ⟨_, rfl, _, rfl, _, rfl, S_big (by omega), _, _, rfl, rfl, _, rfl, ?_⟩
    refine ite2 (fun e => iteT (no (.inr (.inl ?_)))) (fun e2 => ?_)
    · have := of_decide_eq_true e
      rw [S_len] at this
      omega
    have e2 : c < x.length := by
      have : ¬ (((S x).length : Int) ≤ (c : Int)) := fun z => e2 (decide_eq_true z)
      rw [S_len] at this
      omega
    refine ⟨_, rfl, _, rfl, _, rfl, S_big (by omega), _, _, rfl, rfl, _, rfl, ?_⟩
    refine ite2 (fun e => no (.inr (.inr ?_))) (fun e3 => ?_)
    · have := of_decide_eq_true e
      rw [S_len] at this
      omega
    have e3 : c < y.length := by
      have : ¬ (((S y).length : Int) ≤ (c : Int)) := fun z => e3 (decide_eq_true z)
      rw [S_len] at this
      omega
    refine ⟨_, rfl, _, rfl, _, rfl, S_big (by omega), _, rfl, _, _, rfl, rfl, _, rfl, _, rfl, S_big (by omega), _, rfl, _, rfl, _, rfl, _, rfl, S_big (by omega), rfl, ?_⟩
    rw [isOv_is e1 e2 e3] at q
    rw [cut_from (by rw [S_len]; omega), cut_to (by omega), show (((S x).length : Int) - (c : Int)).toNat = x.length - c by rw [S_len]; omega, show ((c : Int)).toNat = c by omega, dec_sV]
    exact q
/-! ### free_pieces -/
abbrev sFree : Stmt := topS 15
theorem scFree : FnScope ["pieces", "piece", "k"] ["pieces"] (defScope sFree) := ⟨rfl, rfl, rfl, by decide +kernel, rfl, by decide +kernel, by decide +kernel⟩
/-- what a tuple of pieces must be -/
structure PcOk (ls : List (List Nat)) : Prop where
  ne : ls ≠ []
  le : ls.length ≤ 40
  wd : ∀ x ∈ ls, x ≠ [] ∧ x.length ≤ 60
def spFree (K : PySem.W.Frag) : Sp := fun vs H Q _ => ∃ (a : Addr) (ls : List (List Nat)), vs = [.ref a] ∧ SqT K H a (ls.map sV) ∧ PcOk ls ∧ ∀ H' v, Same H H' → TxT K H' v (free ls) → Q v H'
theorem noEmpty {ls : List (List Nat)} (h : ∀ x ∈ ls, x ≠ []) : inV (.str "") (ls.map sV) = false := by
  cases e : inV (.str "") (ls.map sV) with
  | false => rfl
  | true =>
    obtain ⟨y, hy, q⟩ := List.any_eq_true.mp e
    obtain ⟨x, hx, rfl⟩ := List.mem_map.mp hy
    have q : (S x == (Str.ofString "")) = true := q
    rw [S_nil] at q
    exact (h x hx (S_inj (eq_of_beq q))).elim
theorem allFlat (ls : List (List Nat)) : (ls.map sV).all flatV = true := List.all_eq_true.mpr fun y hy => by
  obtain ⟨x, _, rfl⟩ := List.mem_map.mp hy
  rfl
def freeTo (ls : List (List Nat)) (n : Nat) : List (List Nat) := ((List.range n).filter fun k => !cont ls k).map fun k => ls.getD k []
theorem freeTo_yes {ls : List (List Nat)} {n : Nat} (h : cont ls n = false) : freeTo ls (n + 1) = freeTo ls n ++ [ls.getD n []] := by
  unfold freeTo
  rw [List.range_succ, List.filter_append, List.filter_cons_of_pos (p := fun k => !cont ls k) (by rw [h] <;> rfl), List.map_append] <;> rfl
theorem freeTo_no {ls : List (List Nat)} {n : Nat} (h : cont ls n = true) : freeTo ls (n + 1) = freeTo ls n := by
  unfold freeTo
  rw [List.range_succ, List.filter_append, List.filter_cons_of_neg (p := fun k => !cont ls k) (by rw [h]; exact Bool.false_ne_true), List.filter_nil, List.append_nil]
theorem freeTo_len (ls : List (List Nat)) (n : Nat) : (freeTo ls n).length ≤ n := by
  unfold freeTo
  rw [List.length_map]
  refine Nat.le_trans (List.length_filter_le _ _) ?_
  rw [List.length_range]
  exact Nat.le_refl _
theorem ok_free {f : Addr} {fd : FuncData} (F : Fun K "free_pieces" "free_pieces" sFree f fd) (T : Txt mg) (CC : Cal P w K mg base 1 "is_contained" (spCont K)) : FnOk P w K mg base CX0 2 f fd ["pieces"] (spFree K) := by
  obtain ⟨tp, hpl⟩ := T.pl
  obtain ⟨tl, hll⟩ := T.ll
  refine F.ok scFree (fun vs H Q E h => ?_) (fun cdv A outer s H vs Q E hr h => ?_)
  · obtain ⟨a, ls, rfl, _⟩ := h
    rfl
  · obtain ⟨a, ls, rfl, hS, ok, q⟩ := h
    have hp : 0 < ls.length := List.length_pos_iff.mpr ok.ne
    have hle := ok.le
    refine ⟨_, pss_cons (ps_if (PW.pt (pw_or (pt_cmpR op_eq (pe_callB call_len_seq (by rfl) T.len PySem.boot_len (pa_cons (pv 0) pa_nil)) pe_int (nomark _)) (pw_or1 (pt_cmpR op_in_seq pe_str (pv 0) (by rfl))))) pss_never pss_nil)
      (pss_cons (ps_if (PW.pt (pw_or (pt_cmpR op_gt (pe_callB call_len_seq (by rfl) T.len PySem.boot_len (pa_cons (pv 0) pa_nil)) (pe_glob (v := .int 40) (by rfl) hpl ⟨_, rfl⟩) (nomark _))
          (pw_or1 (pt_cmpR op_gt (pe_callB (cr_max rfl) (by rfl) T.max (by decide +kernel) (pa_cons
            (pe_lc (own := [("piece", 1)]) (g := gName 1) (tt := tYes) rfl scFree.nd (pi_tup (pv 0)) (blkOk_by (N := ["pieces", "piece", "k"]) (sc := defScope sFree) (by decide +kernel))
              (fun _ _ _ _ _ => pg_name (i := 1) scFree.nd rfl (Or.inl rfl)) (fun _ _ _ _ _ => pts_nil)
              (fun _ _ _ _ _ => pe_callB call_len_str (by rfl) T.len PySem.boot_len (pa_cons (pv 1) pa_nil))) pa_nil)) (pe_glob (v := .int 60) (by rfl) hll ⟨_, rfl⟩) (nomark _))))) pss_never pss_nil)
      (pss_one (ps_ret (pe_callTy call_tuple_of (by rfl) T.tuple boot_tuple (pa_cons
        (pe_lc (own := [("k", 2)]) (g := gName 2) rfl scFree.nd (pi_range1 (by rfl) T.range (pa_cons (pe_callB call_len_seq (by rfl) T.len PySem.boot_len (pa_cons (pv 0) pa_nil)) pa_nil)) (blkOk_by (N := ["pieces", "piece", "k"]) (sc := defScope sFree) (by decide +kernel))
          (fun _ _ _ _ _ => pg_name (i := 2) scFree.nd rfl (Or.inl rfl))
          (fun _ _ _ _ _ => pts_one (pt_not (pt_val (pe_c CC hr (by decide) (by rfl) (pa_cons (pv 0) (pa_cons (pv 2) pa_nil))))))
          (fun _ _ _ _ _ => pe_ix (r := rIxT K) ix_tup (pv 0) (pv 2) (fun _ _ => rfl))) pa_nil))))), ?_⟩
    refine ⟨_, rfl, a, _, rfl, .inr hS, rfl, _, rfl, ?_⟩
    refine ite2 (fun e => ?_) (fun _ => ?_)
    · have e := of_decide_eq_true e
      injection e with e
      rw [List.length_map] at e
      omega
    refine ⟨_, rfl, a, _, rfl, .inr hS, rfl, allFlat ls, _, rfl, ?_⟩
    refine ite2 (fun e => ?_) (fun _ => ?_)
    · have e : inV (.str "") (ls.map sV) = true := e
      rw [noEmpty fun x hx => (ok.wd x hx).1] at e
      cases e
    refine ⟨_, rfl, a, _, rfl, .inr hS, _, _, rfl, rfl, _, rfl, ?_⟩
    refine ite2 (fun e => ?_) (fun _ => ?_)
    · have e := of_decide_eq_true e
      rw [List.length_map] at e
      omega
    refine ⟨_, rfl, a, rfl, ⟨_, hS⟩, fun D hD => lc_tup (xs := ls.map sV) (fun i H' => Same H H' ∧ H' D = some (.lst (((ls.take i).map fun x => (x.length : Int)).map V.int))) ⟨same_upd hD, upd_same⟩ (fun i H' _ z => Kt.of z.1 _ _ hS) ?_ ?_⟩
    · rintro i x H1 hx ⟨s1, h1⟩
      obtain ⟨l, hl, rfl⟩ : ∃ l, ls[i]? = some l ∧ x = sV l := by
        rw [List.getElem?_map] at hx
        cases e : ls[i]? with
        | none =>
          rw [e] at hx
          cases hx
        | some l =>
          rw [e] at hx
          exact ⟨l, rfl, (Option.some.inj hx).symm⟩
      have hm : l ∈ ls := List.mem_of_getElem? hl
      refine ⟨rfl, _, rfl, _, rfl, S_big (Nat.le_trans (ok.wd l hm).2 (by decide)), _, h1, ?_, sm_own s1 hD, ?_⟩
      · rw [List.length_map, List.length_map, List.length_take]
        exact bigl (by omega)
      · rw [upd_same, List.take_add_one, hl, List.map_append, List.map_append, S_len] <;> rfl
    · rintro H1 ⟨s1, h1⟩
      rw [List.length_map, List.take_length] at h1
      refine ⟨D, _, rfl, SqL.of h1, (by rw [List.length_map]; exact hp), fun m hm _ => ?_⟩
      obtain ⟨l, hl, rfl⟩ := List.mem_map.mp hm
      have := (ok.wd l hl).2
      refine ⟨_, _, rfl, rfl, _, rfl, ?_⟩
      refine ite2 (fun e => ?_) (fun _ => ?_)
      · have e := of_decide_eq_true e
        omega
      have hS1 := Kt.of s1 _ _ hS
      refine ⟨_, rfl, a, _, rfl, .inr hS1, ((ls.map sV).length : Int), rfl, (by rw [List.length_map]; omega), (by rw [List.length_map]; omega), fun D2 hD2 =>
        lc_rangeN (n := (ls.map sV).length) (fun i H' => Same H H' ∧ H' D2 = some (.lst ((freeTo ls i).map sV))) ⟨sm_upd s1 hD2, upd_same⟩ ?_ ?_⟩
      · rintro i H2 hi ⟨s2, h2⟩
        rw [List.length_map] at hi
        have hS2 := Kt.of s2 _ _ hS
        have hD0 : H D2 = none := s1.free hD2
        refine ⟨rfl, _, rfl, _, rfl, a, ls, i, rfl, hS2, hi, by omega, fun x hx => Nat.le_trans (ok.wd x hx).2 (by decide), _, rfl, ?_⟩
        cases e : cont ls i with
        | true => exact ⟨s2, by rw [freeTo_no e]; exact h2⟩
        | false =>
          refine ⟨_, rfl, _, rfl, a, _, _, _, rfl, rfl, hS2, at_tx hi, _, h2, ?_, sm_own s2 hD0, ?_⟩
          · rw [List.length_map]
            have := freeTo_len ls i
            exact bigl (by omega)
          · rw [upd_same, freeTo_yes e, List.map_append] <;> rfl
      · rintro H2 ⟨s2, h2⟩
        rw [List.length_map] at h2
        exact ⟨D2, _, rfl, .inl ⟨SqL.of h2, fun l hl => q _ _ (sm_upd s2 hl) ⟨l, rfl, SqT.of upd_same⟩⟩⟩
end
end Sh
namespace Sh
open PySem PySem.Spec L2 M31
open PyProof.Rows hiding St
theorem kt_lst {K : PySem.W.Frag} {H : Hp} {d : Addr} {xs : List V} {o : HO} (h : H d = some (.lst xs)) : Kt K H (upd H d o) := Kt.but h fun b o e n => by
  rw [upd_ne n]
  exact e
section
variable {P : Program} {w : World} {K : PySem.W.Frag} {mg : Str → Option Value} {base : Heap}
/-! ### overlap_graph -/
abbrev sGraph : Stmt := topS 17
theorem scGraph : FnScope ["pieces", "least", "nodes", "edges", "i", "j", "length"] ["pieces", "least"] (defScope sGraph) := ⟨rfl, rfl, rfl, by decide +kernel, rfl, by decide +kernel, by decide +kernel⟩
def spGraph (K : PySem.W.Frag) : Sp := fun vs H Q _ => ∃ (a : Addr) (ls : List (List Nat)) (least : Nat), vs = [.ref a, .int (least : Nat)] ∧ SqT K H a (ls.map sV) ∧ PcOk ls ∧ 1 ≤ least ∧ least ≤ 60 ∧
  ∀ H' v, Same H H' → GrT K H' v (free ls) (edgesOf (free ls) least) → Q v H'
def ed1 (ns : List (List Nat)) (least n : Nat) : List E := (List.range n).flatMap (edges2 ns least)
def ed2 (ns : List (List Nat)) (least i n : Nat) : List E := (List.range n).flatMap (edges3 ns least i)
def ed3 (ns : List (List Nat)) (least i j n : Nat) : List E := ((List.range' least n).filter fun c => isOv (ns.getD i []) (ns.getD j []) c).map fun c => (i, j, c)
theorem ed1_succ (ns : List (List Nat)) (least n : Nat) : ed1 ns least (n + 1) = ed1 ns least n ++ ed2 ns least n ns.length := by
  unfold ed1
  rw [List.range_succ, List.flatMap_append, List.flatMap_singleton] <;> rfl
theorem ed2_succ (ns : List (List Nat)) (least i n : Nat) : ed2 ns least i (n + 1) = ed2 ns least i n ++ ed3 ns least i n ((ns.getD i []).length - least) := by
  unfold ed2
  rw [List.range_succ, List.flatMap_append, List.flatMap_singleton] <;> rfl
theorem ed3_yes {ns : List (List Nat)} {least i j n : Nat} (h : isOv (ns.getD i []) (ns.getD j []) (least + n) = true) : ed3 ns least i j (n + 1) = ed3 ns least i j n ++ [(i, j, least + n)] := by
  unfold ed3
  rw [List.range'_1_concat, List.filter_append, List.filter_cons_of_pos (p := fun c => isOv (ns.getD i []) (ns.getD j []) c) h, List.map_append] <;> rfl
theorem ed3_no {ns : List (List Nat)} {least i j n : Nat} (h : isOv (ns.getD i []) (ns.getD j []) (least + n) = false) : ed3 ns least i j (n + 1) = ed3 ns least i j n := by
  unfold ed3
  rw [List.range'_1_concat, List.filter_append, List.filter_cons_of_neg (p := fun c => isOv (ns.getD i []) (ns.getD j []) c) (by rw [h]; exact Bool.false_ne_true), List.filter_nil, List.append_nil]
theorem ed_len {ns : List (List Nat)} (G : GN ns) {least i j m : Nat} (hi : i < ns.length) (hj : j < ns.length) (hm : m ≤ 60) : (ed1 ns least i ++ (ed2 ns least i j ++ ed3 ns least i j m)).length ≤ 200000 := by
  have h1 : (ed1 ns least i).length ≤ i * 2400 := by
    have := flat_len (f := edges2 ns least) (b := 2400) (l := List.range i) fun x hx => edges2_len G.wd G.le (by have := List.mem_range.mp hx; omega)
    rw [List.length_range] at this
    exact this
  have h2 : (ed2 ns least i j).length ≤ j * 60 := by
    have := flat_len (f := edges3 ns least i) (b := 60) (l := List.range j) fun x _ => edges3_len G.wd hi
    rw [List.length_range] at this
    exact this
  have h3 : (ed3 ns least i j m).length ≤ 60 := by
    unfold ed3
    rw [List.length_map]
    refine Nat.le_trans (List.length_filter_le _ _) ?_
    rw [List.length_range']
    exact hm
  have := G.le
  rw [List.length_append, List.length_append]
  omega
theorem ok_graph {f : Addr} {fd : FuncData} (F : Fun K "overlap_graph" "overlap_graph" sGraph f fd) (T : Txt mg) (CF : Cal P w K mg base 2 "free_pieces" (spFree K)) (CO : Cal P w K mg base 1 "is_overlap" spOv) :
    FnOk P w K mg base CX0 3 f fd ["pieces", "least"] (spGraph K) := by
  obtain ⟨tl, hll⟩ := T.ll
  refine F.ok scGraph (fun vs H Q E h => ?_) (fun cdv A outer s H vs Q E hr h => ?_)
  · obtain ⟨a, ls, least, rfl, _⟩ := h
    rfl
  · obtain ⟨a, ls, least, rfl, hS, ok, hl1, hl2, q⟩ := h
    refine ⟨_, pss_cons (ps_set (i := 2) scGraph.nd rfl (Or.inl rfl) (pe_c CF hr (by decide) (by rfl) (pa_cons (pv 0) pa_nil)))
      (pss_cons (ps_if (PW.pt (pw_or (pt_cmpR op_lt (pv 1) pe_int (nomark _)) (pw_or1 (pt_cmpR op_gt (pv 1) (pe_glob (v := .int 60) (by rfl) hll ⟨_, rfl⟩) (nomark _))))) pss_never pss_nil)
      (pss_cons (ps_set (i := 3) scGraph.nd rfl (Or.inl rfl) (pe_lst pa_nil))
      (pss_cons (ps_for PassesOwn.never rfl (pi_range1 (by rfl) T.range (pa_cons (pe_callB call_len_seq (by rfl) T.len PySem.boot_len (pa_cons (pv 2) pa_nil)) pa_nil)) (pg_name (i := 4) scGraph.nd rfl (Or.inl rfl))
        (pss_one (ps_for PassesOwn.never rfl (pi_range1 (by rfl) T.range (pa_cons (pe_callB call_len_seq (by rfl) T.len PySem.boot_len (pa_cons (pv 2) pa_nil)) pa_nil)) (pg_name (i := 5) scGraph.nd rfl (Or.inl rfl))
          (pss_one (ps_for PassesOwn.never rfl (pi_range2 (by rfl) T.range (pa_cons (pv 1) (pa_cons (pe_callB call_len_str (by rfl) T.len PySem.boot_len (pa_cons (pe_ix ix_tup (pv 2) (pv 4) (fun _ _ => rfl)) pa_nil)) pa_nil))) (pg_name (i := 6) scGraph.nd rfl (Or.inl rfl))
            (pss_one (ps_if (pt_val (pe_c CO hr (by decide) (by rfl) (pa_cons (pe_ix ix_tup (pv 2) (pv 4) (fun _ _ => rfl)) (pa_cons (pe_ix ix_tup (pv 2) (pv 5) (fun _ _ => rfl)) (pa_cons (pv 6) pa_nil)))))
              (pss_one (ps_expr (pe_bm PySem.F.plainAttrs_list PySem.F.slot_list_append PySem.F.type_list_append mt_append (pv 3) (pa_cons (pe_tup (pa_cons (pv 4) (pa_cons (pv 5) (pa_cons (pv 6) pa_nil)))) pa_nil)))) pss_nil)))))))
      (pss_one (ps_ret (pe_tup (pa_cons (pv 2) (pa_cons (pe_callTy call_tuple_of (by rfl) T.tuple boot_tuple (pa_cons (pv 3) pa_nil)) pa_nil)))))))), ?_⟩
    refine ⟨_, rfl, a, ls, rfl, hS, ok, fun H1 v1 s1 tx => ?_⟩
    obtain ⟨n, rfl, hN⟩ := tx
    have G : GN (free ls) := free_good ok.ne ok.le ok.wd
    revert G hN q
    generalize free ls = ns
    intro q hN G
    have hnl := G.le
    refine ⟨_, rfl, _, _, rfl, rfl, _, rfl, ?_⟩
    refine ite2 (fun e => ?_) (fun _ => ?_)
    · have e := of_decide_eq_true e
      omega
    refine ⟨_, rfl, _, _, rfl, rfl, _, rfl, ?_⟩
    refine ite2 (fun e => ?_) (fun _ => ?_)
    · have e := of_decide_eq_true e
      omega
    refine ⟨Nat.zero_le _, fun ed hed => ?_⟩
    -- the loop over i
    refine ⟨_, rfl, n, _, rfl, .inr (Kt.of (same_upd hed) _ _ hN), ((ns.map sV).length : Int), rfl, (by rw [List.length_map]; omega), (by rw [List.length_map]; omega),
      for_rangeN (n := (ns.map sV).length) (fun i σ H' => ∃ vi vj vl xs, σ = [some (.ref a), some (.int (least : Nat)), some (.ref n), some (.ref ed), vi, vj, vl] ∧ Same H1 H' ∧ H' ed = some (.lst xs) ∧ Paired (e3 K H') xs (ed1 ns least i))
        ⟨none, none, none, [], rfl, same_upd hed, upd_same, .nil⟩ ?_ ?_⟩
    · rintro i σ H2 hi ⟨vi, vj, vl, xs, rfl, s2, h2, p2⟩
      rw [List.length_map] at hi
      refine ⟨_, rfl, n, _, rfl, .inr (Kt.of s2 _ _ hN), ((ns.map sV).length : Int), rfl, (by rw [List.length_map]; omega), (by rw [List.length_map]; omega),
        for_rangeN (n := (ns.map sV).length) (fun j σ H' => ∃ vj vl xs, σ = [some (.ref a), some (.int (least : Nat)), some (.ref n), some (.ref ed), some (.int (i : Nat)), vj, vl] ∧ Same H1 H' ∧ H' ed = some (.lst xs) ∧ Paired (e3 K H') xs (ed1 ns least i ++ ed2 ns least i j))
          ⟨vj, vl, xs, rfl, s2, h2, (by show Paired (e3 K H2) xs (ed1 ns least i ++ []); rw [List.append_nil]; exact p2)⟩ ?_ ?_⟩
      · rintro j σ H3 hj ⟨vj, vl, xs, rfl, s3, h3, p3⟩
        rw [List.length_map] at hj
        have hN3 := Kt.of s3 _ _ hN
        have hli : (ns.getD i []).length ≤ 60 := (G.wd _ (getD_mem hi)).2
        have hlj : (ns.getD j []).length ≤ 60 := (G.wd _ (getD_mem hj)).2
        have em : (((S (ns.getD i [])).length : Int) - (least : Int)).toNat = (ns.getD i []).length - least := by
          rw [S_len]
          omega
        refine ⟨_, rfl, _, rfl, _, rfl, n, _, _, _, rfl, rfl, hN3, at_tx hi, _, rfl, S_big (by omega), (least : Int), ((S (ns.getD i [])).length : Int), rfl, (by rw [S_len]; omega),
          for_range (lo := (least : Int)) (n := (((S (ns.getD i [])).length : Int) - (least : Int)).toNat) (fun m σ H' => ∃ vl xs, σ = [some (.ref a), some (.int (least : Nat)), some (.ref n), some (.ref ed), some (.int (i : Nat)), some (.int (j : Nat)), vl] ∧ Same H1 H' ∧ H' ed = some (.lst xs) ∧ Paired (e3 K H') xs (ed1 ns least i ++ (ed2 ns least i j ++ ed3 ns least i j m)))
            ⟨vl, xs, rfl, s3, h3, (by show Paired (e3 K H3) xs (ed1 ns least i ++ (ed2 ns least i j ++ [])); rw [List.append_nil]; exact p3)⟩ ?_ ?_⟩
        · rintro m σ H4 hm ⟨vl, xs, rfl, s4, h4, p4⟩
          rw [em] at hm
          rw [show ((least : Int) + (m : Int)) = ((least + m : Nat) : Int) by omega]
          have hN4 := Kt.of s4 _ _ hN
          have hxs : xs.length ≤ 200000 := by
            rw [pr_len p4]
            exact ed_len G hi hj (by omega)
          refine ⟨_, rfl, _, rfl, n, _, _, _, rfl, rfl, hN4, at_tx hi, _, rfl, _, rfl, n, _, _, _, rfl, rfl, hN4, at_tx hj, _, rfl, ns.getD i [], ns.getD j [], least + m, rfl, by omega, by omega, _, rfl, ?_⟩
          refine ite2 (fun e => ?_) (fun e => ?_)
          · refine ⟨_, rfl, .inl ⟨rfl, _, SqL.of h4⟩, _, rfl, _, rfl, _, rfl, (by show 3 ≤ sizeLine; decide), fun t ht => ?_⟩
            have ne : ed ≠ t := ne_of_none h4 ht
            have h5 : (upd H4 t (.tup [.int (i : Nat), .int (j : Nat), .int ((least + m : Nat) : Nat)])) ed = some (.lst xs) := by
              rw [upd_ne ne]
              exact h4
            refine ⟨ed, xs, _, rfl, rfl, h5, bigl (by omega), _, xs ++ [.ref t], rfl, sm_own (sm_upd s4 ht) hed, upd_same, ?_⟩
            rw [ed3_yes e, ← List.append_assoc, ← List.append_assoc]
            rw [← List.append_assoc] at p4
            refine pr_snoc (e3s.kt (Kt.trans (Kt.of (same_upd ht)) (kt_lst h5)) p4) ⟨t, rfl, kt_lst h5 _ _ (SqT.of upd_same)⟩
          · refine ⟨_, xs, rfl, s4, h4, ?_⟩
            rw [ed3_no (Bool.eq_false_iff.mpr e)]
            exact p4
        · rintro σ H4 ⟨vl, xs, rfl, s4, h4, p4⟩
          rw [em, ← ed2_succ] at p4
          exact ⟨_, _, xs, rfl, s4, h4, p4⟩
      · rintro σ H3 ⟨vj, vl, xs, rfl, s3, h3, p3⟩
        rw [List.length_map, ← ed1_succ] at p3
        exact ⟨_, _, _, xs, rfl, s3, h3, p3⟩
    · rintro σ H2 ⟨vi, vj, vl, xs, rfl, s2, h2, p2⟩
      rw [List.length_map] at p2
      refine ⟨_, rfl, _, rfl, ed, xs, rfl, .inl ⟨SqL.of h2, fun l hl => ⟨(by show 2 ≤ sizeLine; decide), fun g hg => ?_⟩⟩⟩
      have k1 : Kt K H2 (upd (upd H2 l (.tup xs)) g (.tup [.ref n, .ref l])) := Kt.of (sm_upd (same_upd hl) hg)
      refine q _ _ (s1.trans (sm_upd (sm_upd s2 hl) hg)) ⟨g, .ref n, .ref l, rfl, SqT.of upd_same, ⟨n, rfl, k1 _ _ (Kt.of s2 _ _ hN)⟩, ⟨l, xs, rfl, Kt.of (same_upd hg) _ _ (SqT.of upd_same), e3s.kt k1 p2⟩⟩
end
end Sh
namespace Sh
open PySem PySem.Spec L2 M31
open PyProof.Rows hiding St
theorem lex_of {a b : E} (h : ltE a b) : HT.lexLt [(a.1 : Int), (a.2.1 : Int), (a.2.2 : Int)] [(b.1 : Int), (b.2.1 : Int), (b.2.2 : Int)] = true := by
  rw [HT.lexLt_cons, HT.lexLt_cons, HT.lexLt_cons]
  unfold ltE at h
  by_cases h1 : a.1 = b.1
  · rw [if_pos (by omega)]
    by_cases h2 : a.2.1 = b.2.1
    · rw [if_pos (by omega), if_neg (by omega)]
      exact decide_eq_true (by omega)
    · rw [if_neg (by omega)]
      exact decide_eq_true (by omega)
  · rw [if_neg (by omega)]
    exact decide_eq_true (by omega)
theorem pv_at {xs : List V} {i : Nat} (h : i < xs.length) : ∃ x, xs[i]? = some x := ⟨_, List.getElem?_eq_getElem h⟩
section
variable {P : Program} {w : World} {K : PySem.W.Frag} {mg : Str → Option Value} {base : Heap}
/-! ### check_graph -/
abbrev sCheck : Stmt := topS 18
theorem scCheck : FnScope ["graph", "nodes", "edges", "k", "i", "j", "length"] ["graph"] (defScope sCheck) := ⟨rfl, rfl, rfl, by decide +kernel, rfl, by decide +kernel, by decide +kernel⟩
def spCheck (K : PySem.W.Frag) : Sp := fun vs H Q _ => ∃ (v : V) (ns : List (List Nat)) (es : List E), vs = [v] ∧ GrT K H v ns es ∧ GG ns es ∧ ∀ H', Same H H' → Q .non H'
theorem any_no : ∀ n : Nat, (List.replicate n false).any id = false
  | 0 => rfl
  | n + 1 => by
    rw [List.replicate_succ, List.any_cons, any_no n] <;> rfl
theorem ok_check {f : Addr} {fd : FuncData} (F : Fun K "check_graph" "check_graph" sCheck f fd) (T : Txt mg) (CC : Cal P w K mg base 1 "is_contained" (spCont K)) (CO : Cal P w K mg base 1 "is_overlap" spOv) :
    FnOk P w K mg base CX0 2 f fd ["graph"] (spCheck K) := by
  refine F.ok scCheck (fun vs H Q E h => ?_) (fun cdv A outer s H vs Q E hr h => ?_)
  · obtain ⟨v, ns, es, rfl, _⟩ := h
    rfl
  · obtain ⟨v, ns, es, rfl, ⟨g, _, _, rfl, hG, ⟨n, rfl, hN⟩, ⟨e, exs, rfl, hE, pE⟩⟩, GGs, q⟩ := h
    have G := GGs.gn
    have hp : 0 < ns.length := List.length_pos_iff.mpr G.ne
    have hle := G.le
    have hel := GGs.le
    have hexs := pr_len pE
    refine ⟨_, pss_cons (ps_asg (pv 0) (pg_tup rfl (pgs_cons (pg_name (i := 1) scCheck.nd rfl (.inr rfl)) (pgs_cons (pg_name (i := 2) scCheck.nd rfl (.inl rfl)) pgs_nil))))
      (pss_cons (ps_if (PW.pt (pw_or (pt_cmpR op_eq (pe_callB call_len_seq (by rfl) T.len PySem.boot_len (pa_cons (pv 1) pa_nil)) pe_int (nomark _)) (pw_or1 (pt_cmpR op_in_seq pe_str (pv 1) (by rfl))))) pss_never pss_nil)
      (pss_cons (ps_if (pt_val (pe_callB (cr_any rfl) (by rfl) T.any boot_any (pa_cons
          (pe_lc (own := [("k", 3)]) (g := gName 3) (tt := tYes) rfl scCheck.nd (pi_range1 (by rfl) T.range (pa_cons (pe_callB call_len_seq (by rfl) T.len PySem.boot_len (pa_cons (pv 1) pa_nil)) pa_nil)) (blkOk_by (N := ["graph", "nodes", "edges", "k", "i", "j", "length"]) (sc := defScope sCheck) (by decide +kernel))
            (fun _ _ _ _ _ => pg_name (i := 3) scCheck.nd rfl (Or.inl rfl)) (fun _ _ _ _ _ => pts_nil)
            (fun _ _ _ _ _ => pe_c CC hr (by decide) (by rfl) (pa_cons (pv 1) (pa_cons (pv 3) pa_nil)))) pa_nil))) pss_never pss_nil)
      (pss_one (ps_for PassesOwn.never rfl (pi_range1 (by rfl) T.range (pa_cons (pe_callB call_len_seq (by rfl) T.len PySem.boot_len (pa_cons (pv 2) pa_nil)) pa_nil)) (pg_name (i := 3) scCheck.nd rfl (Or.inl rfl))
        (pss_cons (ps_asg (pe_ix ix_tup (pv 2) (pv 3) (fun _ _ => rfl)) (pg_tup rfl (pgs_cons (pg_name (i := 4) scCheck.nd rfl (.inl rfl)) (pgs_cons (pg_name (i := 5) scCheck.nd rfl (.inl rfl)) (pgs_cons (pg_name (i := 6) scCheck.nd rfl (.inl rfl)) pgs_nil)))))
        (C8.pss_cut (ps_if (PW.pt (pw_and (pt_cmpR op_gt (pv 3) pe_int (nomark _)) (pw_and1 (pt_not (pt_cmpR (op_ltT hr.units0) (pe_ix ix_tup (pv 2) (pe_op op_sub (pv 3) pe_int) (fun _ _ => rfl)) (pe_ix ix_tup (pv 2) (pv 3) (fun _ _ => rfl)) (nomark _)))))) pss_never pss_nil)
        (pss_cons (ps_if (PW.pt (pw_or (pt_cmpR op_lt (pv 4) pe_int (nomark _)) (pw_or (pt_cmpR op_ge (pv 4) (pe_callB call_len_seq (by rfl) T.len PySem.boot_len (pa_cons (pv 1) pa_nil)) (nomark _))
            (pw_or (pt_cmpR op_lt (pv 5) pe_int (nomark _)) (pw_or1 (pt_cmpR op_ge (pv 5) (pe_callB call_len_seq (by rfl) T.len PySem.boot_len (pa_cons (pv 1) pa_nil)) (nomark _))))))) pss_never pss_nil)
        (pss_one (ps_if (pt_not (pt_val (pe_c CO hr (by decide) (by rfl) (pa_cons (pe_ix ix_tup (pv 1) (pv 4) (fun _ _ => rfl)) (pa_cons (pe_ix ix_tup (pv 1) (pv 5) (fun _ _ => rfl)) (pa_cons (pv 6) pa_nil)))))) pss_never pss_nil))))))))), ?_⟩
    refine ⟨_, rfl, g, _, rfl, hG, rfl, _, _, rfl, _, _, rfl, rfl, ?_⟩
    refine ⟨_, rfl, n, _, rfl, .inr hN, rfl, _, rfl, ?_⟩
    refine ite2 (fun e => ?_) (fun _ => ?_)
    · have e := of_decide_eq_true e
      injection e with e
      rw [List.length_map] at e
      omega
    refine ⟨_, rfl, n, _, rfl, .inr hN, rfl, allFlat ns, _, rfl, ?_⟩
    refine ite2 (fun e => ?_) (fun _ => ?_)
    · have e : inV (.str "") (ns.map sV) = true := e
      rw [noEmpty fun x hx => (G.wd x hx).1] at e
      cases e
    refine ⟨_, rfl, n, _, rfl, .inr hN, ((ns.map sV).length : Int), rfl, (by rw [List.length_map]; omega), (by rw [List.length_map]; omega), fun D hD =>
      lc_rangeN (n := (ns.map sV).length) (fun i H' => Same H H' ∧ H' D = some (.lst ((List.replicate i false).map V.bl))) ⟨same_upd hD, upd_same⟩ ?_ ?_⟩
    · rintro i H1 hi ⟨s1, h1⟩
      rw [List.length_map] at hi
      refine ⟨rfl, _, rfl, _, rfl, n, ns, i, rfl, Kt.of s1 _ _ hN, hi, by omega, fun x hx => Nat.le_trans (G.wd x hx).2 (by decide), _, h1, ?_, sm_own s1 hD, ?_⟩
      · rw [List.length_map, List.length_replicate]
        exact bigl (by omega)
      · rw [upd_same, G.nc i hi, List.replicate_succ', List.map_append] <;> rfl
    · rintro H1 ⟨s1, h1⟩
      refine ⟨D, _, rfl, SqL.of h1, _, rfl, ?_⟩
      rw [any_no]
      refine iteF ?_
      have hN1 := Kt.of s1 _ _ hN
      have hE1 := Kt.of s1 _ _ hE
      have pE1 := e3s.kt (Kt.of s1) pE
      refine ⟨_, rfl, e, exs, rfl, .inr hE1, (exs.length : Int), rfl, by omega, by omega,
        for_rangeN (n := exs.length) (fun i σ H' => ∃ vk vi vj vl, σ = [some (.ref g), some (.ref n), some (.ref e), vk, vi, vj, vl] ∧ H' = H1) ⟨none, none, none, none, rfl, rfl⟩ ?_ ?_⟩
      · rintro k σ H2 hk ⟨vk, vi, vj, vl, rfl, rfl⟩
        have hke : k < es.length := by omega
        obtain ⟨x, hx, t, rfl, ht⟩ := pr_get pE1 (List.getElem?_eq_getElem hke)
        obtain ⟨o1, o2, o3⟩ := GGs.ov _ (List.getElem_mem hke)
        refine ⟨_, rfl, _, rfl, e, exs, _, _, rfl, rfl, hE1, at_nat hx, t, _, rfl, ht, rfl, _, _, rfl, _, _, rfl, _, _, rfl, rfl, ?_⟩
        refine ⟨fun σ' H' => σ' = [some (.ref g), some (.ref n), some (.ref e), some (.int (k : Nat)), some (.int (es[k].1 : Nat)), some (.int (es[k].2.1 : Nat)), some (.int (es[k].2.2 : Nat))] ∧ H' = H2, ?_, ?_⟩
        · refine ⟨_, rfl, _, _, rfl, rfl, _, rfl, ?_⟩
          refine ite2 (fun e0 => ?_) (fun _ => iteF ⟨rfl, rfl⟩)
          have e0 : 0 < k := by
            have := of_decide_eq_true e0
            omega
          have hk1 : k - 1 < es.length := by omega
          obtain ⟨x', hx', t', rfl, ht'⟩ := pr_get pE1 (List.getElem?_eq_getElem hk1)
          refine ⟨_, rfl, _, rfl, _, _, rfl, rfl, e, exs, _, _, rfl, rfl, hE1, at_of (j := k - 1) (by omega) hx', _, rfl, _, rfl, e, exs, _, _, rfl, rfl, hE1, at_nat hx, t', t, [(es[k - 1].1 : Int), (es[k - 1].2.1 : Int), (es[k - 1].2.2 : Int)], [(es[k].1 : Int), (es[k].2.1 : Int), (es[k].2.2 : Int)], rfl, rfl, ht', ht, _, rfl, ?_⟩
          rw [lex_of (List.pairwise_iff_getElem.mp GGs.up (k - 1) k hk1 hke (by omega))]
          exact ⟨rfl, rfl⟩
        · rintro σ' H' ⟨rfl, rfl⟩
          refine ⟨_, rfl, _, _, rfl, rfl, _, rfl, ?_⟩
          refine ite2 (fun e => ?_) (fun _ => ?_)
          · have e := of_decide_eq_true e
            omega
          refine ⟨_, rfl, _, rfl, n, _, rfl, .inr hN1, _, _, rfl, rfl, _, rfl, ?_⟩
          refine ite2 (fun e => ?_) (fun _ => ?_)
          · have e := of_decide_eq_true e
            rw [List.length_map] at e
            omega
          refine ⟨_, rfl, _, _, rfl, rfl, _, rfl, ?_⟩
          refine ite2 (fun e => ?_) (fun _ => ?_)
          · have e := of_decide_eq_true e
            omega
          refine ⟨_, rfl, _, rfl, n, _, rfl, .inr hN1, _, _, rfl, rfl, _, rfl, ?_⟩
          refine ite2 (fun e => ?_) (fun _ => ?_)
          · have e := of_decide_eq_true e
            rw [List.length_map] at e
            omega
          refine ⟨_, rfl, _, rfl, n, _, _, _, rfl, rfl, hN1, at_tx o1, _, rfl, _, rfl, n, _, _, _, rfl, rfl, hN1, at_tx o2, _, rfl, _, _, _, rfl, Nat.le_trans (G.wd _ (getD_mem o1)).2 (by decide), Nat.le_trans (G.wd _ (getD_mem o2)).2 (by decide), _, rfl, ?_⟩
          rw [o3]
          exact ⟨_, _, _, _, rfl, rfl⟩
      · rintro σ H2 ⟨vk, vi, vj, vl, rfl, rfl⟩
        exact q _ s1
end
end Sh
namespace Sh
open PySem PySem.Spec L2 M31
open PyProof.Rows hiding St
theorem hu65 {A : Around} {k : Nat} (hr : Room k A) : A.units + 65 < cLine := by
  have := hr.un
  omega
theorem hu64 {A : Around} {k : Nat} (hr : Room k A) : A.units + 64 < cLine := hr.units
theorem take_at {α : Type} {l : List α} {i : Nat} {x : α} (h : l[i]? = some x) : l.take (i + 1) = l.take i ++ [x] := by
  rw [List.take_add_one, h] <;> rfl
section
variable {P : Program} {w : World} {K : PySem.W.Frag} {mg : Str → Option Value} {base : Heap}
/-! ### is_carried -/
abbrev sCarr : Stmt := topS 23
theorem scCarr : FnScope ["nodes", "edges", "edge", "i", "k", "length", "first", "j"] ["nodes", "edges", "edge"] (defScope sCarr) := ⟨rfl, rfl, rfl, by decide +kernel, rfl, by decide +kernel, by decide +kernel⟩
def spCarr (K : PySem.W.Frag) : Sp := fun vs H Q _ => ∃ (nv ev xv : V) (ns : List (List Nat)) (es : List E) (e : E), vs = [nv, ev, xv] ∧ TxT K H nv ns ∧ TrT K H ev es ∧ e3 K H xv e ∧ GG ns es ∧
  ∀ H', Same H H' → Q (.bl (carried ns es e)) H'
theorem ok_carr {f : Addr} {fd : FuncData} (F : Fun K "is_carried" "is_carried" sCarr f fd) (T : Txt mg) : FnOk P w K mg base CX0 1 f fd ["nodes", "edges", "edge"] (spCarr K) := by
  refine F.ok scCarr (fun vs H Q E h => ?_) (fun cdv A outer s H vs Q E hr h => ?_)
  · obtain ⟨nv, ev, xv, ns, es, e, rfl, _⟩ := h
    rfl
  · obtain ⟨_, _, _, ns, es, e, rfl, ⟨n, rfl, hN⟩, ⟨ea, exs, rfl, hE, pE⟩, ⟨x, rfl, hX⟩, GGs, q⟩ := h
    have G := GGs.gn
    have hexs := pr_len pE
    refine ⟨_, pss_cons (ps_asg (pv 2) (pg_tup rfl (pgs_cons (pg_name (i := 3) scCarr.nd rfl (.inl rfl)) (pgs_cons (pg_name (i := 4) scCarr.nd rfl (.inl rfl)) (pgs_cons (pg_name (i := 5) scCarr.nd rfl (.inl rfl)) pgs_nil)))))
      (pss_cons (ps_for PassesOwn.never rfl (pi_tup (pv 1)) (pg_name (i := 6) scCarr.nd rfl (Or.inl rfl))
        (pss_one (ps_if (pt_cmpR op_eq (pe_ix ix_tup (pv 6) pe_int (fun _ _ => rfl)) (pv 3) (nomark _))
          (pss_cons (ps_set (i := 7) scCarr.nd rfl (Or.inl rfl) (pe_ix ix_tup (pv 6) pe_int (fun _ _ => rfl)))
          (pss_one (ps_if (pt_cmpR (op_inE (hu65 hr)) (pe_tup (pa_cons (pv 7) (pa_cons (pv 4) (pa_cons (pe_op op_sub (pe_op op_add (pv 5) (pe_callB call_len_str (by rfl) T.len PySem.boot_len (pa_cons (pe_ix ix_tup (pv 0) (pv 7) (fun _ _ => rfl)) pa_nil))) (pe_ix ix_tup (pv 6) pe_int (fun _ _ => rfl))) pa_nil)))) (pv 1) (by rfl))
            (pss_one (ps_ret pe_bl)) pss_nil))) pss_nil)))
      (pss_one (ps_ret pe_bl))), ?_⟩
    refine ⟨_, rfl, x, _, rfl, hX, rfl, _, _, rfl, _, _, rfl, _, _, rfl, rfl, ?_⟩
    refine ⟨_, rfl, ea, rfl, ⟨_, hE⟩, for_tup (xs := exs) (fun i σ H' => ∃ vf vj, σ = [some (.ref n), some (.ref ea), some (.ref x), some (.int (e.1 : Nat)), some (.int (e.2.1 : Nat)), some (.int (e.2.2 : Nat)), vf, vj] ∧ Same H H' ∧ (es.take i).any (carriedBy ns es e) = false)
      ⟨none, none, rfl, Same.refl H, rfl⟩ (fun i σ H' _ z => by obtain ⟨_, _, _, s1, _⟩ := z; exact Kt.of s1 _ _ hE) ?_ ?_⟩
    · rintro i y σ H1 hy ⟨vf, vj, rfl, s1, hno⟩
      obtain ⟨g, hg, t, rfl, ht⟩ := pr_getl pE hy
      have hil : i < es.length := (List.getElem?_eq_some_iff.mp hg).1
      have hgm : g ∈ es := List.mem_of_getElem? hg
      have ht1 := Kt.of s1 _ _ ht
      obtain ⟨_, o2, _⟩ := GGs.ov _ hgm
      have yes : carriedBy ns es e g = true → ∀ H', Same H H' → Q (.bl true) H' := fun z H' s' => by
        have : carried ns es e = true := List.any_eq_true.mpr ⟨g, hgm, z⟩
        have qq := q H' s'
        rw [this] at qq
        exact qq
      have no : carriedBy ns es e g = false → (es.take (i + 1)).any (carriedBy ns es e) = false := fun z => by
        rw [take_at hg, List.any_append, hno, List.any_cons, z] <;> rfl
      refine ⟨_, rfl, t, _, _, _, rfl, rfl, ht1, rfl, _, rfl, rfl, _, rfl, ?_⟩
      refine ite2 (fun e1 => ?_) (fun e1 => ?_)
      · have e1 : g.1 = e.1 := by
          have e1 := of_decide_eq_true e1
          injection e1 with e1
          omega
        refine ⟨_, rfl, t, _, _, _, rfl, rfl, ht1, rfl, ?_⟩
        refine ⟨_, rfl, _, rfl, _, rfl, _, rfl, _, rfl, n, _, _, _, rfl, rfl, Kt.of s1 _ _ hN, at_tx o2, _, rfl, S_big (Nat.le_trans (G.wd _ (getD_mem o2)).2 (by decide)), _, _, rfl, rfl, _, rfl, t, _, _, _, rfl, rfl, ht1, rfl, _, _, rfl, rfl, (by show 3 ≤ sizeLine; decide), fun p hp => ?_⟩
        have s2 := sm_upd (o := .tup [.int (g.2.1 : Nat), .int (e.2.1 : Nat), .int ((e.2.2 : Int) + ((S (ns.getD g.2.1 [])).length : Int) - (g.2.2 : Int))]) s1 hp
        have ec : carriedBy ns es e g = hasE es g.2.1 e.2.1 ((e.2.2 : Int) + ((S (ns.getD g.2.1 [])).length : Int) - (g.2.2 : Int)) := by
          unfold carriedBy
          rw [e1, S_len]
          simp
        refine ⟨_, rfl, p, g.2.1, e.2.1, _, es, rfl, SqT.of upd_same, ⟨ea, exs, rfl, Kt.of s2 _ _ hE, e3s.kt (Kt.of s2) pE⟩, _, rfl, ?_⟩
        refine ite2 (fun e2 => ?_) (fun e2 => ?_)
        · exact yes (ec.trans e2) _ s2
        · exact ⟨_, _, rfl, s2, no (ec.trans (Bool.eq_false_iff.mpr e2))⟩
      · refine ⟨_, _, rfl, s1, no ?_⟩
        unfold carriedBy
        rw [show (g.1 == e.1) = false by
          rw [beq_eq_false_iff_ne]
          intro z
          exact e1 (decide_eq_true (by rw [z])), Bool.false_and]
    · rintro σ H1 ⟨vf, vj, rfl, s1, hno⟩
      have qq := q H1 s1
      rw [hexs, List.take_length] at hno
      have : carried ns es e = false := hno
      rw [this] at qq
      exact qq
/-! ### reduced -/
abbrev sRed : Stmt := topS 24
theorem scRed : FnScope ["graph", "nodes", "edges", "edge"] ["graph"] (defScope sRed) := ⟨rfl, rfl, rfl, by decide +kernel, rfl, by decide +kernel, by decide +kernel⟩
def spRed (K : PySem.W.Frag) : Sp := fun vs H Q _ => ∃ (v : V) (ns : List (List Nat)) (es : List E), vs = [v] ∧ GrT K H v ns es ∧ GG ns es ∧ ∀ H' u, Same H H' → GrT K H' u ns (redE ns es) → Q u H'
theorem filt_yes {α : Type} {p : α → Bool} {l : List α} {i : Nat} {x : α} (h : l[i]? = some x) (q : p x = true) : (l.take (i + 1)).filter p = (l.take i).filter p ++ [x] := by
  rw [take_at h, List.filter_append, List.filter_cons_of_pos q] <;> rfl
theorem filt_no {α : Type} {p : α → Bool} {l : List α} {i : Nat} {x : α} (h : l[i]? = some x) (q : p x = false) : (l.take (i + 1)).filter p = (l.take i).filter p := by
  rw [take_at h, List.filter_append, List.filter_cons_of_neg (by rw [q]; exact Bool.false_ne_true), List.filter_nil, List.append_nil]
theorem ok_red {f : Addr} {fd : FuncData} (F : Fun K "reduced" "reduced" sRed f fd) (T : Txt mg) (CK : Cal P w K mg base 2 "check_graph" (spCheck K)) (CA : Cal P w K mg base 1 "is_carried" (spCarr K)) :
    FnOk P w K mg base CX0 3 f fd ["graph"] (spRed K) := by
  refine F.ok scRed (fun vs H Q E h => ?_) (fun cdv A outer s H vs Q E hr h => ?_)
  · obtain ⟨v, ns, es, rfl, _⟩ := h
    rfl
  · obtain ⟨v, ns, es, rfl, GR, GGs, q⟩ := h
    obtain ⟨g, _, _, rfl, hG, ⟨n, rfl, hN⟩, ⟨e, exs, rfl, hE, pE⟩⟩ := id GR
    have hel := GGs.le
    have hexs := pr_len pE
    refine ⟨_, pss_cons (ps_expr (pe_c CK hr (by decide) (by rfl) (pa_cons (pv 0) pa_nil)))
      (pss_cons (ps_asg (pv 0) (pg_tup rfl (pgs_cons (pg_name (i := 1) scRed.nd rfl (.inr rfl)) (pgs_cons (pg_name (i := 2) scRed.nd rfl (.inr rfl)) pgs_nil))))
      (pss_one (ps_ret (pe_tup (pa_cons (pv 1) (pa_cons (pe_callTy call_tuple_of (by rfl) T.tuple boot_tuple (pa_cons
        (pe_lc (own := [("edge", 3)]) (g := gName 3) rfl scRed.nd (pi_tup (pv 2)) (blkOk_by (N := ["graph", "nodes", "edges", "edge"]) (sc := defScope sRed) (by decide +kernel))
          (fun _ _ _ _ _ => pg_name (i := 3) scRed.nd rfl (Or.inl rfl))
          (fun _ _ _ _ _ => pts_one (pt_not (pt_val (pe_c CA hr (by decide) (by rfl) (pa_cons (pv 1) (pa_cons (pv 2) (pa_cons (pv 3) pa_nil)))))))
          (fun _ _ _ _ _ => pv 3)) pa_nil)) pa_nil)))))), ?_⟩
    refine ⟨_, rfl, _, ns, es, rfl, GR, GGs, fun H1 s1 => ?_⟩
    refine ⟨_, rfl, g, _, rfl, Kt.of s1 _ _ hG, rfl, _, _, rfl, _, _, rfl, rfl, ?_⟩
    have hE1 := Kt.of s1 _ _ hE
    have pE1 := e3s.kt (Kt.of s1) pE
    refine ⟨_, rfl, _, rfl, e, rfl, ⟨_, hE1⟩, fun D hD => lc_tup (xs := exs) (fun i H' => ∃ ys, Same H1 H' ∧ H' D = some (.lst ys) ∧ Paired (e3 K H') ys ((es.take i).filter fun e => !carried ns es e))
      ⟨[], same_upd hD, upd_same, .nil⟩ (fun i H' _ z => by obtain ⟨_, s2, _⟩ := z; exact Kt.of s2 _ _ hE1) ?_ ?_⟩
    · rintro i x H2 hx ⟨ys, s2, h2, p2⟩
      obtain ⟨d, hd, r⟩ := pr_getl pE1 hx
      have hdm : d ∈ es := List.mem_of_getElem? hd
      have k2 := Kt.of (K := K) s2
      refine ⟨rfl, _, rfl, _, rfl, _, rfl, _, _, _, ns, es, d, rfl, ⟨n, rfl, k2 _ _ (Kt.of s1 _ _ hN)⟩, ⟨e, exs, rfl, k2 _ _ hE1, e3s.kt k2 pE1⟩, r.kt k2, GGs, fun H3 s3 => ⟨_, rfl, ?_⟩⟩
      have k3 := Kt.of (K := K) s3
      cases q2 : carried ns es d with
      | true => exact ⟨ys, s2.trans s3, s3 _ _ h2, by rw [filt_no hd (by rw [q2] <;> rfl)]; exact e3s.kt k3 p2⟩
      | false =>
        have h3 := s3 _ _ h2
        refine ⟨_, rfl, ys, h3, ?_, ys ++ [x], sm_own (s2.trans s3) hD, upd_same, ?_⟩
        · rw [pr_len p2]
          refine bigl (Nat.le_trans (List.length_filter_le _ _) ?_)
          rw [List.length_take]
          omega
        · rw [filt_yes hd (by rw [q2] <;> rfl)]
          exact pr_snoc (e3s.kt (Kt.trans k3 (kt_lst h3)) p2) (r.kt (Kt.trans k2 (Kt.trans k3 (kt_lst h3))))
    · rintro H2 ⟨ys, s2, h2, p2⟩
      rw [hexs, List.take_length] at p2
      refine ⟨D, _, rfl, .inl ⟨SqL.of h2, fun l hl => ⟨(by show 2 ≤ sizeLine; decide), fun u hu => ?_⟩⟩⟩
      have k1 : Kt K H2 (upd (upd H2 l (.tup ys)) u (.tup [.ref n, .ref l])) := Kt.of (sm_upd (same_upd hl) hu)
      exact q _ _ (s1.trans (sm_upd (sm_upd s2 hl) hu)) ⟨u, .ref n, .ref l, rfl, SqT.of upd_same, ⟨n, rfl, k1 _ _ (Kt.of s2 _ _ (Kt.of s1 _ _ hN))⟩, ⟨l, ys, rfl, Kt.of (same_upd hu) _ _ (SqT.of upd_same), e3s.kt k1 p2⟩⟩
end
end Sh
namespace M31
theorem getD_of {α : Type} {l : List α} {i : Nat} {x d : α} (h : l[i]? = some x) : l.getD i d = x := by
  rw [List.getD_eq_getElem?_getD, h] <;> rfl
theorem noneTo_succ (ns : List T) (c : T) (n : Nat) : noneTo ns c (n + 1) = (noneTo ns c n || (starts c (ns.getD n [])).isEmpty) := by
  unfold noneTo
  rw [List.range_succ, List.any_append, List.any_cons, List.any_nil, Bool.or_false]
theorem noneTo_at {ns : List T} {c : T} {k : Nat} (hk : k < ns.length) (h : starts c (ns.getD k []) = []) : noneTo ns c ns.length = true :=
  List.any_eq_true.mpr ⟨k, List.mem_range.mpr hk, by rw [h] <;> rfl⟩
theorem tr_none {ns : List T} {es : List E} {c : T} (h : noneTo ns c ns.length = true) : tr ns es c = none := by
  unfold tr
  rw [if_pos h]
theorem tr_bad {ns : List T} {es : List E} {c : T} {t : Nat} (h : noneTo ns c ns.length = false) (ht : t < (occ ns c).length) (hb : edgeAt ns es (occ ns c) c.length t = false) : tr ns es c = none := by
  unfold tr
  rw [if_neg (by rw [h]; exact Bool.false_ne_true), if_neg]
  intro z
  have := List.all_eq_true.mp z t (List.mem_range.mpr ht)
  rw [hb] at this
  cases this
theorem tr_ok {ns : List T} {es : List E} {c : T} (h : noneTo ns c ns.length = false) (ha : (List.range (occ ns c).length).all (edgeAt ns es (occ ns c) c.length) = true) : tr ns es c = some (occ ns c) := by
  unfold tr
  rw [if_neg (by rw [h]; exact Bool.false_ne_true), if_pos ha]
theorem due_none {ns : List T} {least : Nat} {c : T} (h : noneTo ns c ns.length = true) : due ns least c = none := by
  unfold due
  rw [if_pos h]
theorem due_bad {ns : List T} {least : Nat} {c : T} {t : Nat} (h : noneTo ns c ns.length = false) (ht : t < (occ ns c).length) (hb : ¬ (least : Int) ≤ gap ns (occ ns c) c.length t) : due ns least c = none := by
  unfold due
  rw [if_neg (by rw [h]; exact Bool.false_ne_true), if_neg]
  intro z
  exact hb (of_decide_eq_true (List.all_eq_true.mp z t (List.mem_range.mpr ht)))
theorem due_ok {ns : List T} {least : Nat} {c : T} (h : noneTo ns c ns.length = false) (ha : ∀ t, t < (occ ns c).length → (least : Int) ≤ gap ns (occ ns c) c.length t) : due ns least c = some (occ ns c) := by
  unfold due
  rw [if_neg (by rw [h]; exact Bool.false_ne_true), if_pos]
  exact List.all_eq_true.mpr fun t ht => decide_eq_true (ha t (List.mem_range.mp ht))
theorem starts_len (c w : T) : (starts c w).length ≤ c.length := by
  refine Nat.le_trans (List.length_filter_le _ _) ?_
  rw [List.length_range]
  exact Nat.le_refl _
theorem found_len (ns : List T) (c : T) (n : Nat) : (foundTo ns c n).length ≤ n * c.length := by
  have := flat_len (f := foundK ns c) (b := c.length) (l := List.range n) fun k _ => by
    unfold foundK
    rw [List.length_map]
    exact starts_len c _
  rw [List.length_range] at this
  exact this
theorem found_succ (ns : List T) (c : T) (n : Nat) : foundTo ns c (n + 1) = foundTo ns c n ++ foundK ns c n := by
  unfold foundTo
  rw [List.range_succ, List.flatMap_append, List.flatMap_singleton]
theorem sort_uniq {l m : List (Nat × Nat)} (p : l.Perm m) (h : l.Pairwise fun a b => leP a b = true) : l = m.mergeSort leP := by
  refine List.Perm.eq_of_pairwise (le := fun a b => leP a b = true) (fun a b _ _ h1 h2 => ?_) h ?_ (p.trans (List.mergeSort_perm _ _).symm)
  · rw [leP_iff] at h1 h2
    exact Prod.ext (by omega) (by omega)
  · refine List.pairwise_mergeSort (le := leP) (fun a b d h1 h2 => ?_) (fun a b => ?_) _
    · rw [leP_iff] at *
      omega
    · rw [Bool.or_eq_true, leP_iff, leP_iff]
      omega
end M31
namespace Sh
open PySem PySem.Spec L2 M31
open PyProof.Rows hiding St
/-- a pair of ints that is tracked -/
def q2 (H : Hp) (x : V) (p : Nat × Nat) : Prop := ∃ t, x = .ref t ∧ H t = some (.tup [nV p.1, nV p.2])
/-- all tracked tuples stand -/
def Kp (H H' : Hp) : Prop := ∀ a xs, H a = some (.tup xs) → H' a = some (.tup xs)
theorem Kp.of {H H' : Hp} (s : Same H H') : Kp H H' := fun a xs h => s a _ h
theorem Kp.trans {H H1 H2 : Hp} (a : Kp H H1) (b : Kp H1 H2) : Kp H H2 := fun x ys h => b x ys (a x ys h)
theorem kp_lst {H : Hp} {d : Addr} {xs : List V} {o : HO} (h : H d = some (.lst xs)) : Kp H (upd H d o) := fun b ys e => by
  rw [upd_ne (ne_of e h (by intro z; cases z))]
  exact e
theorem q2s.kp {H H' : Hp} {xs : List V} {es : List (Nat × Nat)} (k : Kp H H') (h : Paired (q2 H) xs es) : Paired (q2 H') xs es := L2.Paired.mapP h fun _ _ z => let ⟨t, e, q⟩ := z; ⟨t, e, k _ _ q⟩
theorem q2s.p2 {K : PySem.W.Frag} {H : Hp} {xs : List V} {es : List (Nat × Nat)} (h : Paired (q2 H) xs es) : Paired (p2 K H) xs es := L2.Paired.mapP h fun _ _ z => let ⟨t, e, q⟩ := z; ⟨t, e, SqT.of q⟩
/-- the ints of a tracked pair -/
def keyOf (H : Hp) (x : V) : Int × Int := match x with
  | .ref t => (match H t with
    | some (.tup [.int i, .int j]) => (i, j)
    | _ => (0, 0))
  | _ => (0, 0)
theorem keyOf_q2 {H : Hp} {x : V} {p : Nat × Nat} (h : q2 H x p) : keyOf H x = ((p.1 : Int), (p.2 : Int)) := by
  obtain ⟨t, rfl, h⟩ := h
  unfold keyOf
  simp only [h]
/-- sorted of a list of pairs: what it asks, what comes out -/
theorem sorted_in {H : Hp} {xs : List V} {es : List (Nat × Nat)} (hp : Paired (q2 H) xs es) : ∀ x ∈ xs, ∃ t, x = V.ref t ∧ H t = some (.tup [.int (keyOf H x).1, .int (keyOf H x).2]) := fun x hx => by
  obtain ⟨i, hi⟩ := List.getElem?_of_mem hx
  obtain ⟨e, _, r⟩ := pr_getl hp hi
  rw [keyOf_q2 r]
  exact r
theorem sorted_out {H : Hp} {xs ys : List V} {es : List (Nat × Nat)} {p : Addr} (hp : Paired (q2 H) xs es) (hs : SrtO.Srtd (ltP (keyOf H)) ys) (hst : SrtO.Stb (ltP (keyOf H)) ys xs) (hn : H p = none) : Paired (q2 (upd H p (.lst ys))) ys (es.mergeSort leP) := by
  obtain ⟨es', pe, pr⟩ := pr_perm hst.perm hp
  have hw : es'.Pairwise fun a b => leP a b = true := by
    refine List.pairwise_iff_getElem.mpr fun i j hi hj hij => ?_
    obtain ⟨x, hx, rx⟩ := pr_get pr (List.getElem?_eq_getElem hi)
    obtain ⟨y, hy, ry⟩ := pr_get pr (List.getElem?_eq_getElem hj)
    obtain ⟨hi', ex⟩ := List.getElem?_eq_some_iff.mp hx
    obtain ⟨hj', ey⟩ := List.getElem?_eq_some_iff.mp hy
    have q : SrtO.lexB (keyOf H ys[j]) (keyOf H ys[i]) = false := List.pairwise_iff_getElem.mp hs i j hi' hj' hij
    rw [ex, ey, keyOf_q2 rx, keyOf_q2 ry, SrtO.lexB_no] at q
    rw [leP_iff]
    simp only at q
    omega
  rw [← sort_uniq pe hw]
  exact q2s.kp (Kp.of (same_upd hn)) pr
theorem map_nV_at {l : List Nat} {i : Nat} {x : V} (h : (l.map nV)[i]? = some x) : ∃ n, l[i]? = some n ∧ x = nV n := by
  rw [List.getElem?_map] at h
  cases e : l[i]? with
  | none =>
    rw [e] at h
    cases h
  | some n =>
    rw [e] at h
    exact ⟨n, rfl, (Option.some.inj h).symm⟩
section
variable {P : Program} {w : World} {K : PySem.W.Frag} {mg : Str → Option Value} {base : Heap}
/-! ### traced -/
abbrev sTr : Stmt := topS 20
theorem scTr : FnScope ["graph", "circle", "nodes", "edges", "found", "k", "starts", "t", "position", "node", "after", "other", "p"] ["graph", "circle"] (defScope sTr) := ⟨rfl, rfl, rfl, by decide +kernel, rfl, by decide +kernel, by decide +kernel⟩
def spTr (K : PySem.W.Frag) : Sp := fun vs H Q _ => ∃ (v : V) (ns : List (List Nat)) (es : List E) (c : List Nat), vs = [v, sV c] ∧ GrT K H v ns es ∧ GG ns es ∧ c ≠ [] ∧ c.length ≤ 2000 ∧ ∀ H' u, Same H H' → OptP K H' u (tr ns es c) → Q u H'
theorem ok_tr {f : Addr} {fd : FuncData} (F : Fun K "traced" "traced" sTr f fd) (T : Txt mg) (CK : Cal P w K mg base 2 "check_graph" (spCheck K)) (CN : Cal P w K mg base 1 "need_circle" spNeed) (CS : Cal P w K mg base 2 "circle_starts" spStarts) :
    FnOk P w K mg base CX0 3 f fd ["graph", "circle"] (spTr K) := by
  refine F.ok scTr (fun vs H Q E h => ?_) (fun cdv A outer s H vs Q E hr h => ?_)
  · obtain ⟨v, ns, es, c, rfl, _⟩ := h
    rfl
  · obtain ⟨v, ns, es, c, rfl, GR, GGs, hc, hcl, q⟩ := h
    obtain ⟨g, _, _, rfl, hG, ⟨n, rfl, hN⟩, ⟨e, exs, rfl, hE, pE⟩⟩ := id GR
    have G := GGs.gn
    have hle := G.le
    refine ⟨_, pss_cons (ps_expr (pe_c CK hr (by decide) (by rfl) (pa_cons (pv 0) pa_nil)))
      (pss_cons (ps_expr (pe_c CN hr (by decide) (by rfl) (pa_cons (pv 1) pa_nil)))
      (pss_cons (ps_asg (pv 0) (pg_tup rfl (pgs_cons (pg_name (i := 2) scTr.nd rfl (.inl rfl)) (pgs_cons (pg_name (i := 3) scTr.nd rfl (.inl rfl)) pgs_nil))))
      (pss_cons (ps_set (i := 4) scTr.nd rfl (.inl rfl) (pe_lst pa_nil))
      (pss_cons (ps_for PassesOwn.never rfl (pi_range1 (by rfl) T.range (pa_cons (pe_callB call_len_seq (by rfl) T.len PySem.boot_len (pa_cons (pv 2) pa_nil)) pa_nil)) (pg_name (i := 5) scTr.nd rfl (.inr rfl))
        (pss_cons (ps_set (i := 6) scTr.nd rfl (.inl rfl) (pe_c CS hr (by decide) (by rfl) (pa_cons (pv 1) (pa_cons (pe_ix ix_tup (pv 2) (pv 5) (fun _ _ => rfl)) pa_nil))))
        (pss_cons (ps_if (pt_cmpR op_eq (pe_callB call_len_seq (by rfl) T.len PySem.boot_len (pa_cons (pv 6) pa_nil)) pe_int (nomark _)) (pss_one (ps_ret pe_non)) pss_nil)
        (pss_one (ps_set (i := 4) scTr.nd rfl (.inl rfl) (pe_op op_cat (pv 4)
          (pe_lc (own := [("p", 12)]) (g := gName 12) (tt := tYes) rfl scTr.nd (pi_tup (pv 6)) (blkOk_by (N := ["graph", "circle", "nodes", "edges", "found", "k", "starts", "t", "position", "node", "after", "other", "p"]) (sc := defScope sTr) (by decide +kernel))
            (fun _ _ _ _ _ => pg_name (i := 12) scTr.nd rfl (.inl rfl)) (fun _ _ _ _ _ => pts_nil)
            (fun _ _ _ _ _ => pe_tup (pa_cons (pv 12) (pa_cons (pv 5) pa_nil))))))))))
      (pss_cons (ps_set (i := 4) scTr.nd rfl (.inl rfl) (pe_callB cr_sortedPO (by rfl) T.sorted (by decide +kernel) (pa_cons (pv 4) pa_nil)))
      (pss_cons (ps_for PassesOwn.never rfl (pi_range1 (by rfl) T.range (pa_cons (pe_callB call_len_seq (by rfl) T.len PySem.boot_len (pa_cons (pv 4) pa_nil)) pa_nil)) (pg_name (i := 7) scTr.nd rfl (.inl rfl))
        (pss_cons (ps_asg (pe_ix ix_list (pv 4) (pv 7) (fun _ _ => rfl)) (pg_tup rfl (pgs_cons (pg_name (i := 8) scTr.nd rfl (.inl rfl)) (pgs_cons (pg_name (i := 9) scTr.nd rfl (.inl rfl)) pgs_nil))))
        (C8.pss_cut (ps_if (pt_cmpR op_lt (pe_op op_add (pv 7) pe_int) (pe_callB call_len_seq (by rfl) T.len PySem.boot_len (pa_cons (pv 4) pa_nil)) (nomark _))
            (pss_one (ps_asg (pe_ix ix_list (pv 4) (pe_op op_add (pv 7) pe_int) (fun _ _ => rfl)) (pg_tup rfl (pgs_cons (pg_name (i := 10) scTr.nd rfl (.inl rfl)) (pgs_cons (pg_name (i := 11) scTr.nd rfl (.inl rfl)) pgs_nil)))))
            (pss_cons (ps_asg (pe_ix ix_list (pv 4) pe_int (fun _ _ => rfl)) (pg_tup rfl (pgs_cons (pg_name (i := 10) scTr.nd rfl (.inl rfl)) (pgs_cons (pg_name (i := 11) scTr.nd rfl (.inl rfl)) pgs_nil))))
            (pss_one (ps_set (i := 10) scTr.nd rfl (.inl rfl) (pe_op op_add (pv 10) (pe_callB call_len_str (by rfl) T.len PySem.boot_len (pa_cons (pv 1) pa_nil)))))))
        (pss_one (ps_if (pt_cmpR (op_notInE (hu65 hr)) (pe_tup (pa_cons (pv 9) (pa_cons (pv 11) (pa_cons (pe_op op_add (pe_op op_sub (pe_callB call_len_str (by rfl) T.len PySem.boot_len (pa_cons (pe_ix ix_tup (pv 2) (pv 9) (fun _ _ => rfl)) pa_nil)) (pv 10)) (pv 8)) pa_nil)))) (pv 3) (by rfl)) (pss_one (ps_ret pe_non)) pss_nil)))))
      (pss_one (ps_ret (pe_callTy call_tuple_of (by rfl) T.tuple boot_tuple (pa_cons (pv 4) pa_nil)))))))))), ?_⟩
    refine ⟨_, rfl, _, ns, es, rfl, GR, GGs, fun H1 s1 => ?_⟩
    refine ⟨_, rfl, c, rfl, hc, ?_⟩
    refine ⟨_, rfl, g, _, rfl, Kt.of s1 _ _ hG, rfl, _, _, rfl, _, _, rfl, rfl, ?_⟩
    refine ⟨Nat.zero_le _, fun fa hfa => ?_⟩
    have s2 : Same H (upd H1 fa (.lst [])) := sm_upd s1 hfa
    refine ⟨_, rfl, n, _, rfl, .inr (Kt.of s2 _ _ hN), ((ns.map sV).length : Int), rfl, (by rw [List.length_map]; omega), (by rw [List.length_map]; omega),
      for_rangeN (n := (ns.map sV).length) (fun k σ H' => ∃ fa xs vk vs, σ = [some (.ref g), some (sV c), some (.ref n), some (.ref e), some (.ref fa), vk, vs, none, none, none, none, none, none] ∧ Same H H' ∧ H' fa = some (.lst xs) ∧ Paired (q2 H') xs (foundTo ns c k) ∧ noneTo ns c k = false)
        ⟨fa, [], none, none, rfl, s2, upd_same, .nil, rfl⟩ ?_ ?_⟩
    · rintro k σ H3 hk ⟨fa, xs, vk, vs, rfl, s3, h3, p3, n3⟩
      rw [List.length_map] at hk
      have hkl := (G.wd _ (getD_mem (d := []) hk)).2
      refine ⟨_, rfl, _, rfl, _, rfl, n, _, _, _, rfl, rfl, Kt.of s3 _ _ hN, at_tx hk, c, ns.getD k [], rfl, hc, by omega, by omega, fun H4 sa s4 h4 => ?_⟩
      refine ⟨_, rfl, sa, _, rfl, .inr (SqT.of h4), rfl, _, rfl, ?_⟩
      refine ite2 (fun e0 => ?_) (fun e0 => ?_)
      · have e0 := of_decide_eq_true e0
        injection e0 with e0
        have e1 : starts c (ns.getD k []) = [] := by
          rw [List.length_map] at e0
          exact List.length_eq_zero_iff.mp (by omega)
        refine q H4 _ (s3.trans s4) ?_
        rw [tr_none (noneTo_at hk e1)]
        exact rfl
      have e1 : (starts c (ns.getD k [])).isEmpty = false := by
        cases e2 : starts c (ns.getD k []) with
        | nil =>
          exfalso
          refine e0 (decide_eq_true ?_)
          rw [e2] <;> rfl
        | cons x r => rfl
      refine ⟨_, rfl, _, rfl, sa, rfl, ⟨_, SqT.of h4⟩, fun D hD => lc_tup (xs := (starts c (ns.getD k [])).map nV) (fun i H' => ∃ ys, Same H4 H' ∧ H' D = some (.lst ys) ∧ Paired (q2 H') ys (((starts c (ns.getD k [])).take i).map fun p => (p, k)))
        ⟨[], same_upd hD, upd_same, .nil⟩ (fun i H' _ z => by obtain ⟨_, s5, _⟩ := z; exact SqT.of (s5 _ _ h4)) ?_ ?_⟩
      · rintro i x H5 hx ⟨ys, s5, h5, p5⟩
        obtain ⟨m, hm, rfl⟩ := map_nV_at hx
        refine ⟨rfl, _, rfl, _, rfl, (by show 2 ≤ sizeLine; decide), fun t ht => ?_⟩
        have h6 : (upd H5 t (.tup [nV m, nV k])) D = some (.lst ys) := by
          rw [upd_ne (ne_of_none h5 ht)]
          exact h5
        refine ⟨ys, h6, ?_, ys ++ [.ref t], sm_own (sm_upd s5 ht) hD, upd_same, ?_⟩
        · rw [pr_len p5, List.length_map, List.length_take]
          have := starts_len c (ns.getD k [])
          exact bigl (by omega)
        · rw [take_at hm, List.map_append]
          exact pr_snoc (q2s.kp (Kp.trans (Kp.of (same_upd ht)) (kp_lst h6)) p5) ⟨t, rfl, kp_lst h6 _ _ upd_same⟩
      · rintro H5 ⟨ys, s5, h5, p5⟩
        rw [List.length_map, List.take_length] at p5
        have h3' := s5 _ _ (s4 _ _ h3)
        have l1 := found_len ns c k
        have l2 := starts_len c (ns.getD k [])
        have l3 : k * c.length ≤ 40 * 2000 := Nat.mul_le_mul (by omega) hcl
        refine ⟨fa, D, xs, ys, rfl, rfl, h3', h5, ?_, fun p hp => ?_⟩
        · rw [pr_len p3, pr_len p5, List.length_map]
          exact big (by omega)
        · refine ⟨p, xs ++ ys, _, _, rfl, sm_upd (s3.trans (s4.trans s5)) hp, upd_same, ?_, ?_⟩
          · rw [found_succ]
            exact q2s.kp (Kp.of (same_upd hp)) (pr_app (q2s.kp (Kp.of (s4.trans s5)) p3) p5)
          · rw [noneTo_succ, n3, e1] <;> rfl
    · rintro σ H3 ⟨fa, xs, vk, vs, rfl, s3, h3, p3, n3⟩
      rw [List.length_map] at p3 n3
      refine ⟨_, rfl, fa, xs, keyOf H3, rfl, SqL.of h3, sorted_in p3, fun ys p hs hst hp => ?_⟩
      have pY := sorted_out p3 hs hst hp
      have s4 : Same H (upd H3 p (.lst ys)) := sm_upd s3 hp
      have h4 : (upd H3 p (.lst ys)) p = some (.lst ys) := upd_same
      revert s4 h4 pY
      generalize upd H3 p (.lst ys) = H4
      intro pY s4 h4
      have pY : Paired (q2 H4) ys (occ ns c) := pY
      have hly := pr_len pY
      have hlo : (occ ns c).length ≤ 80000 := by
        rw [(occ_perm ns c).length_eq]
        have := found_len ns c ns.length
        have l3 : ns.length * c.length ≤ 40 * 2000 := Nat.mul_le_mul hle hcl
        omega
      refine ⟨_, rfl, p, ys, rfl, .inl (SqL.of h4), (ys.length : Int), rfl, by omega, by omega,
        for_rangeN (n := ys.length) (fun t σ H' => ∃ vt vp vn va vo, σ = [some (.ref g), some (sV c), some (.ref n), some (.ref e), some (.ref p), vk, vs, vt, vp, vn, va, vo, none] ∧ Same H4 H' ∧ (List.range t).all (edgeAt ns es (occ ns c) c.length) = true)
          ⟨none, none, none, none, none, rfl, Same.refl H4, rfl⟩ ?_ ?_⟩
      · rintro t σ H5 ht ⟨vt, vp, vn, va, vo, rfl, s5, a5⟩
        have hto : t < (occ ns c).length := by omega
        have ef : (occ ns c)[t]? = some (occ ns c)[t] := List.getElem?_eq_getElem hto
        obtain ⟨x, hx, u, rfl, hu⟩ := pr_get pY ef
        have hm := mem_occ.mp (List.getElem_mem hto)
        have h5 := s5 _ _ h4
        refine ⟨_, rfl, _, rfl, p, ys, _, _, rfl, rfl, SqL.of h5, at_nat hx, u, _, rfl, SqT.of (s5 _ _ hu), rfl, _, _, rfl, _, _, rfl, rfl, ?_⟩
        refine ⟨fun σ' H' => σ' = [some (.ref g), some (sV c), some (.ref n), some (.ref e), some (.ref p), vk, vs, some (nV t), some (nV (occ ns c)[t].1), some (nV (occ ns c)[t].2), some (nV (nxt (occ ns c) c.length t).1), some (nV (nxt (occ ns c) c.length t).2), none] ∧ H' = H5, ?_, ?_⟩
        · refine ⟨_, rfl, _, _, rfl, rfl, _, rfl, p, ys, rfl, .inl (SqL.of h5), _, _, rfl, rfl, _, rfl, ?_⟩
          refine ite2 (fun e1 => ?_) (fun e1 => ?_)
          · have e1 : t + 1 < (occ ns c).length := by
              have := of_decide_eq_true e1
              omega
            obtain ⟨x2, hx2, u2, rfl, hu2⟩ := pr_get pY (List.getElem?_eq_getElem e1)
            have hnx : nxt (occ ns c) c.length t = (occ ns c)[t + 1] := by
              unfold nxt
              rw [if_pos e1, getD_at e1]
            refine ⟨_, rfl, _, rfl, _, _, rfl, rfl, p, ys, _, _, rfl, rfl, SqL.of h5, at_of (j := t + 1) (by omega) hx2, u2, _, rfl, SqT.of (s5 _ _ hu2), rfl, _, _, rfl, _, _, rfl, rfl, ?_⟩
            exact ⟨by rw [hnx] <;> rfl, rfl⟩
          · have e1 : ¬ t + 1 < (occ ns c).length := fun z => e1 (decide_eq_true (by omega))
            have h0 : 0 < (occ ns c).length := by omega
            obtain ⟨x2, hx2, u2, rfl, hu2⟩ := pr_get pY (List.getElem?_eq_getElem h0)
            have hnx : nxt (occ ns c) c.length t = ((occ ns c)[0].1 + c.length, (occ ns c)[0].2) := by
              unfold nxt
              rw [if_neg e1, getD_at h0]
            refine ⟨_, rfl, p, ys, _, _, rfl, rfl, SqL.of h5, at_of (j := 0) rfl hx2, u2, _, rfl, SqT.of (s5 _ _ hu2), rfl, _, _, rfl, _, _, rfl, rfl, ?_⟩
            refine ⟨_, rfl, _, rfl, _, rfl, S_big (by omega), _, _, rfl, rfl, ?_⟩
            exact ⟨by rw [hnx, S_len] <;> rfl, rfl⟩
        · rintro σ' H' ⟨rfl, rfl⟩
          have hkl := (G.wd _ (getD_mem (d := []) hm.1)).2
          refine ⟨_, rfl, _, rfl, _, rfl, _, rfl, n, _, _, _, rfl, rfl, Kt.of (s4.trans s5) _ _ hN, at_tx hm.1, _, rfl, S_big (by omega), _, rfl, _, _, rfl, rfl, _, rfl, _, _, rfl, rfl, (by show 3 ≤ sizeLine; decide), fun z hz => ?_⟩
          have s6 := sm_upd (o := .tup [nV (occ ns c)[t].2, nV (nxt (occ ns c) c.length t).2, .int (((S (ns.getD (occ ns c)[t].2 [])).length : Int) - ((nxt (occ ns c) c.length t).1 : Int) + ((occ ns c)[t].1 : Int))]) s5 hz
          have ee : edgeAt ns es (occ ns c) c.length t = hasE es (occ ns c)[t].2 (nxt (occ ns c) c.length t).2 (((S (ns.getD (occ ns c)[t].2 [])).length : Int) - ((nxt (occ ns c) c.length t).1 : Int) + ((occ ns c)[t].1 : Int)) := by
            unfold edgeAt gap
            rw [getD_at hto, S_len]
          have k6 : Kt K H _ := Kt.of (s4.trans s6)
          refine ⟨_, rfl, z, _, _, _, es, rfl, SqT.of upd_same, ⟨e, exs, rfl, k6 _ _ hE, e3s.kt k6 pE⟩, _, rfl, ?_⟩
          refine ite2 (fun e2 => ?_) (fun e2 => ?_)
          · have e2 : (!hasE es (occ ns c)[t].2 (nxt (occ ns c) c.length t).2 (((S (ns.getD (occ ns c)[t].2 [])).length : Int) - ((nxt (occ ns c) c.length t).1 : Int) + ((occ ns c)[t].1 : Int))) = true := e2
            rw [← ee, Bool.not_eq_true'] at e2
            refine q _ _ (s4.trans s6) ?_
            rw [tr_bad n3 hto e2]
            exact rfl
          · have e2 : ¬ (!hasE es (occ ns c)[t].2 (nxt (occ ns c) c.length t).2 (((S (ns.getD (occ ns c)[t].2 [])).length : Int) - ((nxt (occ ns c) c.length t).1 : Int) + ((occ ns c)[t].1 : Int))) = true := e2
            rw [← ee, Bool.not_eq_true', Bool.not_eq_false] at e2
            refine ⟨_, _, _, _, _, rfl, s6, ?_⟩
            rw [List.range_succ, List.all_append, a5, List.all_cons, e2] <;> rfl
      · rintro σ H5 ⟨vt, vp, vn, va, vo, rfl, s5, a5⟩
        rw [hly] at a5
        refine ⟨_, rfl, p, ys, rfl, .inl ⟨SqL.of (s5 _ _ h4), fun l hl => ?_⟩⟩
        have s6 := sm_upd (o := .tup ys) s5 hl
        refine q _ _ (s4.trans s6) ?_
        rw [tr_ok n3 a5]
        exact ⟨l, ys, rfl, SqT.of upd_same, q2s.p2 (q2s.kp (Kp.of s6) pY)⟩
end
end Sh
namespace M31
/-- a closed walk of edges -/
structure Ring (es ws : List E) : Prop where
  ne : ws ≠ []
  le : ws.length ≤ 13
  mem : ∀ e ∈ ws, e ∈ es
  chain : ∀ t (h : t + 1 < ws.length), (ws[t + 1]'h).1 = (ws[t]'(Nat.lt_of_succ_lt h)).2.1
  closed : ∀ (h : 0 < ws.length), (ws[0]'h).1 = (ws[ws.length - 1]'(Nat.sub_lt h Nat.zero_lt_one)).2.1
theorem hasE_mem {es : List E} {e : E} (h : e ∈ es) : hasE es e.1 e.2.1 (e.2.2 : Int) = true := hasE_iff.mpr ⟨e.2.2, rfl, h⟩
end M31
namespace Sh
open PySem PySem.Spec L2 M31
open PyProof.Rows hiding St
theorem at_end {xs : List V} {v : V} (h0 : 0 < xs.length) (h : xs[xs.length - 1]? = some v) : atI xs (-1) = some v := by
  unfold atI ixN
  rw [if_neg (by decide), if_pos (by omega)]
  show xs[((-1 : Int) + (xs.length : Int)).toNat]? = some v
  rw [show ((-1 : Int) + (xs.length : Int)).toNat = xs.length - 1 by omega]
  exact h
section
variable {P : Program} {w : World} {K : PySem.W.Frag} {mg : Str → Option Value} {base : Heap}
/-! ### spelled -/
abbrev sSp : Stmt := topS 21
theorem scSp : FnScope ["graph", "walk", "nodes", "edges", "text", "t", "i", "j", "length"] ["graph", "walk"] (defScope sSp) := ⟨rfl, rfl, rfl, by decide +kernel, rfl, by decide +kernel, by decide +kernel⟩
def spSp (K : PySem.W.Frag) : Sp := fun vs H Q _ => ∃ (v u : V) (ns : List (List Nat)) (es ws : List E), vs = [v, u] ∧ GrT K H v ns es ∧ GG ns es ∧ TrT K H u ws ∧ Ring es ws ∧ ∀ H' c, Same H H' → c ≠ [] → c.length ≤ 780 → Q (sV c) H'
theorem ok_sp {f : Addr} {fd : FuncData} (F : Fun K "spelled" "spelled" sSp f fd) (T : Txt mg) (CK : Cal P w K mg base 2 "check_graph" (spCheck K)) : FnOk P w K mg base CX0 3 f fd ["graph", "walk"] (spSp K) := by
  refine F.ok scSp (fun vs H Q E h => ?_) (fun cdv A outer s H vs Q E hr h => ?_)
  · obtain ⟨v, u, ns, es, ws, rfl, _⟩ := h
    rfl
  · obtain ⟨v, _, ns, es, ws, rfl, GR, GGs, ⟨wa, wxs, rfl, hW, pW⟩, R, q⟩ := h
    obtain ⟨g, _, _, rfl, hG, ⟨n, rfl, hN⟩, ⟨e, exs, rfl, hE, pE⟩⟩ := id GR
    have G := GGs.gn
    have hwl := pr_len pW
    have hwn : 0 < ws.length := List.length_pos_iff.mpr R.ne
    have hw13 := R.le
    refine ⟨_, pss_cons (ps_expr (pe_c CK hr (by decide) (by rfl) (pa_cons (pv 0) pa_nil)))
      (pss_cons (ps_asg (pv 0) (pg_tup rfl (pgs_cons (pg_name (i := 2) scSp.nd rfl (.inl rfl)) (pgs_cons (pg_name (i := 3) scSp.nd rfl (.inl rfl)) pgs_nil))))
      (pss_cons (ps_if (PW.pt (pw_or (pt_cmpR op_eq (pe_callB call_len_seq (by rfl) T.len PySem.boot_len (pa_cons (pv 1) pa_nil)) pe_int (nomark _)) (pw_or1 (pt_cmpR op_ne (pe_ix ix_tup (pe_ix ix_tup (pv 1) pe_int (fun _ _ => rfl)) pe_int (fun _ _ => rfl)) (pe_ix ix_tup (pe_ix ix_tup (pv 1) (pe_un un_neg pe_int) (fun _ _ => rfl)) pe_int (fun _ _ => rfl)) (nomark _))))) pss_never pss_nil)
      (pss_cons (ps_set (i := 4) scSp.nd rfl (.inl rfl) pe_str)
      (pss_cons (ps_for PassesOwn.never rfl (pi_range1 (by rfl) T.range (pa_cons (pe_callB call_len_seq (by rfl) T.len PySem.boot_len (pa_cons (pv 1) pa_nil)) pa_nil)) (pg_name (i := 5) scSp.nd rfl (.inl rfl))
        (C8.pss_cut (ps_if (PW.pt (pw_or (pt_cmpR (op_notInE (hu65 hr)) (pe_ix ix_tup (pv 1) (pv 5) (fun _ _ => rfl)) (pv 3) (by rfl))
            (pw_or1 (PW.pt (pw_and (pt_cmpR op_gt (pv 5) pe_int (nomark _)) (pw_and1 (pt_cmpR op_ne (pe_ix ix_tup (pe_ix ix_tup (pv 1) (pv 5) (fun _ _ => rfl)) pe_int (fun _ _ => rfl)) (pe_ix ix_tup (pe_ix ix_tup (pv 1) (pe_op op_sub (pv 5) pe_int) (fun _ _ => rfl)) pe_int (fun _ _ => rfl)) (nomark _)))))))) pss_never pss_nil)
        (pss_cons (ps_asg (pe_ix ix_tup (pv 1) (pv 5) (fun _ _ => rfl)) (pg_tup rfl (pgs_cons (pg_name (i := 6) scSp.nd rfl (.inl rfl)) (pgs_cons (pg_name (i := 7) scSp.nd rfl (.inl rfl)) (pgs_cons (pg_name (i := 8) scSp.nd rfl (.inl rfl)) pgs_nil)))))
        (pss_one (ps_set (i := 4) scSp.nd rfl (.inl rfl) (pe_op op_add_str (pv 4) (pe_slice sl_str (pe_ix ix_tup (pv 2) (pv 6) (fun _ _ => rfl)) po_none (po_some (pe_op op_sub (pe_callB call_len_str (by rfl) T.len PySem.boot_len (pa_cons (pe_ix ix_tup (pv 2) (pv 6) (fun _ _ => rfl)) pa_nil)) (pv 8))))))))))
      (pss_one (ps_ret (pv 4))))))), ?_⟩
    refine ⟨_, rfl, _, ns, es, rfl, GR, GGs, fun H1 s1 => ?_⟩
    have hN1 := Kt.of s1 _ _ hN
    have hW1 := Kt.of s1 _ _ hW
    have pW1 := e3s.kt (Kt.of s1) pW
    have trE : TrT K H1 (.ref e) es := ⟨e, exs, rfl, Kt.of s1 _ _ hE, e3s.kt (Kt.of s1) pE⟩
    have at_ : ∀ t (h : t < ws.length), ∃ u, wxs[t]? = some (.ref u) ∧ SqT K H1 u [nV ws[t].1, nV ws[t].2.1, nV ws[t].2.2] := fun t h => by
      obtain ⟨x, hx, u, rfl, hu⟩ := pr_get pW1 (List.getElem?_eq_getElem h)
      exact ⟨u, hx, hu⟩
    refine ⟨_, rfl, g, _, rfl, Kt.of s1 _ _ hG, rfl, _, _, rfl, _, _, rfl, rfl, ?_⟩
    refine ⟨_, rfl, wa, wxs, rfl, .inr hW1, rfl, _, rfl, ?_⟩
    refine ite2 (fun e0 => ?_) (fun _ => ?_)
    · have e0 := of_decide_eq_true e0
      injection e0 with e0
      omega
    obtain ⟨u0, hu0, t0⟩ := at_ 0 hwn
    obtain ⟨u1, hu1, t1⟩ := at_ (ws.length - 1) (Nat.sub_lt hwn Nat.zero_lt_one)
    refine ⟨_, rfl, wa, wxs, _, _, rfl, rfl, hW1, at_of (j := 0) rfl hu0, u0, _, _, _, rfl, rfl, t0, rfl, _, rfl, _, rfl, wa, wxs, _, _, rfl, rfl, hW1, at_end (by omega) (by rw [hwl]; exact hu1), u1, _, _, _, rfl, rfl, t1, rfl, rfl, _, rfl, ?_⟩
    rw [R.closed hwn]
    refine iteNS rfl ?_
    refine ⟨_, rfl, wa, wxs, rfl, .inr hW1, (wxs.length : Int), rfl, by omega, by omega,
      for_rangeN (n := wxs.length) (fun t σ H' => ∃ l vt vi vj vl, σ = [some (.ref g), some (.ref wa), some (.ref n), some (.ref e), some (sV l), vt, vi, vj, vl] ∧ H' = H1 ∧ l.length ≤ t * 60 ∧ (0 < t → l ≠ [])) ⟨[], none, none, none, none, rfl, rfl, Nat.zero_le _, fun z => absurd z (Nat.lt_irrefl _)⟩ ?_ ?_⟩
    · rintro t σ H2 ht ⟨l, vt, vi, vj, vl, rfl, rfl, hl, hne⟩
      have htw : t < ws.length := by omega
      obtain ⟨u, hu, tu⟩ := at_ t htw
      have hmem := R.mem _ (List.getElem_mem htw)
      obtain ⟨o1, o2, o3⟩ := GGs.ov _ hmem
      obtain ⟨v1, v2, v3, _⟩ := isOv_iff.mp o3
      have hw1 := G.wd _ (getD_mem (d := []) o1)
      refine ⟨fun σ' H' => σ' = [some (.ref g), some (.ref wa), some (.ref n), some (.ref e), some (sV l), some (nV t), vi, vj, vl] ∧ H' = H2, ?_, ?_⟩
      · refine ⟨_, rfl, _, rfl, wa, wxs, _, _, rfl, rfl, hW1, at_nat hu, _, rfl, u, _, _, _, es, rfl, tu, trE, _, rfl, ?_⟩
        rw [hasE_mem hmem]
        refine iteF ?_
        refine ⟨_, rfl, _, _, rfl, rfl, _, rfl, ?_⟩
        refine ite2 (fun e0 => ?_) (fun _ => iteF ⟨rfl, rfl⟩)
        have e0 : 0 < t := by
          have := of_decide_eq_true e0
          omega
        obtain ⟨u2, hu2, tu2⟩ := at_ (t - 1) (by omega)
        have hch := R.chain (t - 1) (by omega)
        refine ⟨_, rfl, _, rfl, wa, wxs, _, _, rfl, rfl, hW1, at_nat hu, u, _, _, _, rfl, rfl, tu, rfl, _, rfl, _, rfl, _, _, rfl, rfl, wa, wxs, _, _, rfl, rfl, hW1, at_of (j := t - 1) (by omega) hu2, u2, _, _, _, rfl, rfl, tu2, rfl, rfl, _, rfl, ?_⟩
        have et : ws[t].1 = ws[t - 1].2.1 := by
          rw [← hch]
          congr 2
          omega
        rw [et]
        refine iteNS rfl ?_
        exact ⟨rfl, rfl⟩
      · rintro σ' H' ⟨rfl, rfl⟩
        refine ⟨_, rfl, _, rfl, wa, wxs, _, _, rfl, rfl, hW1, at_nat hu, u, _, rfl, tu, rfl, _, _, rfl, _, _, rfl, _, _, rfl, rfl, ?_⟩
        have hl13 : t * 60 ≤ 780 := by omega
        refine ⟨_, rfl, _, rfl, _, rfl, n, _, _, _, rfl, rfl, hN1, at_tx o1, _, rfl, _, rfl, n, _, _, _, rfl, rfl, hN1, at_tx o1, _, rfl, S_big (by omega), _, rfl, _, _, rfl, rfl, _, rfl, _, rfl, S_big (by omega), _, _, rfl, rfl, ?_, ?_⟩
        · rw [cut_to (by rw [S_len]; omega), S_len, S_len, List.length_take]
          exact big (by omega)
        · refine ⟨_, _, _, _, _, (by rw [cut_to (by rw [S_len]; omega), SX.S_cat] <;> rfl), rfl, ?_, fun _ => ?_⟩
          · rw [List.length_append, List.length_take]
            omega
          · intro z
            have := congrArg List.length z
            rw [List.length_append, List.length_take, S_len] at this
            simp only [List.length_nil] at this
            omega
    · rintro σ H2 ⟨l, vt, vi, vj, vl, rfl, rfl, hl, hne⟩
      exact ⟨_, rfl, q _ l s1 (hne (by omega)) (by omega)⟩
end
end Sh
namespace Sh
open PySem PySem.Spec L2 M31
open PyProof.Rows hiding St
section
variable {P : Program} {w : World} {K : PySem.W.Frag} {mg : Str → Option Value} {base : Heap}
/-! ### the law's own answer -/
abbrev sDue : Stmt := topS 34
abbrev nDue : List Str := ["_law_nodes", "_law_circle", "_law_least", "_law_found", "_law_k", "_law_starts", "_law_t", "_law_after", "_law_p"]
theorem scDue : FnScope nDue ["_law_nodes", "_law_circle", "_law_least"] (defScope sDue) := ⟨rfl, rfl, rfl, by decide +kernel, rfl, by decide +kernel, by decide +kernel⟩
def spDue (K : PySem.W.Frag) : Sp := fun vs H Q _ => ∃ (v : V) (ns : List (List Nat)) (c : List Nat) (least : Nat), vs = [v, sV c, nV least] ∧ TxT K H v ns ∧ GN ns ∧ c ≠ [] ∧ c.length ≤ 2000 ∧ ∀ H' u, Same H H' → OptP K H' u (due ns least c) → Q u H'
theorem ok_due {f : Addr} {fd : FuncData} (F : Fun K "_law_due" "_law_due" sDue f fd) (T : Txt mg) (CR : Cal P w K mg base 1 "_law_round" spRound) : FnOk P w K mg base CX0 2 f fd ["_law_nodes", "_law_circle", "_law_least"] (spDue K) := by
  refine F.ok scDue (fun vs H Q E h => ?_) (fun cdv A outer s H vs Q E hr h => ?_)
  · obtain ⟨v, ns, c, least, rfl, _⟩ := h
    rfl
  · obtain ⟨_, ns, c, least, rfl, ⟨n, rfl, hN⟩, G, hc, hcl, q⟩ := h
    have hle := G.le
    refine ⟨_, pss_cons (ps_set (i := 3) scDue.nd rfl (.inl rfl) (pe_lst pa_nil))
      (pss_cons (ps_for PassesOwn.never rfl (pi_range1 (by rfl) T.range (pa_cons (pe_callB call_len_seq (by rfl) T.len PySem.boot_len (pa_cons (pv 0) pa_nil)) pa_nil)) (pg_name (i := 4) scDue.nd rfl (.inr rfl))
        (pss_cons (ps_setLc (i := 5) (own := [("_law_p", 8)]) (g := gName 8) rfl scDue.nd rfl rfl (sw_true rfl rfl rfl (by decide +kernel)) (pi_range1 (by rfl) T.range (pa_cons (pe_callB call_len_str (by rfl) T.len PySem.boot_len (pa_cons (pv 1) pa_nil)) pa_nil)) (blkOk_by (N := nDue) (sc := defScope sDue) (by decide +kernel))
            (fun _ _ _ _ _ => pg_name (i := 8) scDue.nd rfl (.inl rfl))
            (fun _ _ _ _ _ => pts_one (pt_cmpR op_eq (pe_c CR hr (by decide) (by rfl) (pa_cons (pv 1) (pa_cons (pv 8) (pa_cons (pe_callB call_len_str (by rfl) T.len PySem.boot_len (pa_cons (pe_ix (r := rIxT K) ix_tup (pv 0) (pv 4) (fun _ _ => rfl)) pa_nil)) pa_nil)))) (pe_ix (r := rIxT K) ix_tup (pv 0) (pv 4) (fun _ _ => rfl)) (nomark _)))
            (fun _ _ _ _ _ => pv 8))
        (pss_cons (ps_if (pt_cmpR op_eq (pe_callB call_len_seq (by rfl) T.len PySem.boot_len (pa_cons (pv 5) pa_nil)) pe_int (nomark _)) (pss_one (ps_ret pe_non)) pss_nil)
        (pss_one (ps_set (i := 3) scDue.nd rfl (.inl rfl) (pe_op op_cat (pv 3)
          (pe_lc (own := [("_law_p", 8)]) (g := gName 8) (tt := tYes) rfl scDue.nd (pi_list (pv 5)) (blkOk_by (N := nDue) (sc := defScope sDue) (by decide +kernel))
            (fun _ _ _ _ _ => pg_name (i := 8) scDue.nd rfl (.inl rfl)) (fun _ _ _ _ _ => pts_nil)
            (fun _ _ _ _ _ => pe_tup (pa_cons (pv 8) (pa_cons (pv 4) pa_nil))))))))))
      (pss_cons (ps_set (i := 3) scDue.nd rfl (.inl rfl) (pe_callB cr_sortedPO (by rfl) T.sorted (by decide +kernel) (pa_cons (pv 3) pa_nil)))
      (pss_cons (ps_for PassesOwn.never rfl (pi_range1 (by rfl) T.range (pa_cons (pe_callB call_len_seq (by rfl) T.len PySem.boot_len (pa_cons (pv 3) pa_nil)) pa_nil)) (pg_name (i := 6) scDue.nd rfl (.inl rfl))
        (C8.pss_cut (ps_set (i := 7) scDue.nd rfl (.inl rfl) (pe_ifExp (pt_cmpR op_lt (pe_op op_add (pv 6) pe_int) (pe_callB call_len_seq (by rfl) T.len PySem.boot_len (pa_cons (pv 3) pa_nil)) (nomark _))
            (pe_ix ix_tup (pe_ix ix_list (pv 3) (pe_op op_add (pv 6) pe_int) (fun _ _ => rfl)) pe_int (fun _ _ => rfl))
            (pe_op op_add (pe_ix ix_tup (pe_ix ix_list (pv 3) pe_int (fun _ _ => rfl)) pe_int (fun _ _ => rfl)) (pe_callB call_len_str (by rfl) T.len PySem.boot_len (pa_cons (pv 1) pa_nil)))))
        (pss_one (ps_if (pt_cmpR op_lt (pe_op op_sub (pe_op op_add (pe_ix ix_tup (pe_ix ix_list (pv 3) (pv 6) (fun _ _ => rfl)) pe_int (fun _ _ => rfl)) (pe_callB call_len_str (by rfl) T.len PySem.boot_len (pa_cons (pe_ix ix_tup (pv 0) (pe_ix ix_tup (pe_ix ix_list (pv 3) (pv 6) (fun _ _ => rfl)) pe_int (fun _ _ => rfl)) (fun _ _ => rfl)) pa_nil))) (pv 7)) (pv 2) (nomark _)) (pss_one (ps_ret pe_non)) pss_nil))))
      (pss_one (ps_ret (pe_callTy call_tuple_of (by rfl) T.tuple boot_tuple (pa_cons (pv 3) pa_nil))))))), ?_⟩
    refine ⟨Nat.zero_le _, fun fa hfa => ?_⟩
    have s2 : Same H (upd H fa (.lst [])) := same_upd hfa
    refine ⟨_, rfl, n, _, rfl, .inr (Kt.of s2 _ _ hN), ((ns.map sV).length : Int), rfl, (by rw [List.length_map]; omega), (by rw [List.length_map]; omega),
      for_rangeN (n := (ns.map sV).length) (fun k σ H' => ∃ fa xs vk vs, σ = [some (.ref n), some (sV c), some (nV least), some (.ref fa), vk, vs, none, none, none] ∧ Same H H' ∧ H' fa = some (.lst xs) ∧ Paired (q2 H') xs (foundTo ns c k) ∧ noneTo ns c k = false)
        ⟨fa, [], none, none, rfl, s2, upd_same, .nil, rfl⟩ ?_ ?_⟩
    · rintro k σ H3 hk ⟨fa, xs, vk, vs, rfl, s3, h3, p3, n3⟩
      rw [List.length_map] at hk
      have hkl := (G.wd _ (getD_mem (d := []) hk)).2
      refine ⟨_, rfl, _, rfl, S_big (by omega), ((S c).length : Int), rfl, (by rw [S_len]; omega), (by rw [S_len]; omega), fun D hD =>
        lc_rangeN (n := c.length) (fun i H' => Same H3 H' ∧ H' D = some (.lst ((startsTo c (ns.getD k []) i).map nV))) ⟨same_upd hD, upd_same⟩ ?_ ?_⟩
      · rintro i H4 hi ⟨s4, h4⟩
        have hN4 := Kt.of (s3.trans s4) _ _ hN
        refine ⟨rfl, _, rfl, _, rfl, _, rfl, _, rfl, n, _, _, _, rfl, rfl, hN4, at_tx hk, _, rfl, S_big (by omega), c, i, (ns.getD k []).length, (by rw [S_len] <;> rfl), hc, by omega, by omega, fun H5 s5 => ?_⟩
        refine ⟨_, rfl, _, rfl, n, _, _, _, rfl, rfl, Kt.of s5 _ _ hN4, at_tx hk, rfl, _, rfl, ?_⟩
        refine ite2 (fun e => ?_) (fun e => ?_)
        · have e : rr c i (ns.getD k []).length = ns.getD k [] := sV_inj (of_decide_eq_true e)
          refine ⟨_, rfl, _, s5 _ _ h4, ?_, sm_own (s4.trans s5) hD, ?_⟩
          · rw [List.length_map]
            have := startsTo_len c (ns.getD k []) i
            exact bigl (by omega)
          · rw [upd_same, startsTo_yes e, List.map_append] <;> rfl
        · refine ⟨s4.trans s5, ?_⟩
          rw [startsTo_no fun z => e (decide_eq_true (congrArg sV z))]
          exact s5 _ _ h4
      rintro H4 ⟨s4, h4⟩
      have h4 : H4 D = some (.lst ((starts c (ns.getD k [])).map nV)) := h4
      refine ⟨_, rfl, D, _, rfl, .inl (SqL.of h4), rfl, _, rfl, ?_⟩
      refine ite2 (fun e0 => ?_) (fun e0 => ?_)
      · have e0 := of_decide_eq_true e0
        injection e0 with e0
        have e1 : starts c (ns.getD k []) = [] := by
          rw [List.length_map] at e0
          exact List.length_eq_zero_iff.mp (by omega)
        refine q H4 _ (s3.trans s4) ?_
        rw [due_none (noneTo_at hk e1)]
        exact rfl
      have e1 : (starts c (ns.getD k [])).isEmpty = false := by
        cases e2 : starts c (ns.getD k []) with
        | nil =>
          exfalso
          refine e0 (decide_eq_true ?_)
          rw [e2] <;> rfl
        | cons x r => rfl
      refine ⟨_, rfl, _, rfl, D, rfl, ⟨_, SqL.of h4⟩, fun D2 hD2 => lc_list (xs := (starts c (ns.getD k [])).map nV) (fun i H' => ∃ ys, Same H4 H' ∧ H' D2 = some (.lst ys) ∧ Paired (q2 H') ys (((starts c (ns.getD k [])).take i).map fun p => (p, k)))
        ⟨[], same_upd hD2, upd_same, .nil⟩ (fun i H' _ z => by obtain ⟨_, s5, _⟩ := z; exact SqL.of (s5 _ _ h4)) ?_ ?_⟩
      · rintro i x H5 hx ⟨ys, s5, h5, p5⟩
        obtain ⟨m, hm, rfl⟩ := map_nV_at hx
        refine ⟨rfl, _, rfl, _, rfl, (by show 2 ≤ sizeLine; decide), fun t ht => ?_⟩
        have h6 : (upd H5 t (.tup [nV m, nV k])) D2 = some (.lst ys) := by
          rw [upd_ne (ne_of_none h5 ht)]
          exact h5
        refine ⟨ys, h6, ?_, ys ++ [.ref t], sm_own (sm_upd s5 ht) hD2, upd_same, ?_⟩
        · rw [pr_len p5, List.length_map, List.length_take]
          have := starts_len c (ns.getD k [])
          exact bigl (by omega)
        · rw [take_at hm, List.map_append]
          exact pr_snoc (q2s.kp (Kp.trans (Kp.of (same_upd ht)) (kp_lst h6)) p5) ⟨t, rfl, kp_lst h6 _ _ upd_same⟩
      · rintro H5 ⟨ys, s5, h5, p5⟩
        rw [List.length_map, List.take_length] at p5
        have h3' := s5 _ _ (s4 _ _ h3)
        have l1 := found_len ns c k
        have l2 := starts_len c (ns.getD k [])
        have l3 : k * c.length ≤ 40 * 2000 := Nat.mul_le_mul (by omega) hcl
        refine ⟨fa, D2, xs, ys, rfl, rfl, h3', h5, ?_, fun p hp => ?_⟩
        · rw [pr_len p3, pr_len p5, List.length_map]
          exact big (by omega)
        · refine ⟨p, xs ++ ys, _, _, rfl, sm_upd (s3.trans (s4.trans s5)) hp, upd_same, ?_, ?_⟩
          · rw [found_succ]
            exact q2s.kp (Kp.of (same_upd hp)) (pr_app (q2s.kp (Kp.of (s4.trans s5)) p3) p5)
          · rw [noneTo_succ, n3, e1] <;> rfl
    · rintro σ H3 ⟨fa, xs, vk, vs, rfl, s3, h3, p3, n3⟩
      rw [List.length_map] at p3 n3
      refine ⟨_, rfl, fa, xs, keyOf H3, rfl, SqL.of h3, sorted_in p3, fun ys p hs hst hp => ?_⟩
      have pY := sorted_out p3 hs hst hp
      have s4 : Same H (upd H3 p (.lst ys)) := sm_upd s3 hp
      have h4 : (upd H3 p (.lst ys)) p = some (.lst ys) := upd_same
      revert s4 h4 pY
      generalize upd H3 p (.lst ys) = H4
      intro pY s4 h4
      have pY : Paired (q2 H4) ys (occ ns c) := pY
      have hly := pr_len pY
      have hlo : (occ ns c).length ≤ 80000 := by
        rw [(occ_perm ns c).length_eq]
        have := found_len ns c ns.length
        have l3 : ns.length * c.length ≤ 40 * 2000 := Nat.mul_le_mul hle hcl
        omega
      refine ⟨_, rfl, p, ys, rfl, .inl (SqL.of h4), (ys.length : Int), rfl, by omega, by omega,
        for_rangeN (n := ys.length) (fun t σ H' => ∃ vt va, σ = [some (.ref n), some (sV c), some (nV least), some (.ref p), vk, vs, vt, va, none] ∧ H' = H4 ∧ ∀ j, j < t → (least : Int) ≤ gap ns (occ ns c) c.length j)
          ⟨none, none, rfl, rfl, fun j z => absurd z (Nat.not_lt_zero _)⟩ ?_ ?_⟩
      · rintro t σ H5 ht ⟨vt, va, rfl, rfl, a5⟩
        have hto : t < (occ ns c).length := by omega
        have ef : (occ ns c)[t]? = some (occ ns c)[t] := List.getElem?_eq_getElem hto
        obtain ⟨x, hx, u, rfl, hu⟩ := pr_get pY ef
        have hm := mem_occ.mp (List.getElem_mem hto)
        have hkl := (G.wd _ (getD_mem (d := []) hm.1)).2
        refine ⟨fun σ' H' => σ' = [some (.ref n), some (sV c), some (nV least), some (.ref p), vk, vs, some (nV t), some (nV (nxt (occ ns c) c.length t).1), none] ∧ H' = H5, ?_, ?_⟩
        · refine ⟨_, rfl, _, _, rfl, rfl, _, rfl, p, ys, rfl, .inl (SqL.of h4), _, _, rfl, rfl, _, rfl, ?_⟩
          refine ite2 (fun e1 => ?_) (fun e1 => ?_)
          · have e1 : t + 1 < (occ ns c).length := by
              have := of_decide_eq_true e1
              omega
            obtain ⟨x2, hx2, u2, rfl, hu2⟩ := pr_get pY (List.getElem?_eq_getElem e1)
            have hnx : nxt (occ ns c) c.length t = (occ ns c)[t + 1] := by
              unfold nxt
              rw [if_pos e1, getD_at e1]
            refine ⟨_, rfl, _, rfl, _, _, rfl, rfl, p, ys, _, _, rfl, rfl, SqL.of h4, at_of (j := t + 1) (by omega) hx2, u2, _, _, _, rfl, rfl, SqT.of hu2, rfl, ?_⟩
            exact ⟨by rw [hnx] <;> rfl, rfl⟩
          · have e1 : ¬ t + 1 < (occ ns c).length := fun z => e1 (decide_eq_true (by omega))
            have h0 : 0 < (occ ns c).length := by omega
            obtain ⟨x2, hx2, u2, rfl, hu2⟩ := pr_get pY (List.getElem?_eq_getElem h0)
            have hnx : nxt (occ ns c) c.length t = ((occ ns c)[0].1 + c.length, (occ ns c)[0].2) := by
              unfold nxt
              rw [if_neg e1, getD_at h0]
            refine ⟨_, rfl, p, ys, _, _, rfl, rfl, SqL.of h4, at_of (j := 0) rfl hx2, u2, _, _, _, rfl, rfl, SqT.of hu2, rfl, _, rfl, _, rfl, S_big (by omega), _, _, rfl, rfl, ?_⟩
            exact ⟨by rw [hnx, S_len] <;> rfl, rfl⟩
        · rintro σ' H' ⟨rfl, rfl⟩
          refine ⟨_, rfl, _, rfl, p, ys, _, _, rfl, rfl, SqL.of h4, at_nat hx, u, _, _, _, rfl, rfl, SqT.of hu, rfl, ?_⟩
          refine ⟨_, rfl, _, rfl, _, rfl, p, ys, _, _, rfl, rfl, SqL.of h4, at_nat hx, u, _, _, _, rfl, rfl, SqT.of hu, rfl, n, _, _, _, rfl, rfl, Kt.of s4 _ _ hN, at_tx hm.1, _, rfl, S_big (by omega), _, _, rfl, rfl, _, rfl, _, _, rfl, rfl, _, rfl, _, _, rfl, rfl, _, rfl, ?_⟩
          have ee : gap ns (occ ns c) c.length t = ((occ ns c)[t].1 : Int) + ((S (ns.getD (occ ns c)[t].2 [])).length : Int) - ((nxt (occ ns c) c.length t).1 : Int) := by
            unfold gap
            rw [getD_at hto, S_len]
            omega
          refine ite2 (fun e2 => ?_) (fun e2 => ?_)
          · have e2 := of_decide_eq_true e2
            rw [← ee] at e2
            refine q _ _ s4 ?_
            rw [due_bad n3 hto (by omega)]
            exact rfl
          · have e2 : ¬ gap ns (occ ns c) c.length t < (least : Int) := fun z => e2 (decide_eq_true (by rw [← ee]; exact z))
            refine ⟨_, _, rfl, rfl, fun j hj => ?_⟩
            rcases Nat.lt_or_ge j t with z | z
            · exact a5 j z
            · have : j = t := by omega
              rw [this]
              omega
      · rintro σ H5 ⟨vt, va, rfl, rfl, a5⟩
        refine ⟨_, rfl, p, ys, rfl, .inl ⟨SqL.of h4, fun l hl => ?_⟩⟩
        have s6 := same_upd (o := .tup ys) hl
        refine q _ _ (s4.trans s6) ?_
        rw [due_ok n3 fun j hj => a5 j (by omega)]
        exact ⟨l, ys, rfl, SqT.of upd_same, q2s.p2 (q2s.kp (Kp.of s6) pY)⟩
end
end Sh
namespace Sh
open PySem PySem.Spec L2 M31
open PyProof.Rows hiding St
/-- the law's source of draws stands at d, its list at e -/
def DAt (H : Hp) (d e : Addr) : Prop := ∃ (xs : List Int) (p c s : Int), H d = some (.lst [.ref e, .int p, .int c, .int s]) ∧ H e = some (.lst (xs.map V.int)) ∧ e ≠ d ∧ xs.length ≤ 63 ∧ 0 ≤ p ∧ 0 ≤ c ∧ 0 ≤ s
theorem DAt.lst {H : Hp} {d e : Addr} (h : DAt H d e) : ∃ ys, H d = some (.lst ys) := let ⟨_, _, _, _, z, _⟩ := h; ⟨_, z⟩
theorem DAt.lst2 {H : Hp} {d e : Addr} (h : DAt H d e) : ∃ ys, H e = some (.lst ys) := let ⟨_, _, _, _, _, z, _⟩ := h; ⟨_, z⟩
theorem DAt.kt {K : PySem.W.Frag} {H H' : Hp} {d e : Addr} (h : DAt H d e) (b : But d H H') : Kt K H H' := let ⟨_, z⟩ := h.lst; Kt.but z b
theorem DAt.same {H H' : Hp} {d e : Addr} (h : DAt H d e) (s : Same H H') : DAt H' d e := let ⟨xs, p, c, z, q, r⟩ := h; ⟨xs, p, c, z, s _ _ q, s _ _ r.1, r.2⟩
theorem DAt.ne {H : Hp} {d e a : Addr} (h : DAt H d e) (n : H a = none) : a ≠ d := let ⟨_, z⟩ := h.lst; (ne_of_none z n).symm
theorem DAt.ne2 {H : Hp} {d e a : Addr} (h : DAt H d e) (n : H a = none) : a ≠ e := let ⟨_, z⟩ := h.lst2; (ne_of_none z n).symm
theorem bt_upd {d a : Addr} {H H' : Hp} {o : HO} (b : But d H H') (h : H' a = none) : But d H (upd H' a o) := b.trans (But.of (same_upd h))
/-- a new object of mine is changed -/
theorem bt_own {d a : Addr} {H H' : Hp} {o : HO} (b : But d H H') (h : H a = none) : But d H (upd H' a o) := fun x u e n => by
  rw [upd_ne (ne_of_none e h)]
  exact b x u e n
theorem DAt.own {H : Hp} {d e a : Addr} {o : HO} (h : DAt H d e) (n : a ≠ d) (m : a ≠ e) : DAt (upd H a o) d e := by
  obtain ⟨xs, p, c, z, q, q2, r⟩ := h
  exact ⟨xs, p, c, z, by rw [upd_ne n.symm]; exact q, by rw [upd_ne m.symm]; exact q2, r⟩
theorem mod_nat {z : Int} {m : Nat} (h : 0 < m) : ∃ r : Nat, r < m ∧ z % (m : Int) = (r : Int) := by
  have h1 := Int.emod_nonneg z (show (m : Int) ≠ 0 by omega)
  have h2 := Int.emod_lt_of_pos z (show (0 : Int) < (m : Int) by omega)
  exact ⟨(z % (m : Int)).toNat, by omega, by omega⟩
section
variable {P : Program} {w : World} {K : PySem.W.Frag} {mg : Str → Option Value} {base : Heap}
/-! ### _law_begin -/
abbrev sBegin : Stmt := topS 26
theorem scBegin : FnScope ["_law_script", "_law_seed", "_law_cell"] ["_law_script"] (defScope sBegin) := ⟨rfl, rfl, rfl, by decide +kernel, rfl, by decide +kernel, by decide +kernel⟩
def spBegin (K : PySem.W.Frag) : Sp := fun vs H Q _ => ∃ (a : Addr) (ns : List Int), vs = [.ref a] ∧ SqL K H a (ns.map V.int) ∧ ns.length ≤ 63 ∧ ∀ H' d e, Same H H' → DAt H' d e → Q (.ref d) H'
theorem ok_begin {f : Addr} {fd : FuncData} (F : Fun K "_law_begin" "_law_begin" sBegin f fd) (T : Txt mg) : FnOk P w K mg base CX0 1 f fd ["_law_script"] (spBegin K) := by
  refine F.ok scBegin (fun vs H Q E h => ?_) (fun cdv A outer s H vs Q E hr h => ?_)
  · obtain ⟨a, ns, rfl, _⟩ := h
    rfl
  · obtain ⟨a, ns, rfl, hS, hl, q⟩ := h
    refine ⟨_, pss_cons (ps_set (i := 1) scBegin.nd rfl (.inl rfl) pe_int)
      (pss_cons (ps_for PassesOwn.never rfl (pi_list (pv 0)) (pg_name (i := 2) scBegin.nd rfl (.inl rfl))
        (pss_one (ps_set (i := 1) scBegin.nd rfl (.inl rfl) (pe_op op_mod (pe_op op_add (pe_op op_add (pe_op op_mul (pv 1) pe_int) (pe_op op_mod (pe_callTy call_int1 (by rfl) T.int boot_int (pa_cons (pv 2) pa_nil)) pe_int)) pe_int) pe_int))))
      (pss_one (ps_ret (pe_lst (pa_cons (pe_callTy call_list_of (by rfl) T.list boot_list (pa_cons (pv 0) pa_nil)) (pa_cons pe_int (pa_cons pe_int (pa_cons (pv 1) pa_nil)))))))), ?_⟩
    refine ⟨_, rfl, a, rfl, ⟨_, hS⟩, for_list (xs := ns.map V.int) (fun i σ H' => ∃ (z : Int) (v : Option V), σ = [some (.ref a), some (.int z), v] ∧ H' = H ∧ 0 ≤ z) ⟨1, none, rfl, rfl, by decide⟩ (fun i σ H' _ z => by obtain ⟨_, _, _, e, _⟩ := z; rw [e]; exact hS) ?_ ?_⟩
    · rintro i x σ H1 hx ⟨z, v, rfl, rfl, hz⟩
      obtain ⟨k, rfl⟩ : ∃ k, x = V.int k := by
        rw [List.getElem?_map] at hx
        cases e : ns[i]? with
        | none =>
          rw [e] at hx
          cases hx
        | some k =>
          rw [e] at hx
          exact ⟨k, (Option.some.inj hx).symm⟩
      refine ⟨_, rfl, _, _, rfl, rfl, .inr ⟨by decide, by decide⟩, _, rfl, .inl ⟨_, rfl, _, _, rfl, rfl, (by show (0 : Int) < 2147483629; decide), _, _, rfl, rfl, _, _, rfl, rfl, _, _, rfl, rfl, (by show (0 : Int) < 2147483647; decide), _, _, rfl, rfl, Int.emod_nonneg _ (by decide)⟩⟩
    · rintro σ H1 ⟨z, v, rfl, rfl, hz⟩
      refine ⟨_, rfl, a, _, rfl, .inl hS, fun l hl2 => ⟨_, rfl, (by show 4 ≤ sizeLine; decide), fun d hd => ?_⟩⟩
      have hne : l ≠ d := ne_of_none upd_same hd
      exact q _ d l (sm_upd (same_upd hl2) hd) ⟨ns, 0, 0, z, upd_same, by rw [upd_ne hne]; exact upd_same, hne, hl, by decide, by decide, hz⟩
/-! ### _law_take -/
abbrev sTake : Stmt := topS 27
theorem scTake : FnScope ["_law_d", "_law_many", "_law_small", "_law_digit"] ["_law_d", "_law_many"] (defScope sTake) := ⟨rfl, rfl, rfl, by decide +kernel, rfl, by decide +kernel, by decide +kernel⟩
def spTake : Sp := fun vs H Q _ => ∃ (d e : Addr) (m : Nat), vs = [.ref d, nV m] ∧ DAt H d e ∧ 0 < m ∧ m ≤ 1000000 ∧ ∀ (r : Nat) H', r < m → But d H H' → DAt H' d e → Q (nV r) H'
theorem d_put {H : Hp} {d l : Addr} {xs : List Int} {ys : List V} {p c s : Int} (e : H d = some (.lst ys)) (e2 : H l = some (.lst (xs.map V.int))) (hne : l ≠ d) (hl : xs.length ≤ 63) (h1 : 0 ≤ p) (h2 : 0 ≤ c) (h3 : 0 ≤ s) :
    DAt (upd H d (.lst [.ref l, .int p, .int c, .int s])) d l := ⟨xs, p, c, s, upd_same, by rw [upd_ne hne]; exact e2, hne, hl, h1, h2, h3⟩
theorem bt_d {H H' : Hp} {d : Addr} {o : HO} (b : But d H H') : But d H (upd H' d o) := fun x u e n => by
  rw [upd_ne n]
  exact b x u e n
theorem ok_take {f : Addr} {fd : FuncData} (F : Fun K "_law_take" "_law_take" sTake f fd) (T : Txt mg) : FnOk P w K mg base CX0 1 f fd ["_law_d", "_law_many"] spTake := by
  refine F.ok scTake (fun vs H Q E h => ?_) (fun cdv A outer s H vs Q E hr h => ?_)
  · obtain ⟨d, l, m, rfl, _⟩ := h
    rfl
  · obtain ⟨d, l, m, rfl, D0, hm, hm2, q⟩ := h
    refine ⟨_, C8.pss_cut (ps_if (PW.pt (pw_and (pt_cmpR op_eq (pe_ix ix_list (pv 0) pe_int (fun _ _ => rfl)) pe_int (nomark _)) (pw_and1 (pt_cmpR op_lt (pe_ix ix_list (pv 0) pe_int (fun _ _ => rfl)) (pe_callB call_len_seq (by rfl) T.len PySem.boot_len (pa_cons (pe_ix ix_list (pv 0) pe_int (fun _ _ => rfl)) pa_nil)) (nomark _)))))
        (pss_cons (ps_asg (pe_callB call_abs (by rfl) T.abs boot_abs (pa_cons (pe_callTy call_int1 (by rfl) T.int boot_int (pa_cons (pe_ix ix_list (pe_ix ix_list (pv 0) pe_int (fun _ _ => rfl)) (pe_ix ix_list (pv 0) pe_int (fun _ _ => rfl)) (fun _ _ => rfl)) pa_nil)) pa_nil)) (pg_sub (pv 0) pe_int set_list))
        (pss_cons (ps_asg (pe_op op_add (pe_ix ix_list (pv 0) pe_int (fun _ _ => rfl)) pe_int) (pg_sub (pv 0) pe_int set_list))
        (pss_one (ps_if (pt_cmpR op_lt (pe_ix ix_list (pv 0) pe_int (fun _ _ => rfl)) (pe_op op_pow pe_int pe_int) (nomark _))
          (pss_cons (ps_set (i := 2) scTake.nd rfl (.inl rfl) (pe_callTy call_int1 (by rfl) T.int boot_int (pa_cons (pe_ix ix_list (pv 0) pe_int (fun _ _ => rfl)) pa_nil)))
          (pss_cons (ps_asg pe_int (pg_sub (pv 0) pe_int set_list))
          (pss_one (ps_ret (pe_op op_mod (pv 2) (pv 1)))))) pss_nil)))) pss_nil)
      (pss_cons (ps_if (pt_cmpR op_gt (pe_ix ix_list (pv 0) pe_int (fun _ _ => rfl)) pe_int (nomark _))
        (pss_cons (ps_set (i := 3) scTake.nd rfl (.inl rfl) (pe_op op_mod (pe_callTy call_int1 (by rfl) T.int boot_int (pa_cons (pe_ix ix_list (pv 0) pe_int (fun _ _ => rfl)) pa_nil)) (pv 1)))
        (pss_cons (ps_asg (pe_op op_fdiv (pe_callTy call_int1 (by rfl) T.int boot_int (pa_cons (pe_ix ix_list (pv 0) pe_int (fun _ _ => rfl)) pa_nil)) (pv 1)) (pg_sub (pv 0) pe_int set_list))
        (pss_one (ps_ret (pv 3))))) pss_nil)
      (pss_cons (ps_asg (pe_op op_mod (pe_callTy call_int1 (by rfl) T.int boot_int (pa_cons (pe_op op_add (pe_op op_mul (pe_ix ix_list (pv 0) pe_int (fun _ _ => rfl)) pe_int) pe_int) pa_nil)) pe_int) (pg_sub (pv 0) pe_int set_list))
      (pss_one (ps_ret (pe_op op_mod (pe_callTy call_int1 (by rfl) T.int boot_int (pa_cons (pe_op op_fdiv (pe_ix ix_list (pv 0) pe_int (fun _ _ => rfl)) pe_int) pa_nil)) (pv 1)))))), ?_⟩
    obtain ⟨xs, p, c, sd, hd, hL, hne, hl, h1, h2, h3⟩ := id D0
    refine ⟨fun σ' H' => σ' = [some (.ref d), some (nV m), none, none] ∧ But d H H' ∧ DAt H' d l, ?_, ?_⟩
    · refine ⟨_, rfl, d, _, _, _, rfl, rfl, SqL.of hd, rfl, rfl, _, rfl, ?_⟩
      refine ite2 (fun e1 => ?_) (fun _ => iteF ⟨rfl, But.refl d H, D0⟩)
      refine ⟨_, rfl, d, _, _, _, rfl, rfl, SqL.of hd, rfl, _, rfl, d, _, _, _, rfl, rfl, SqL.of hd, rfl, l, _, rfl, .inl (SqL.of hL), _, _, rfl, rfl, _, rfl, ?_⟩
      refine ite2 (fun e2 => ?_) (fun _ => ⟨rfl, But.refl d H, D0⟩)
      have e2 : p < (xs.length : Int) := by
        have := of_decide_eq_true e2
        rw [List.length_map] at this
        exact this
      have hpl : p.toNat < xs.length := by omega
      have hx : (xs.map V.int)[p.toNat]? = some (V.int xs[p.toNat]) := by
        rw [List.getElem?_map, List.getElem?_eq_getElem hpl] <;> rfl
      -- d[2] = abs(..)
      refine ⟨_, rfl, d, _, _, _, rfl, rfl, SqL.of hd, rfl, _, rfl, d, _, _, _, rfl, rfl, SqL.of hd, rfl, l, _, _, _, rfl, rfl, SqL.of hL, at_of (j := p.toNat) (by omega) hx, .inl ⟨_, rfl, _, rfl, _, rfl, d, _, _, 2, rfl, rfl, hd, rfl, ?_⟩⟩
      have ha : 0 ≤ (if xs[p.toNat] < 0 then -xs[p.toNat] else xs[p.toNat]) := by
        by_cases z : xs[p.toNat] < 0
        · rw [if_pos z]
          omega
        · rw [if_neg z]
          omega
      revert ha
      generalize (if xs[p.toNat] < 0 then -xs[p.toNat] else xs[p.toNat]) = y
      intro hy
      have hd1 : (upd H d (.lst [.ref l, .int p, .int y, .int sd])) d = some (.lst [.ref l, .int p, .int y, .int sd]) := upd_same
      -- d[1] = d[1] + 1
      refine ⟨_, rfl, d, _, _, _, rfl, rfl, SqL.of hd1, rfl, _, _, rfl, rfl, _, rfl, d, _, _, 1, rfl, rfl, hd1, rfl, ?_⟩
      have hd2 : (upd (upd H d (.lst [.ref l, .int p, .int y, .int sd])) d (.lst [.ref l, .int (p + 1), .int y, .int sd])) d = some (.lst [.ref l, .int (p + 1), .int y, .int sd]) := upd_same
      refine ⟨_, rfl, d, _, _, _, rfl, rfl, SqL.of hd2, rfl, _, _, rfl, rfl, ⟨by decide, by decide, by decide⟩, _, _, rfl, rfl, _, rfl, ?_⟩
      refine ite2 (fun e3 => ?_) (fun _ => ?_)
      · refine ⟨_, rfl, d, _, _, _, rfl, rfl, SqL.of hd2, rfl, .inl ⟨_, rfl, _, rfl, d, _, _, 2, rfl, rfl, hd2, rfl, _, rfl, _, rfl, _, _, rfl, rfl, by omega, ?_⟩⟩
        obtain ⟨r, hr1, hr2⟩ := mod_nat (z := y) hm
        show Q (.int (y % (m : Int))) _
        rw [hr2]
        exact q r _ hr1 (bt_d (bt_d (bt_d (But.refl d H)))) (d_put (xs := xs) hd2 (by rw [upd_ne hne, upd_ne hne]; exact hL) hne hl (by omega) (by decide) h3)
      · refine ⟨rfl, bt_d (bt_d (But.refl d H)), d_put (xs := xs) hd1 (by rw [upd_ne hne]; exact hL) hne hl (by omega) hy h3⟩
    · rintro σ' H1 ⟨rfl, b1, D1⟩
      obtain ⟨xs, p, c, sd, hd, hL, hne, hl, h1, h2, h3⟩ := id D1
      refine ⟨_, rfl, d, _, _, _, rfl, rfl, SqL.of hd, rfl, _, _, rfl, rfl, _, rfl, ?_⟩
      refine ite2 (fun e1 => ?_) (fun _ => ?_)
      · refine ⟨_, rfl, d, _, _, _, rfl, rfl, SqL.of hd, rfl, .inl ⟨_, rfl, _, rfl, _, _, rfl, rfl, by omega, ?_⟩⟩
        refine ⟨_, rfl, d, _, _, _, rfl, rfl, SqL.of hd, rfl, .inl ⟨_, rfl, _, rfl, _, _, rfl, rfl, ⟨by omega, by omega⟩, _, rfl, d, _, _, 2, rfl, rfl, hd, rfl, _, rfl, ?_⟩⟩
        obtain ⟨r, hr1, hr2⟩ := mod_nat (z := c) hm
        show Q (.int (c % (m : Int))) _
        rw [hr2]
        exact q r _ hr1 (bt_d b1) (d_put (xs := xs) hd hL hne hl h1 (Int.ediv_nonneg h2 (by omega)) h3)
      · refine ⟨_, rfl, d, _, _, _, rfl, rfl, SqL.of hd, rfl, _, _, rfl, rfl, .inr ⟨by decide, by decide⟩, _, _, rfl, rfl, .inl ⟨_, rfl, _, _, rfl, rfl, (by show (0 : Int) < 2147483647; decide), _, rfl, d, _, _, 3, rfl, rfl, hd, rfl, ?_⟩⟩
        have hn : 0 ≤ (sd * 48271 + 11) % 2147483647 := Int.emod_nonneg _ (by decide)
        have hd1 : (upd H1 d (.lst [.ref l, .int p, .int c, .int ((sd * 48271 + 11) % 2147483647)])) d = some (.lst [.ref l, .int p, .int c, .int ((sd * 48271 + 11) % 2147483647)]) := upd_same
        refine ⟨_, rfl, d, _, _, _, rfl, rfl, SqL.of hd1, rfl, _, _, rfl, rfl, ⟨by decide, by decide⟩, .inl ⟨_, rfl, _, rfl, _, _, rfl, rfl, by omega, ?_⟩⟩
        obtain ⟨r, hr1, hr2⟩ := mod_nat (z := ((sd * 48271 + 11) % 2147483647) / 3) hm
        show Q (.int (((sd * 48271 + 11) % 2147483647) / 3 % (m : Int))) _
        rw [hr2]
        exact q r _ hr1 (bt_d b1) (d_put (xs := xs) hd hL hne hl h1 h2 hn)
end
end Sh
namespace Sh
open PySem PySem.Spec L2 M31
open PyProof.Rows hiding St
theorem cut_nn (l : List Nat) (a b : Nat) : cutS (S l) (some (a : Int)) (some (b : Int)) = S ((l.drop (min a l.length)).take (min b l.length - min a l.length)) := by
  unfold cutS
  rw [S_len, HT.sIx_nat, HT.sIx_nat]
theorem sq_but {K : PySem.W.Frag} {H H' : Hp} {d e a : Addr} {xs : List V} (h : SqT K H a xs) (D : DAt H d e) (b : But d H H') : SqT K H' a xs := D.kt b _ _ h
section
variable {P : Program} {w : World} {K : PySem.W.Frag} {mg : Str → Option Value} {base : Heap}
/-! ### _law_letters -/
abbrev sLet : Stmt := topS 28
def retStr (s : Stmt) : Str := match defBody s with
  | [.Return (some (.Constant (.str x) _ _)) _] => x
  | _ => Str.empty
theorem scLet : FnScope [] [] (defScope sLet) := ⟨rfl, rfl, rfl, by decide +kernel, rfl, by decide +kernel, by decide +kernel⟩
def spLet : Sp := fun vs H Q _ => vs = [] ∧ ∀ l : List Nat, 85 ≤ l.length → l.length ≤ 1000 → Q (sV l) H
theorem ok_let {f : Addr} {fd : FuncData} (F : Fun K "_law_letters" "_law_letters" sLet f fd) : FnOk P w K mg base CX0 1 f fd [] spLet := by
  refine F.ok scLet (fun vs H Q E h => ?_) (fun cdv A outer s H vs Q E hr h => ?_)
  · obtain ⟨rfl, _⟩ := h
    rfl
  · obtain ⟨rfl, q⟩ := h
    refine ⟨_, pss_one (ps_ret pe_str), ?_⟩
    show Q (.str (retStr sLet)) H
    rw [← SX.S_tl (retStr sLet)]
    exact q _ (by decide +kernel) (by decide +kernel)
/-! ### _law_signs -/
abbrev sSigns : Stmt := topS 29
theorem scSigns : FnScope ["_law_d", "_law_menu", "_law_signs_here", "_law_at"] ["_law_d"] (defScope sSigns) := ⟨rfl, rfl, rfl, by decide +kernel, rfl, by decide +kernel, by decide +kernel⟩
def spSigns : Sp := fun vs H Q _ => ∃ d e : Addr, vs = [.ref d] ∧ DAt H d e ∧ ∀ (l : List Nat) H', l ≠ [] → l.length ≤ 10 → But d H H' → DAt H' d e → Q (sV l) H'
def menu : List V := [.str "ab", .str "abc", .str "ba", .str "zy0", .str "+A", .str "abcd"]
def okS (v : V) : Bool := match v with
  | .str x => decide (0 < x.cps.toList.length) && decide (x.cps.toList.length ≤ 10)
  | _ => false
theorem menu_at {r : Nat} (h : r < 6) : ∃ l : List Nat, menu[r]? = some (sV l) ∧ l ≠ [] ∧ l.length ≤ 10 := by
  have hl : r < menu.length := h
  have h1 : menu.all okS = true := by decide +kernel
  have h2 := List.all_eq_true.mp h1 _ (List.getElem_mem hl)
  rw [List.getElem?_eq_getElem hl]
  revert h2
  generalize menu[r] = v
  intro h2
  cases v with
  | str x =>
    have h2 : (decide (0 < x.cps.toList.length) && decide (x.cps.toList.length ≤ 10)) = true := h2
    rw [Bool.and_eq_true, decide_eq_true_eq, decide_eq_true_eq] at h2
    exact ⟨x.cps.toList, by rw [sV, S, SX.S_tl], List.length_pos_iff.mp h2.1, h2.2⟩
  | _ => cases h2
theorem ok_signs {f : Addr} {fd : FuncData} (F : Fun K "_law_signs" "_law_signs" sSigns f fd) (CT : Cal P w K mg base 1 "_law_take" spTake) (CL : Cal P w K mg base 1 "_law_letters" spLet) : FnOk P w K mg base CX0 2 f fd ["_law_d"] spSigns := by
  refine F.ok scSigns (fun vs H Q E h => ?_) (fun cdv A outer s H vs Q E hr h => ?_)
  · obtain ⟨d, e, rfl, _⟩ := h
    rfl
  · obtain ⟨d, e, rfl, D0, q⟩ := h
    refine ⟨_, pss_cons (ps_set (i := 1) scSigns.nd rfl (.inl rfl) (pe_tup (pa_cons pe_str (pa_cons pe_str (pa_cons pe_str (pa_cons pe_str (pa_cons pe_str (pa_cons pe_str pa_nil))))))))
      (pss_cons (ps_set (i := 2) scSigns.nd rfl (.inl rfl) (pe_ix ix_tup (pv 1) (pe_c CT hr (by decide) (by rfl) (pa_cons (pv 0) (pa_cons pe_int pa_nil))) (fun _ _ => rfl)))
      (pss_cons (ps_if (pt_cmpR op_eq (pe_c CT hr (by decide) (by rfl) (pa_cons (pv 0) (pa_cons pe_int pa_nil))) pe_int (nomark _))
        (pss_cons (ps_set (i := 3) scSigns.nd rfl (.inl rfl) (pe_c CT hr (by decide) (by rfl) (pa_cons (pv 0) (pa_cons pe_int pa_nil))))
        (pss_one (ps_set (i := 2) scSigns.nd rfl (.inl rfl) (pe_slice sl_str (pe_c0 CL hr (by decide) (by rfl)) (po_some (pv 3)) (po_some (pe_op op_add (pe_op op_add (pv 3) pe_int) (pe_c CT hr (by decide) (by rfl) (pa_cons (pv 0) (pa_cons pe_int pa_nil))))))))) pss_nil)
      (pss_one (ps_ret (pv 2))))), ?_⟩
    refine ⟨(by show 6 ≤ sizeLine; decide), fun t ht => ?_⟩
    have hT : SqT K (upd H t (.tup menu)) t menu := SqT.of upd_same
    have s1 : Same H (upd H t (.tup menu)) := same_upd ht
    have D1 := D0.same s1
    refine ⟨_, rfl, _, rfl, d, e, 6, rfl, D1, by decide, by decide, fun r H2 hr2 b2 D2 => ?_⟩
    obtain ⟨l, hl, ne, le⟩ := menu_at hr2
    have b2' : But d H H2 := (But.of s1).trans b2
    refine ⟨t, menu, _, _, rfl, rfl, sq_but hT D1 b2, at_nat hl, ?_⟩
    refine ⟨_, rfl, d, e, 4, rfl, D2, by decide, by decide, fun r3 H3 hr3 b3 D3 => ⟨rfl, _, rfl, ?_⟩⟩
    refine ite2 (fun _ => ?_) (fun _ => ?_)
    · refine ⟨_, rfl, d, e, 80, rfl, D3, by decide, by decide, fun a H4 ha b4 D4 => ?_⟩
      refine ⟨rfl, fun ls l1 l2 => ⟨_, rfl, _, rfl, _, rfl, _, _, rfl, rfl, _, rfl, d, e, 5, rfl, D4, by decide, by decide, fun r5 H5 hr5 b5 D5 => ⟨_, _, rfl, rfl, _, rfl, _, rfl, S_big (by omega), ?_⟩⟩⟩
      rw [show ((a : Int) + 1 + (r5 : Int)) = ((a + 1 + r5 : Nat) : Int) by omega, cut_nn]
      refine ⟨_, rfl, q _ H5 ?_ ?_ (b2'.trans (b3.trans (b4.trans b5))) D5⟩
      · intro z
        have := congrArg List.length z
        rw [List.length_take, List.length_drop] at this
        simp only [List.length_nil] at this
        omega
      · rw [List.length_take, List.length_drop]
        omega
    · exact ⟨_, rfl, q l H3 ne le (b2'.trans b3) D3⟩
/-! ### _law_text -/
abbrev sText : Stmt := topS 30
theorem scText : FnScope ["_law_d", "_law_signs_here", "_law_size", "_law_k"] ["_law_d", "_law_signs_here", "_law_size"] (defScope sText) := ⟨rfl, rfl, rfl, by decide +kernel, rfl, by decide +kernel, by decide +kernel⟩
def spText : Sp := fun vs H Q _ => ∃ (d e : Addr) (l : List Nat) (n : Nat), vs = [.ref d, sV l, nV n] ∧ DAt H d e ∧ l ≠ [] ∧ l.length ≤ 10 ∧ n ≤ 1000 ∧ ∀ (t : List Nat) H', t.length = n → But d H H' → DAt H' d e → Q (sV t) H'
theorem ok_text {f : Addr} {fd : FuncData} (F : Fun K "_law_text" "_law_text" sText f fd) (T : Txt mg) (CT : Cal P w K mg base 1 "_law_take" spTake) : FnOk P w K mg base CX0 2 f fd ["_law_d", "_law_signs_here", "_law_size"] spText := by
  refine F.ok scText (fun vs H Q E h => ?_) (fun cdv A outer s H vs Q E hr h => ?_)
  · obtain ⟨d, e, l, n, rfl, _⟩ := h
    rfl
  · obtain ⟨d, e, l, n, rfl, D0, ne, le, hn, q⟩ := h
    have hl0 : 0 < l.length := List.length_pos_iff.mpr ne
    refine ⟨_, pss_one (ps_ret (pe_bm PySem.F.plainAttrs_str PySem.F.slot_str_join PySem.F.type_str_join mt_join pe_str (pa_cons
      (pe_lc (own := [("_law_k", 3)]) (g := gName 3) (tt := tYes) rfl scText.nd (pi_range1 (by rfl) T.range (pa_cons (pv 2) pa_nil)) (blkOk_by (N := ["_law_d", "_law_signs_here", "_law_size", "_law_k"]) (sc := defScope sText) (by decide +kernel))
        (fun _ _ _ _ _ => pg_name (i := 3) scText.nd rfl (Or.inl rfl)) (fun _ _ _ _ _ => pts_nil)
        (fun _ _ _ _ _ => pe_ix ix_str (pv 1) (pe_c CT hr (by decide) (by rfl) (pa_cons (pv 0) (pa_cons (pe_callB call_len_str (by rfl) T.len PySem.boot_len (pa_cons (pv 1) pa_nil)) pa_nil))) (fun _ _ => rfl))) pa_nil))), ?_⟩
    refine ⟨rfl, _, rfl, (n : Int), rfl, by omega, by omega, fun L hL => lc_rangeN (n := n) (fun i H' => But d H H' ∧ DAt H' d e ∧ ∃ t : List Nat, H' L = some (.lst (t.map fun x => sV (one x))) ∧ t.length = i) ⟨But.of (same_upd hL), D0.same (same_upd hL), [], upd_same, rfl⟩ ?_ ?_⟩
    · rintro i H1 hi ⟨b1, D1, t, h1, ht⟩
      have hne : L ≠ d := D0.ne hL
      refine ⟨rfl, _, rfl, _, rfl, _, rfl, S l, rfl, S_big (by omega), d, e, l.length, (by rw [S_len] <;> rfl), D1, hl0, by omega, fun r H2 hr2 b2 D2 => ?_⟩
      refine ⟨S l, _, l.getD r 0, rfl, rfl, S_big (by omega), at_S hr2, _, b2 _ _ h1 hne, ?_, bt_own (b1.trans b2) hL, D2.own hne (D0.ne2 hL), t ++ [l.getD r 0], ?_, ?_⟩
      · rw [List.length_map]
        exact bigl (by omega)
      · rw [upd_same, List.map_append] <;> rfl
      · rw [List.length_append, ht] <;> rfl
    · rintro H1 ⟨b1, D1, t, h1, ht⟩
      rw [ones_V] at h1
      refine ⟨S [], L, (t.map one).map S, rfl, rfl, .inl (SqL.of h1), ?_, ?_⟩
      · rw [ones_len, S_len]
        show t.length + _ * 0 ≤ _
        omega
      · rw [join_S1]
        exact q t H1 ht b1 D1
end
end Sh
namespace Sh
open PySem PySem.Spec L2 M31
open PyProof.Rows hiding St
section
variable {P : Program} {w : World} {K : PySem.W.Frag} {mg : Str → Option Value} {base : Heap}
/-! ### _law_rich -/
abbrev sRich : Stmt := topS 31
theorem scRich : FnScope ["_law_d", "_law_signs_here", "_law_size", "_law_text_here", "_law_menu", "_law_at"] ["_law_d", "_law_signs_here", "_law_size"] (defScope sRich) := ⟨rfl, rfl, rfl, by decide +kernel, rfl, by decide +kernel, by decide +kernel⟩
def spRich : Sp := fun vs H Q _ => ∃ (d e : Addr) (l : List Nat) (n : Nat), vs = [.ref d, sV l, nV n] ∧ DAt H d e ∧ l ≠ [] ∧ l.length ≤ 10 ∧ 1 ≤ n ∧ n ≤ 10 ∧ ∀ (t : List Nat) H', t.length = n → But d H H' → DAt H' d e → Q (sV t) H'
def richM (n : Nat) (σ : St) : Nat := match σ with
  | [_, _, _, some (.str x), _, _] => n - x.cps.toList.length
  | _ => 0
theorem ok_rich {f : Addr} {fd : FuncData} (F : Fun K "_law_rich" "_law_rich" sRich f fd) (T : Txt mg) (CT : Cal P w K mg base 1 "_law_take" spTake) (CX : Cal P w K mg base 2 "_law_text" spText) : FnOk P w K mg base CX0 3 f fd ["_law_d", "_law_signs_here", "_law_size"] spRich := by
  refine F.ok scRich (fun vs H Q E h => ?_) (fun cdv A outer s H vs Q E hr h => ?_)
  · obtain ⟨d, e, l, n, rfl, _⟩ := h
    rfl
  · obtain ⟨d, e, l, n, rfl, D0, ne, le, hn1, hn, q⟩ := h
    have hl0 : 0 < l.length := List.length_pos_iff.mpr ne
    refine ⟨_, pss_cons (ps_set (i := 3) scRich.nd rfl (.inl rfl) (pe_c CX hr (by decide) (by rfl) (pa_cons (pv 0) (pa_cons (pv 1) (pa_cons (pe_op op_add pe_int (pe_c CT hr (by decide) (by rfl) (pa_cons (pv 0) (pa_cons pe_int pa_nil)))) pa_nil)))))
      (pss_cons (ps_while PassesOwn.never (pt_cmpR op_lt (pe_callB call_len_str (by rfl) T.len PySem.boot_len (pa_cons (pv 3) pa_nil)) (pv 2) (nomark _))
        (pss_cons (ps_set (i := 4) scRich.nd rfl (.inl rfl) (pe_c CT hr (by decide) (by rfl) (pa_cons (pv 0) (pa_cons pe_int pa_nil))))
        (pss_one (ps_if (pt_cmpR op_eq (pv 4) pe_int (nomark _)) (pss_one (ps_set (i := 3) scRich.nd rfl (.inl rfl) (pe_op op_add_str (pv 3) (pv 3))))
          (pss_one (ps_if (pt_cmpR op_eq (pv 4) pe_int (nomark _))
            (pss_cons (ps_set (i := 5) scRich.nd rfl (.inl rfl) (pe_c CT hr (by decide) (by rfl) (pa_cons (pv 0) (pa_cons (pe_callB call_len_str (by rfl) T.len PySem.boot_len (pa_cons (pv 3) pa_nil)) pa_nil))))
            (pss_one (ps_set (i := 3) scRich.nd rfl (.inl rfl) (pe_op op_add_str (pv 3) (pe_slice sl_str (pv 3) (po_some (pv 5)) (po_some (pe_op op_add (pv 5) pe_int)))))))
            (pss_one (ps_set (i := 3) scRich.nd rfl (.inl rfl) (pe_op op_add_str (pv 3) (pe_ix ix_str (pv 1) (pe_c CT hr (by decide) (by rfl) (pa_cons (pv 0) (pa_cons (pe_callB call_len_str (by rfl) T.len PySem.boot_len (pa_cons (pv 1) pa_nil)) pa_nil))) (fun _ _ => rfl)))))))))))
      (pss_one (ps_ret (pe_slice sl_str (pv 3) po_none (po_some (pv 2)))))), ?_⟩
    refine ⟨_, rfl, _, rfl, _, rfl, d, e, 4, rfl, D0, by decide, by decide, fun r H1 hr1 b1 D1 => ⟨_, _, rfl, rfl, d, e, l, 1 + r, rfl, D1, ne, le, by omega, fun t0 H2 ht0 b2 D2 => ?_⟩⟩
    refine while_by (fun σ H' => ∃ (t : List Nat) (vm va : Option V), σ = [some (.ref d), some (sV l), some (nV n), some (sV t), vm, va] ∧ But d H H' ∧ DAt H' d e ∧ 0 < t.length ∧ t.length ≤ 30) (fun σ _ => richM n σ) ⟨t0, none, none, rfl, b1.trans b2, D2, by omega, by omega⟩ ?_ ?_
    · rintro σ H3 ⟨t, vm, va, rfl, b3, D3, ht1, ht2⟩
      refine ⟨_, rfl, _, rfl, S_big (by omega), _, rfl, _, _, rfl, rfl, _, rfl, ?_⟩
      refine ite2 (fun e1 => ?_) (fun e1 => ?_)
      · have e1 : t.length < n := by
          have := of_decide_eq_true e1
          rw [S_len] at this
          omega
        have done : ∀ (u : List Nat) (x y : Option V) H', But d H H' → DAt H' d e → 0 < u.length → u.length ≤ 20 →
            (∃ (t' : List Nat) (vm' va' : Option V), ([some (.ref d), some (sV l), some (nV n), some (sV (t ++ u)), x, y] : St) = [some (.ref d), some (sV l), some (nV n), some (sV t'), vm', va'] ∧ But d H H' ∧ DAt H' d e ∧ 0 < t'.length ∧ t'.length ≤ 30) ∧ richM n [some (.ref d), some (sV l), some (nV n), some (sV (t ++ u)), x, y] < richM n [some (.ref d), some (sV l), some (nV n), some (sV t), vm, va] := fun u x y H' b D h1 h2 => by
          refine ⟨⟨t ++ u, x, y, rfl, b, D, ?_, ?_⟩, ?_⟩
          · rw [List.length_append]
            omega
          · rw [List.length_append]
            omega
          · show n - (t ++ u).length < n - t.length
            rw [List.length_append]
            omega
        refine ⟨_, rfl, d, e, 3, rfl, D3, by decide, by decide, fun r3 H4 hr3 b4 D4 => ?_⟩
        refine ⟨_, rfl, rfl, _, rfl, ?_⟩
        refine ite2 (fun _ => ?_) (fun _ => ?_)
        · refine ⟨_, rfl, _, rfl, _, _, rfl, rfl, big (by rw [S_len]; omega), ?_⟩
          rw [SX.S_cat]
          exact done t _ _ H4 (b3.trans b4) D4 ht1 (by omega)
        refine ⟨_, rfl, rfl, _, rfl, ?_⟩
        refine ite2 (fun _ => ?_) (fun _ => ?_)
        · refine ⟨_, rfl, _, rfl, _, rfl, S_big (by omega), d, e, t.length, (by rw [S_len] <;> rfl), D4, ht1, by omega, fun a H5 ha b5 D5 => ?_⟩
          refine ⟨_, rfl, _, rfl, _, rfl, _, rfl, _, rfl, _, _, rfl, rfl, _, rfl, _, rfl, S_big (by omega), ?_⟩
          rw [show ((a : Int) + 3) = ((a + 3 : Nat) : Int) by omega, cut_nn]
          refine ⟨_, _, rfl, rfl, big ?_, ?_⟩
          · rw [S_len, S_len, List.length_take, List.length_drop]
            omega
          · rw [SX.S_cat]
            refine done _ _ _ H5 (b3.trans (b4.trans b5)) D5 ?_ ?_
            · rw [List.length_take, List.length_drop]
              omega
            · rw [List.length_take, List.length_drop]
              omega
        · refine ⟨_, rfl, _, rfl, _, rfl, _, rfl, _, rfl, S_big (by omega), d, e, l.length, (by rw [S_len] <;> rfl), D4, hl0, by omega, fun a H5 ha b5 D5 => ?_⟩
          refine ⟨S l, _, l.getD a 0, rfl, rfl, S_big (by omega), at_S ha, _, _, rfl, rfl, big ?_, ?_⟩
          · rw [S_len]
            show t.length + 1 ≤ _
            omega
          · show _
            rw [show (S t ++ (⟨#[l.getD a 0]⟩ : Str)) = S (t ++ [l.getD a 0]) from SX.S_cat t [l.getD a 0]]
            exact done [l.getD a 0] _ _ H5 (b3.trans (b4.trans b5)) D5 (by show 0 < 1; decide) (by show 1 ≤ 20; decide)
      · have e1 : n ≤ t.length := by
          have : ¬ (((S t).length : Int) < (n : Int)) := fun z => e1 (decide_eq_true z)
          rw [S_len] at this
          omega
        refine ⟨_, rfl, _, rfl, _, rfl, _, rfl, S_big (by omega), ?_⟩
        rw [cut_to (by omega)]
        refine q _ H3 ?_ b3 D3
        rw [List.length_take]
        omega
    · rintro σ H' Q1 Q2 hq ⟨v, e1, z, e2, e3, v2, e4, i, j, e5, e6, k, e7, h⟩
      exact ⟨v, e1, z, e2, e3, v2, e4, i, j, e5, e6, k, e7, hq _ _ h⟩
/-! ### _law_pieces_of -/
abbrev sPcs : Stmt := topS 33
abbrev nPcs : List Str := ["_law_d", "_law_circle", "_law_signs_here", "_law_pieces", "_law_at", "_law_size", "_law_k", "_law_turn"]
theorem scPcs : FnScope nPcs ["_law_d", "_law_circle", "_law_signs_here"] (defScope sPcs) := ⟨rfl, rfl, rfl, by decide +kernel, rfl, by decide +kernel, by decide +kernel⟩
/-- pieces as the law makes them -/
def Pcs (ls : List (List Nat)) : Prop := ∀ x ∈ ls, x ≠ [] ∧ x.length ≤ 7
theorem Pcs.app {a b : List (List Nat)} (h1 : Pcs a) (h2 : Pcs b) : Pcs (a ++ b) := fun x hx => (List.mem_append.mp hx).elim (h1 x) (h2 x)
def spPcs (K : PySem.W.Frag) : Sp := fun vs H Q _ => ∃ (d e : Addr) (c l : List Nat), vs = [.ref d, sV c, sV l] ∧ DAt H d e ∧ c ≠ [] ∧ c.length ≤ 10 ∧ l ≠ [] ∧ l.length ≤ 10 ∧
  ∀ (ls : List (List Nat)) v H', ls ≠ [] → ls.length ≤ 20 → Pcs ls → But d H H' → DAt H' d e → TxT K H' v ls → Q v H'
def pcsM (n : Nat) (σ : St) : Nat := match σ with
  | [_, _, _, _, some (.int a), _, _, _] => n - a.toNat
  | _ => 0
theorem cutV_some (xs : List V) (a : Nat) : cutV xs (some (a : Int)) none = xs.drop (min a xs.length) := by
  unfold cutV
  rw [HT.sIx_nat, HT.sIx_none]
  exact List.take_of_length_le (by rw [List.length_drop]; exact Nat.le_refl _)
theorem cutV_to (xs : List V) (a : Nat) : cutV xs none (some (a : Int)) = xs.take (min a xs.length) := by
  unfold cutV
  rw [HT.sIx_nat, HT.sIx_none, List.drop_zero, Nat.sub_zero]
theorem ok_pcs {f : Addr} {fd : FuncData} (F : Fun K "_law_pieces_of" "_law_pieces_of" sPcs f fd) (T : Txt mg) (CT : Cal P w K mg base 1 "_law_take" spTake) (CX : Cal P w K mg base 2 "_law_text" spText) (CR : Cal P w K mg base 1 "_law_round" spRound) :
    FnOk P w K mg base CX0 3 f fd ["_law_d", "_law_circle", "_law_signs_here"] (spPcs K) := by
  refine F.ok scPcs (fun vs H Q E h => ?_) (fun cdv A outer s H vs Q E hr h => ?_)
  · obtain ⟨d, e, c, l, rfl, _⟩ := h
    rfl
  · obtain ⟨d, e, c, l, rfl, D0, hc, hcl, ne, le, q⟩ := h
    have hc0 : 0 < c.length := List.length_pos_iff.mpr hc
    refine ⟨_, pss_cons (ps_set (i := 3) scPcs.nd rfl (.inl rfl) (pe_lst pa_nil))
      (pss_cons (ps_set (i := 4) scPcs.nd rfl (.inl rfl) pe_int)
      (pss_cons (ps_while PassesOwn.never (pt_cmpR op_lt (pv 4) (pe_callB call_len_str (by rfl) T.len PySem.boot_len (pa_cons (pv 1) pa_nil)) (nomark _))
        (pss_cons (ps_set (i := 5) scPcs.nd rfl (.inl rfl) (pe_op op_add pe_int (pe_c CT hr (by decide) (by rfl) (pa_cons (pv 0) (pa_cons pe_int pa_nil)))))
        (pss_cons (ps_expr (pe_bm PySem.F.plainAttrs_list PySem.F.slot_list_append PySem.F.type_list_append mt_append (pv 3) (pa_cons (pe_c CR hr (by decide) (by rfl) (pa_cons (pv 1) (pa_cons (pv 4) (pa_cons (pv 5) pa_nil)))) pa_nil)))
        (pss_one (ps_set (i := 4) scPcs.nd rfl (.inl rfl) (pe_op op_add (pe_op op_add (pv 4) pe_int) (pe_c CT hr (by decide) (by rfl) (pa_cons (pv 0) (pa_cons pe_int pa_nil)))))))))
      (pss_cons (ps_for PassesOwn.never rfl (pi_range1 (by rfl) T.range (pa_cons (pe_c CT hr (by decide) (by rfl) (pa_cons (pv 0) (pa_cons pe_int pa_nil))) pa_nil)) (pg_name (i := 6) scPcs.nd rfl (.inl rfl))
        (pss_one (ps_expr (pe_bm PySem.F.plainAttrs_list PySem.F.slot_list_append PySem.F.type_list_append mt_append (pv 3) (pa_cons (pe_c CX hr (by decide) (by rfl) (pa_cons (pv 0) (pa_cons (pv 2) (pa_cons (pe_op op_add pe_int (pe_c CT hr (by decide) (by rfl) (pa_cons (pv 0) (pa_cons pe_int pa_nil)))) pa_nil)))) pa_nil)))))
      (pss_cons (ps_set (i := 7) scPcs.nd rfl (.inl rfl) (pe_c CT hr (by decide) (by rfl) (pa_cons (pv 0) (pa_cons (pe_callB call_len_seq (by rfl) T.len PySem.boot_len (pa_cons (pv 3) pa_nil)) pa_nil))))
      (pss_one (ps_ret (pe_callTy call_tuple_of (by rfl) T.tuple boot_tuple (pa_cons (pe_op op_cat (pe_slice sl_list (pv 3) (po_some (pv 7)) po_none) (pe_slice sl_list (pv 3) po_none (po_some (pv 7)))) pa_nil)))))))), ?_⟩
    refine ⟨Nat.zero_le _, fun L hL => ?_⟩
    have hLd := D0.ne hL
    have hLe := D0.ne2 hL
    refine while_by (fun σ H' => ∃ (a : Nat) (vs : Option V) (ls : List (List Nat)), σ = [some (.ref d), some (sV c), some (sV l), some (.ref L), some (nV a), vs, none, none] ∧ But d H H' ∧ DAt H' d e ∧ H' L = some (.lst (ls.map sV)) ∧ ls.length ≤ a ∧ Pcs ls ∧ (0 < a → ls ≠ []) ∧ ls.length ≤ 10) (fun σ _ => pcsM c.length σ)
      ⟨0, none, [], rfl, But.of (same_upd hL), D0.same (same_upd hL), upd_same, Nat.le_refl _, (fun x hx => by cases hx), fun z => absurd z (Nat.lt_irrefl _), Nat.zero_le _⟩ ?_ ?_
    · rintro σ H1 ⟨a, vs, ls, rfl, b1, D1, h1, hla, hp, hne, hl10⟩
      refine ⟨_, rfl, _, rfl, _, rfl, S_big (by omega), _, _, rfl, rfl, _, rfl, ?_⟩
      refine ite2 (fun e1 => ?_) (fun e1 => ?_)
      · have e1 : a < c.length := by
          have := of_decide_eq_true e1
          rw [S_len] at this
          omega
        refine ⟨_, rfl, d, e, 6, rfl, D1, by decide, by decide, fun r H2 hr2 b2 D2 => ⟨_, _, rfl, rfl, ?_⟩⟩
        have h2 := b2 _ _ h1 hLd
        refine ⟨_, rfl, .inl ⟨rfl, _, SqL.of h2⟩, _, rfl, _, rfl, _, rfl, c, a, 2 + r, rfl, hc, by omega, by omega, fun H3 s3 => ?_⟩
        have h3 := s3 _ _ h2
        refine ⟨L, ls.map sV, _, rfl, rfl, h3, ?_, ?_⟩
        · rw [List.length_map]
          exact bigl (by omega)
        have D3 : DAt (upd H3 L (.lst (ls.map sV ++ [sV (rr c a (2 + r))]))) d e := (D2.same s3).own hLd hLe
        refine ⟨_, rfl, _, _, rfl, rfl, _, rfl, d, e, 3, rfl, D3, by decide, by decide, fun r2 H4 hr4 b4 D4 => ⟨_, _, rfl, rfl, ?_⟩⟩
        refine ⟨⟨a + 1 + r2, _, ls ++ [rr c a (2 + r)], rfl, ?_, D4, ?_, ?_, ?_, ?_, ?_⟩, ?_⟩
        · exact (bt_own (b1.trans (b2.trans (But.of s3))) hL).trans b4
        · rw [List.map_append]
          exact b4 _ _ upd_same hLd
        · rw [List.length_append]
          show ls.length + 1 ≤ _
          omega
        · refine hp.app fun x hx => ?_
          rw [List.mem_singleton.mp hx]
          refine ⟨fun z => ?_, by rw [rr_len]; omega⟩
          have := congrArg List.length z
          rw [rr_len] at this
          simp only [List.length_nil] at this
          omega
        · intro _ z
          have := congrArg List.length z
          rw [List.length_append] at this
          simp at this
        · rw [List.length_append]
          show ls.length + 1 ≤ _
          omega
        · show c.length - ((a : Int) + 1 + (r2 : Int)).toNat < c.length - (a : Int).toNat
          omega
      · have e1 : c.length ≤ a := by
          have : ¬ ((a : Int) < ((S c).length : Int)) := fun z => e1 (decide_eq_true z)
          rw [S_len] at this
          omega
        have hne := hne (by omega)
        refine ⟨_, rfl, d, e, 3, rfl, D1, by decide, by decide, fun r H2 hr2 b2 D2 => ⟨(r : Int), rfl, by omega, by omega, ?_⟩⟩
        refine for_rangeN (n := r) (fun i σ H' => ∃ (vk : Option V) (ls : List (List Nat)), σ = [some (.ref d), some (sV c), some (sV l), some (.ref L), some (nV a), vs, vk, none] ∧ But d H H' ∧ DAt H' d e ∧ H' L = some (.lst (ls.map sV)) ∧ ls.length ≤ 10 + i ∧ Pcs ls ∧ ls ≠ [])
          ⟨none, ls, rfl, b1.trans b2, D2, b2 _ _ h1 hLd, hl10, hp, hne⟩ ?_ ?_
        · rintro i σ H3 hi ⟨vk, ls, rfl, b3, D3, h3, hl3, hp3, hne3⟩
          refine ⟨_, rfl, .inl ⟨rfl, _, SqL.of h3⟩, _, rfl, _, rfl, _, rfl, d, e, 4, rfl, D3, by decide, by decide, fun r4 H4 hr4 b4 D4 => ⟨_, _, rfl, rfl, d, e, l, 1 + r4, rfl, D4, ne, le, by omega, fun t H5 ht b5 D5 => ?_⟩⟩
          have h5 := b5 _ _ (b4 _ _ h3 hLd) hLd
          refine ⟨L, ls.map sV, _, rfl, rfl, h5, ?_, ?_⟩
          · rw [List.length_map]
            exact bigl (by omega)
          refine ⟨_, ls ++ [t], rfl, bt_own (b3.trans (b4.trans b5)) hL, D5.own hLd hLe, ?_, ?_, ?_, ?_⟩
          · rw [List.map_append]
            exact upd_same
          · rw [List.length_append]
            show ls.length + 1 ≤ _
            omega
          · refine hp3.app fun x hx => ?_
            rw [List.mem_singleton.mp hx]
            refine ⟨fun z => ?_, by omega⟩
            rw [z] at ht
            simp only [List.length_nil] at ht
            omega
          · intro z
            have := congrArg List.length z
            rw [List.length_append] at this
            simp at this
        · rintro σ H3 ⟨vk, ls, rfl, b3, D3, h3, hl3, hp3, hne3⟩
          have hpos : 0 < ls.length := List.length_pos_iff.mpr hne3
          refine ⟨_, rfl, _, rfl, L, _, rfl, .inl (SqL.of h3), d, e, (ls.map sV).length, rfl, D3, (by rw [List.length_map]; exact hpos), (by rw [List.length_map]; omega), fun k H4 hk b4 D4 => ?_⟩
          rw [List.length_map] at hk
          have h4 := b4 _ _ h3 hLd
          have m1 : min k ls.length = k := by omega
          have c1 : cutV (ls.map sV) (some (k : Int)) none = (ls.drop k).map sV := by rw [cutV_some, List.length_map, m1, List.map_drop]
          have c2 : cutV (ls.map sV) none (some (k : Int)) = (ls.take k).map sV := by rw [cutV_to, List.length_map, m1, List.map_take]
          refine ⟨_, rfl, _, rfl, _, rfl, L, _, rfl, SqL.of h4, fun p1 n1 => ?_⟩
          rw [c1]
          refine ⟨_, rfl, _, rfl, _, rfl, L, _, rfl, SqL.of (same_upd n1 _ _ h4), fun p2 n2 => ?_⟩
          rw [c2]
          have g1 : (upd (upd H4 p1 (.lst ((ls.drop k).map sV))) p2 (.lst ((ls.take k).map sV))) p1 = some (.lst ((ls.drop k).map sV)) := by
            rw [upd_ne (ne_of_none upd_same n2)]
            exact upd_same
          refine ⟨p1, p2, _, _, rfl, rfl, g1, upd_same, ?_, fun p3 n3 => ⟨p3, _, rfl, .inl ⟨SqL.of upd_same, fun p4 n4 => ?_⟩⟩⟩
          · rw [List.length_map, List.length_map, List.length_drop, List.length_take]
            exact big (by omega)
          · have s5 := sm_upd (o := .tup ((ls.drop k).map sV ++ (ls.take k).map sV)) (sm_upd (o := .lst ((ls.drop k).map sV ++ (ls.take k).map sV)) (sm_upd (o := .lst ((ls.take k).map sV)) (same_upd (o := .lst ((ls.drop k).map sV)) n1) n2) n3) n4
            refine q (ls.drop k ++ ls.take k) _ _ ?_ ?_ ?_ (b3.trans (b4.trans (But.of s5))) (D4.same s5) ⟨p4, rfl, SqT.of ?_⟩
            · intro z
              have := congrArg List.length z
              rw [List.length_append, List.length_drop, List.length_take] at this
              simp only [List.length_nil] at this
              omega
            · rw [List.length_append, List.length_drop, List.length_take]
              omega
            · exact Pcs.app (fun x hx => hp3 x (List.mem_of_mem_drop hx)) (fun x hx => hp3 x (List.mem_of_mem_take hx))
            · rw [List.map_append]
              exact upd_same
    · rintro σ H' Q1 Q2 hq ⟨v, e1, v2, e2, z, e3, e4, i, j, e5, e6, k, e7, h⟩
      exact ⟨v, e1, v2, e2, z, e3, e4, i, j, e5, e6, k, e7, hq _ _ h⟩
end
end Sh
namespace M31
/-- a walk of edges -/
structure Wk (es ws : List E) : Prop where
  ne : ws ≠ []
  mem : ∀ e ∈ ws, e ∈ es
  chain : ∀ t a b, ws[t]? = some a → ws[t + 1]? = some b → b.1 = a.2.1
theorem Wk.one {es : List E} {e : E} (h : e ∈ es) : Wk es [e] := by
  refine ⟨by simp, fun x hx => by rw [List.mem_singleton.mp hx]; exact h, fun t a b h1 h2 => ?_⟩
  simp at h2
theorem Wk.snoc {es ws : List E} {a e : E} (W : Wk es ws) (hl : ws[ws.length - 1]? = some a) (h : e ∈ es) (hc : e.1 = a.2.1) : Wk es (ws ++ [e]) := by
  have h0 : 0 < ws.length := List.length_pos_iff.mpr W.ne
  refine ⟨by simp, fun x hx => (List.mem_append.mp hx).elim (W.mem x) (fun z => by rw [List.mem_singleton.mp z]; exact h), fun t x y h1 h2 => ?_⟩
  have hb : t + 1 < (ws ++ [e]).length := (List.getElem?_eq_some_iff.mp h2).1
  rw [List.length_append] at hb
  have hb : t + 1 < ws.length + 1 := hb
  rw [List.getElem?_append_left (by omega)] at h1
  by_cases q : t + 1 < ws.length
  · rw [List.getElem?_append_left q] at h2
    exact W.chain t x y h1 h2
  · have e1 : t + 1 = ws.length := by omega
    rw [e1, List.getElem?_append_right (Nat.le_refl _), Nat.sub_self] at h2
    have e2 : e = y := Option.some.inj h2
    rw [show t = ws.length - 1 by omega, hl] at h1
    have e3 : a = x := Option.some.inj h1
    rw [← e2, ← e3]
    exact hc
theorem Wk.take {es ws : List E} (W : Wk es ws) {n : Nat} (h : 0 < n) : Wk es (ws.take n) := by
  have h0 : 0 < ws.length := List.length_pos_iff.mpr W.ne
  refine ⟨fun z => ?_, fun e he => W.mem e (List.mem_of_mem_take he), fun t a b h1 h2 => ?_⟩
  · have := congrArg List.length z
    rw [List.length_take] at this
    simp only [List.length_nil] at this
    omega
  · have hb : t + 1 < (ws.take n).length := (List.getElem?_eq_some_iff.mp h2).1
    rw [List.length_take] at hb
    rw [List.getElem?_take_of_lt (by omega)] at h1 h2
    exact W.chain t a b h1 h2
theorem Wk.ring {es ws : List E} (W : Wk es ws) (hl : ws.length ≤ 13) {a b : E} (h0 : ws[0]? = some a) (h1 : ws[ws.length - 1]? = some b) (hc : b.2.1 = a.1) : Ring es ws := by
  refine ⟨W.ne, hl, W.mem, fun t h => W.chain t _ _ (List.getElem?_eq_getElem _) (List.getElem?_eq_getElem _), fun h => ?_⟩
  rw [List.getElem?_eq_getElem h] at h0
  rw [List.getElem?_eq_getElem (Nat.sub_lt h Nat.zero_lt_one)] at h1
  have e0 := Option.some.inj h0
  have e1 := Option.some.inj h1
  rw [e0, e1]
  exact hc.symm
end M31
namespace Sh
open PySem PySem.Spec L2 M31
open PyProof.Rows hiding St
section
variable {P : Program} {w : World} {K : PySem.W.Frag} {mg : Str → Option Value} {base : Heap}
/-! ### _law_ring -/
abbrev sRing : Stmt := topS 35
abbrev nRing : List Str := ["_law_d", "_law_edges", "_law_walk", "_law_k", "_law_on", "_law_closed", "_law_edge"]
theorem scRing : FnScope nRing ["_law_d", "_law_edges"] (defScope sRing) := ⟨rfl, rfl, rfl, by decide +kernel, rfl, by decide +kernel, by decide +kernel⟩
def spRing (K : PySem.W.Frag) : Sp := fun vs H Q _ => ∃ (d e : Addr) (ev : V) (es : List E), vs = [.ref d, ev] ∧ DAt H d e ∧ TrT K H ev es ∧ es.length ≤ 96000 ∧
  ∀ (ws : List E) v H', (ws = [] ∨ Ring es ws) → But d H H' → DAt H' d e → TrT K H' v ws → Q v H'
theorem ok_ring {f : Addr} {fd : FuncData} (F : Fun K "_law_ring" "_law_ring" sRing f fd) (T : Txt mg) (CT : Cal P w K mg base 1 "_law_take" spTake) : FnOk P w K mg base CX0 2 f fd ["_law_d", "_law_edges"] (spRing K) := by
  refine F.ok scRing (fun vs H Q E h => ?_) (fun cdv A outer s H vs Q E hr h => ?_)
  · obtain ⟨d, e, ev, es, rfl, _⟩ := h
    rfl
  · obtain ⟨d, e, _, es, rfl, D0, ⟨ea, exs, rfl, hE, pE⟩, hel, q⟩ := h
    have hexs := pr_len pE
    refine ⟨_, pss_cons (ps_if (pt_cmpR op_eq (pe_callB call_len_seq (by rfl) T.len PySem.boot_len (pa_cons (pv 1) pa_nil)) pe_int (nomark _)) (pss_one (ps_ret (pe_tup pa_nil))) pss_nil)
      (pss_cons (ps_set (i := 2) scRing.nd rfl (.inr rfl) (pe_lst (pa_cons (pe_ix ix_tup (pv 1) (pe_c CT hr (by decide) (by rfl) (pa_cons (pv 0) (pa_cons (pe_callB call_len_seq (by rfl) T.len PySem.boot_len (pa_cons (pv 1) pa_nil)) pa_nil))) (fun _ _ => rfl)) pa_nil)))
      (pss_cons (ps_for PassesOwn.never rfl (pi_range1 (by rfl) T.range (pa_cons pe_int pa_nil)) (pg_name (i := 3) scRing.nd rfl (.inl rfl))
        (pss_cons (ps_setLc (i := 4) (own := [("_law_edge", 6)]) (g := gName 6) rfl scRing.nd rfl rfl (sw_true rfl rfl rfl (by decide +kernel)) (pi_tup (pv 1)) (blkOk_by (N := nRing) (sc := defScope sRing) (by decide +kernel))
            (fun _ _ _ _ _ => pg_name (i := 6) scRing.nd rfl (.inl rfl))
            (fun _ _ _ _ _ => pts_one (pt_cmpR op_eq (pe_ix (r := rIxT K) ix_tup (pv 6) pe_int (fun _ _ => rfl)) (pe_ix (r := rIxT K) ix_tup (pe_ix (r := rIxL K) ix_list (pv 2) (pe_un un_neg pe_int) (fun _ _ => rfl)) pe_int (fun _ _ => rfl)) (nomark _)))
            (fun _ _ _ _ _ => pv 6))
        (C8.pss_cut (ps_if (PW.pt (pw_and (pt_cmpR op_eq (pe_ix ix_tup (pe_ix ix_list (pv 2) (pe_un un_neg pe_int) (fun _ _ => rfl)) pe_int (fun _ _ => rfl)) (pe_ix ix_tup (pe_ix ix_list (pv 2) pe_int (fun _ _ => rfl)) pe_int (fun _ _ => rfl)) (nomark _))
            (pw_and1 (pt_cmpR op_gt (pe_c CT hr (by decide) (by rfl) (pa_cons (pv 0) (pa_cons pe_int pa_nil))) pe_int (nomark _))))) (pss_one (ps_ret (pe_callTy call_tuple_of (by rfl) T.tuple boot_tuple (pa_cons (pv 2) pa_nil)))) pss_nil)
        (pss_one (ps_if (pt_cmpR op_gt (pe_callB call_len_seq (by rfl) T.len PySem.boot_len (pa_cons (pv 4) pa_nil)) pe_int (nomark _))
            (pss_one (ps_expr (pe_bm PySem.F.plainAttrs_list PySem.F.slot_list_append PySem.F.type_list_append mt_append (pv 2) (pa_cons (pe_ix ix_list (pv 4) (pe_c CT hr (by decide) (by rfl) (pa_cons (pv 0) (pa_cons (pe_callB call_len_seq (by rfl) T.len PySem.boot_len (pa_cons (pv 4) pa_nil)) pa_nil))) (fun _ _ => rfl)) pa_nil)))) pss_nil)))))
      (pss_cons (ps_setLc (i := 5) (own := [("_law_k", 3)]) (g := gName 3) rfl scRing.nd rfl rfl (sw_true rfl rfl rfl (by decide +kernel)) (pi_range1 (by rfl) T.range (pa_cons (pe_callB call_len_seq (by rfl) T.len PySem.boot_len (pa_cons (pv 2) pa_nil)) pa_nil)) (blkOk_by (N := nRing) (sc := defScope sRing) (by decide +kernel))
            (fun _ _ _ _ _ => pg_name (i := 3) scRing.nd rfl (.inl rfl))
            (fun _ _ _ _ _ => pts_one (pt_cmpR op_eq (pe_ix (r := rIxT K) ix_tup (pe_ix (r := rIxL K) ix_list (pv 2) (pv 3) (fun _ _ => rfl)) pe_int (fun _ _ => rfl)) (pe_ix (r := rIxT K) ix_tup (pe_ix (r := rIxL K) ix_list (pv 2) pe_int (fun _ _ => rfl)) pe_int (fun _ _ => rfl)) (nomark _)))
            (fun _ _ _ _ _ => pv 3))
      (pss_one (ps_ret (pe_ifExp (pt_cmpR op_gt (pe_callB call_len_seq (by rfl) T.len PySem.boot_len (pa_cons (pv 5) pa_nil)) pe_int (nomark _))
        (pe_callTy call_tuple_of (by rfl) T.tuple boot_tuple (pa_cons (pe_slice sl_list (pv 2) po_none (po_some (pe_op op_add (pe_ix ix_list (pv 5) (pe_un un_neg pe_int) (fun _ _ => rfl)) pe_int))) pa_nil)) (pe_tup pa_nil))))))), ?_⟩
    have empty : ∀ H', But d H H' → DAt H' d e → ∀ p, H' p = none → Q (.ref p) (upd H' p (.tup [])) := fun H' b D p hp => q [] _ _ (.inl rfl) (bt_upd b hp) (D.same (same_upd hp)) ⟨p, [], rfl, SqT.of upd_same, .nil⟩
    refine ⟨_, rfl, ea, exs, rfl, .inr hE, rfl, _, rfl, ?_⟩
    refine ite2 (fun _ => ⟨Nat.zero_le _, fun p hp => empty H (But.refl d H) D0 p hp⟩) (fun e0 => ?_)
    have e0 : 0 < es.length := by
      refine Nat.pos_of_ne_zero fun z => e0 (decide_eq_true ?_)
      rw [hexs, z] <;> rfl
    refine ⟨_, rfl, _, rfl, _, rfl, ea, exs, rfl, .inr hE, d, e, exs.length, rfl, D0, by omega, by omega, fun r H1 hr1 b1 D1 => ?_⟩
    have hre : r < es.length := by omega
    obtain ⟨x0, hx0, rx0⟩ := pr_get pE (List.getElem?_eq_getElem hre)
    refine ⟨ea, exs, _, _, rfl, rfl, sq_but hE D0 b1, at_nat hx0, (by show 1 ≤ sizeLine; decide), fun wl hwl => ?_⟩
    have s2 := same_upd (o := .lst [x0]) hwl
    have hwd : wl ≠ d := D1.ne hwl
    have hwe : wl ≠ e := D1.ne2 hwl
    have hH : H wl = none := by
      cases z : H wl with
      | none => rfl
      | some o =>
        have := b1 _ _ z hwd
        rw [hwl] at this
        cases this
    refine ⟨12, rfl, by decide, by decide, for_rangeN (n := 12) (fun i σ H' => ∃ vk von xs ws, σ = [some (.ref d), some (.ref ea), some (.ref wl), vk, von, none, none] ∧ But d H H' ∧ DAt H' d e ∧ H' wl = some (.lst xs) ∧ Paired (e3 K H') xs ws ∧ Wk es ws ∧ ws.length ≤ i + 1)
      ⟨none, none, [x0], [es[r]], rfl, bt_upd b1 hwl, D1.same s2, upd_same, .cons (rx0.kt (Kt.trans (D0.kt b1) (Kt.of s2))) .nil, Wk.one (List.getElem_mem hre), Nat.le_refl _⟩ ?_ ?_⟩
    · rintro i σ H3 hi ⟨vk, von, xs, ws, rfl, b3, D3, h3, p3, W, hwl⟩
      have w0 : 0 < ws.length := List.length_pos_iff.mpr W.ne
      have hxl := pr_len p3
      obtain ⟨a, ha⟩ : ∃ a, ws[ws.length - 1]? = some a := ⟨_, List.getElem?_eq_getElem (Nat.sub_lt w0 Nat.zero_lt_one)⟩
      obtain ⟨f0, hf0⟩ : ∃ a, ws[0]? = some a := ⟨_, List.getElem?_eq_getElem w0⟩
      obtain ⟨_, hax, ta, rfl, hta⟩ := pr_get p3 ha
      obtain ⟨_, hfx, tf, rfl, htf⟩ := pr_get p3 hf0
      have axl : atI xs (-1) = some (.ref ta) := at_end (by omega) (by rw [hxl]; exact hax)
      have hE3 := sq_but hE D0 b3
      have pE3 := e3s.kt (D0.kt b3) pE
      refine ⟨_, rfl, ea, rfl, ⟨_, hE3⟩, fun D hD => lc_tup (xs := exs) (fun j H' => ∃ ys fs, Same H3 H' ∧ H' D = some (.lst ys) ∧ Paired (e3 K H') ys fs ∧ (∀ f ∈ fs, f ∈ es ∧ f.1 = a.2.1) ∧ fs.length ≤ j)
        ⟨[], [], same_upd hD, upd_same, .nil, (fun f hf => by cases hf), Nat.le_refl _⟩ (fun j H' _ z => by obtain ⟨_, _, s4, _⟩ := z; exact Kt.of s4 _ _ hE3) ?_ ?_⟩
      · rintro j x H4 hx ⟨ys, fs, s4, h4, p4, hfs, hfl⟩
        obtain ⟨g, hg, tg, rfl, htg⟩ := pr_getl pE3 hx
        have hje : j < es.length := (List.getElem?_eq_some_iff.mp hg).1
        have k4 := Kt.of (K := K) s4
        refine ⟨rfl, _, rfl, tg, _, _, _, rfl, rfl, k4 _ _ htg, rfl, _, rfl, _, rfl, wl, xs, _, _, rfl, rfl, SqL.of (s4 _ _ h3), axl, ta, _, _, _, rfl, rfl, k4 _ _ hta, rfl, rfl, _, rfl, ?_⟩
        refine ite2 (fun e1 => ?_) (fun _ => ⟨ys, fs, s4, h4, p4, hfs, by omega⟩)
        have e1 : g.1 = a.2.1 := by
          have e1 := of_decide_eq_true e1
          injection e1 with e1
          omega
        refine ⟨_, rfl, ys, h4, ?_, ys ++ [.ref tg], fs ++ [g], sm_own s4 hD, upd_same, ?_, ?_, ?_⟩
        · rw [pr_len p4]
          exact bigl (by omega)
        · exact pr_snoc (e3s.kt (kt_lst h4) p4) ⟨tg, rfl, kt_lst h4 _ _ (k4 _ _ htg)⟩
        · intro f hf
          rcases List.mem_append.mp hf with z | z
          · exact hfs f z
          · rw [List.mem_singleton.mp z]
            exact ⟨List.mem_of_getElem? hg, e1⟩
        · rw [List.length_append]
          show fs.length + 1 ≤ _
          omega
      · rintro H4 ⟨ys, fs, s4, h4, p4, hfs, hfl⟩
        rw [hexs] at hfl
        have k4 := Kt.of (K := K) s4
        have D4 := D3.same s4
        have b4 : But d H H4 := b3.trans (But.of s4)
        have hDd : D ≠ d := D3.ne hD
        have hDw : D ≠ wl := (ne_of_none h3 hD).symm
        refine ⟨fun σ' H' => σ' = [some (.ref d), some (.ref ea), some (.ref wl), some (nV i), some (.ref D), none, none] ∧ But d H H' ∧ DAt H' d e ∧ H' wl = some (.lst xs) ∧ Paired (e3 K H') xs ws ∧ H' D = some (.lst ys) ∧ Paired (e3 K H') ys fs, ?_, ?_⟩
        · refine ⟨_, rfl, _, rfl, wl, xs, _, _, rfl, rfl, SqL.of (s4 _ _ h3), axl, ta, _, _, _, rfl, rfl, k4 _ _ hta, rfl, _, rfl, wl, xs, _, _, rfl, rfl, SqL.of (s4 _ _ h3), at_of (j := 0) rfl hfx, tf, _, _, _, rfl, rfl, k4 _ _ htf, rfl, rfl, _, rfl, ?_⟩
          refine ite2 (fun e1 => ?_) (fun _ => iteF ⟨rfl, b4, D4, s4 _ _ h3, e3s.kt k4 p3, h4, p4⟩)
          have e1 : a.2.1 = f0.1 := by
            have e1 := of_decide_eq_true e1
            injection e1 with e1
            omega
          refine ⟨_, rfl, d, e, 3, rfl, D4, by decide, by decide, fun r5 H5 hr5 b5 D5 => ⟨_, _, rfl, rfl, _, rfl, ?_⟩⟩
          have h5 := b5 _ _ (s4 _ _ h3) hwd
          have k5 := D4.kt (K := K) b5
          refine ite2 (fun _ => ?_) (fun _ => ⟨rfl, b4.trans b5, D5, h5, e3s.kt (Kt.trans k4 k5) p3, b5 _ _ h4 hDd, e3s.kt k5 p4⟩)
          refine ⟨_, rfl, wl, xs, rfl, .inl ⟨SqL.of h5, fun l hl => ?_⟩⟩
          have s6 := same_upd (o := .tup xs) hl
          exact q ws _ _ (.inr (W.ring (by omega) hf0 ha e1)) (bt_upd (b4.trans b5) hl) (D5.same s6) ⟨l, xs, rfl, SqT.of upd_same, e3s.kt (Kt.trans k4 (Kt.trans k5 (Kt.of s6))) p3⟩
        · rintro σ' H5 ⟨rfl, b5, D5, h5, p5, h5b, p5b⟩
          have hyl := pr_len p5b
          refine ⟨_, rfl, D, ys, rfl, .inl (SqL.of h5b), _, _, rfl, rfl, _, rfl, ?_⟩
          refine ite2 (fun e1 => ?_) (fun _ => ⟨_, _, xs, ws, rfl, b5, D5, h5, p5, W, by omega⟩)
          have e1 : 0 < fs.length := by
            have := of_decide_eq_true e1
            omega
          refine ⟨_, rfl, .inl ⟨rfl, _, SqL.of h5⟩, _, rfl, _, rfl, _, rfl, D, ys, rfl, .inl (SqL.of h5b), d, e, ys.length, rfl, D5, by omega, by omega, fun k H6 hk b6 D6 => ?_⟩
          have hkf : k < fs.length := by omega
          obtain ⟨y, hy, ry⟩ := pr_get p5b (List.getElem?_eq_getElem hkf)
          have h6 := b6 _ _ h5 hwd
          have k6 := D5.kt (K := K) b6
          obtain ⟨m1, m2⟩ := hfs _ (List.getElem_mem hkf)
          refine ⟨D, ys, _, _, rfl, rfl, SqL.of (b6 _ _ h5b hDd), at_nat hy, wl, xs, _, rfl, rfl, h6, bigl (by omega), _, _, xs ++ [y], ws ++ [fs[k]], rfl, bt_own (b5.trans b6) hH, D6.own hwd hwe, upd_same, ?_, W.snoc ha m1 m2, ?_⟩
          · exact pr_snoc (e3s.kt (Kt.trans k6 (kt_lst h6)) p5) (ry.kt (Kt.trans k6 (kt_lst h6)))
          · rw [List.length_append]
            show ws.length + 1 ≤ _
            omega
    · rintro σ H3 ⟨vk, von, xs, ws, rfl, b3, D3, h3, p3, W, hwl⟩
      have w0 : 0 < ws.length := List.length_pos_iff.mpr W.ne
      have hxl := pr_len p3
      obtain ⟨f0, hf0⟩ : ∃ a, ws[0]? = some a := ⟨_, List.getElem?_eq_getElem w0⟩
      obtain ⟨_, hfx, tf, rfl, htf⟩ := pr_get p3 hf0
      refine ⟨_, rfl, wl, xs, rfl, .inl (SqL.of h3), (xs.length : Int), rfl, by omega, by omega, fun D hD => lc_rangeN (n := xs.length) (fun j H' => ∃ cs : List Nat, Same H3 H' ∧ H' D = some (.lst (cs.map nV)) ∧ (∀ k ∈ cs, ∃ g, ws[k]? = some g ∧ g.2.1 = f0.1) ∧ cs.length ≤ j)
        ⟨[], same_upd hD, upd_same, (fun k hk => by cases hk), Nat.le_refl _⟩ ?_ ?_⟩
      · rintro j H4 hj ⟨cs, s4, h4, hcs, hcl⟩
        have hjw : j < ws.length := by omega
        obtain ⟨_, hgx, tg, rfl, htg⟩ := pr_get p3 (List.getElem?_eq_getElem hjw)
        have k4 := Kt.of (K := K) s4
        refine ⟨rfl, _, rfl, _, rfl, wl, xs, _, _, rfl, rfl, SqL.of (s4 _ _ h3), at_nat hgx, tg, _, _, _, rfl, rfl, k4 _ _ htg, rfl, _, rfl, wl, xs, _, _, rfl, rfl, SqL.of (s4 _ _ h3), at_of (j := 0) rfl hfx, tf, _, _, _, rfl, rfl, k4 _ _ htf, rfl, rfl, _, rfl, ?_⟩
        refine ite2 (fun e1 => ?_) (fun _ => ⟨cs, s4, h4, hcs, by omega⟩)
        have e1 : ws[j].2.1 = f0.1 := by
          have e1 := of_decide_eq_true e1
          injection e1 with e1
          omega
        refine ⟨_, rfl, _, h4, ?_, cs ++ [j], sm_own s4 hD, ?_, ?_, ?_⟩
        · rw [List.length_map]
          exact bigl (by omega)
        · rw [upd_same, List.map_append] <;> rfl
        · intro k hk
          rcases List.mem_append.mp hk with z | z
          · exact hcs k z
          · rw [List.mem_singleton.mp z]
            exact ⟨_, List.getElem?_eq_getElem hjw, e1⟩
        · rw [List.length_append]
          show cs.length + 1 ≤ _
          omega
      · rintro H4 ⟨cs, s4, h4, hcs, hcl⟩
        have k4 := Kt.of (K := K) s4
        refine ⟨_, rfl, D, _, rfl, .inl (SqL.of h4), _, _, rfl, rfl, _, rfl, ?_⟩
        refine ite2 (fun e1 => ?_) (fun _ => ⟨Nat.zero_le _, fun p hp => empty H4 (b3.trans (But.of s4)) (D3.same s4) p hp⟩)
        have e1 : 0 < cs.length := by
          have := of_decide_eq_true e1
          rw [List.length_map] at this
          omega
        have hc1 : cs.length - 1 < cs.length := Nat.sub_lt e1 Nat.zero_lt_one
        obtain ⟨g, hg, hgc⟩ := hcs _ (List.getElem_mem hc1)
        have hcw : cs[cs.length - 1] < ws.length := (List.getElem?_eq_some_iff.mp hg).1
        have hcx : (cs.map nV)[(cs.map nV).length - 1]? = some (nV cs[cs.length - 1]) := by
          rw [List.length_map, List.getElem?_map, List.getElem?_eq_getElem hc1] <;> rfl
        have h3' := s4 _ _ h3
        refine ⟨_, rfl, _, rfl, _, rfl, D, _, _, _, rfl, rfl, SqL.of h4, at_end (by rw [List.length_map]; exact e1) hcx, _, _, rfl, rfl, _, rfl, wl, xs, rfl, SqL.of h3', fun p1 n1 => ?_⟩
        have ec : cutV xs none (some ((cs[cs.length - 1] : Int) + 1)) = xs.take (cs[cs.length - 1] + 1) := by
          rw [show ((cs[cs.length - 1] : Int) + 1) = ((cs[cs.length - 1] + 1 : Nat) : Int) by omega, cutV_to, show min (cs[cs.length - 1] + 1) xs.length = cs[cs.length - 1] + 1 by omega]
        rw [ec]
        refine ⟨p1, _, rfl, .inl ⟨SqL.of upd_same, fun l hl => ?_⟩⟩
        have s6 := sm_upd (o := .tup (xs.take (cs[cs.length - 1] + 1))) (same_upd (o := .lst (xs.take (cs[cs.length - 1] + 1))) n1) hl
        have lt : (ws.take (cs[cs.length - 1] + 1)).length = cs[cs.length - 1] + 1 := by
          rw [List.length_take]
          omega
        refine q (ws.take (cs[cs.length - 1] + 1)) _ _ (.inr ((W.take (Nat.succ_pos _)).ring (a := f0) (b := g) ?_ ?_ ?_ hgc)) (b3.trans (But.of (s4.trans s6))) (D3.same (s4.trans s6)) ⟨l, _, rfl, SqT.of upd_same, pr_take _ (e3s.kt (Kt.trans k4 (Kt.of s6)) p3)⟩
        · show (ws.take (cs[cs.length - 1] + 1)).length ≤ 13
          omega
        · rw [List.getElem?_take_of_lt (by omega)]
          exact hf0
        · rw [lt, Nat.add_sub_cancel, List.getElem?_take_of_lt (by omega)]
          exact hg
end
end Sh
namespace Sh
open PySem PySem.Spec L2 M31
open PyProof.Rows hiding St
theorem cut_fromN (x : List Nat) (a : Nat) : cutS (S x) (some (a : Int)) none = S (x.drop a) := cut_from (Int.natCast_nonneg a)
theorem cut_toN (x : List Nat) (a : Nat) : cutS (S x) none (some (a : Int)) = S (x.take a) := cut_to (Int.natCast_nonneg a)
/-- circles as the law makes them -/
def CsOk (cs : List (List Nat)) : Prop := ∀ x ∈ cs, x ≠ [] ∧ x.length ≤ 1000
theorem CsOk.snoc {cs : List (List Nat)} {c : List Nat} (h : CsOk cs) (h1 : c ≠ []) (h2 : c.length ≤ 1000) : CsOk (cs ++ [c]) := fun x hx => (List.mem_append.mp hx).elim (h x) fun z => by
  rw [List.mem_singleton.mp z]
  exact ⟨h1, h2⟩
theorem five {c t : List Nat} {a : Nat} (hc : c ≠ []) (hl : c.length ≤ 10) (ha : a < c.length) (ht : t.length = 3) (x : Nat) :
    CsOk [c, c.drop a ++ c.take a, c ++ c, c.take a ++ [x] ++ c.drop (a + 1), t] := by
  have ne : ∀ {y : List Nat}, 0 < y.length → y ≠ [] := fun h z => by
    rw [z] at h
    exact Nat.lt_irrefl _ h
  have h0 : 0 < c.length := List.length_pos_iff.mpr hc
  intro y hy
  simp only [List.mem_cons, List.not_mem_nil, or_false] at hy
  rcases hy with rfl | rfl | rfl | rfl | rfl
  · exact ⟨hc, by omega⟩
  · have : (c.drop a ++ c.take a).length = c.length := by
      rw [List.length_append, List.length_drop, List.length_take]
      omega
    exact ⟨ne (by omega), by omega⟩
  · have : (c ++ c).length = c.length + c.length := List.length_append
    exact ⟨ne (by omega), by omega⟩
  · have : (c.take a ++ [x] ++ c.drop (a + 1)).length = c.length := by
      rw [List.length_append, List.length_append, List.length_drop, List.length_take]
      show min a c.length + 1 + _ = _
      omega
    exact ⟨ne (by omega), by omega⟩
  · exact ⟨ne (by omega), by omega⟩
section
variable {P : Program} {w : World} {K : PySem.W.Frag} {mg : Str → Option Value} {base : Heap}
abbrev sLaw : Stmt := topS 36
abbrev nLaw : List Str := ["_law_script", "_law_d", "_law_signs_here", "_law_circle", "_law_pieces", "_law_least", "_law_graph", "_law_small", "_law_at", "_law_circles", "_law_source", "_law_ring_here", "_law_one", "_law_due_here", "_law_piece"]
theorem scLaw : FnScope nLaw ["_law_script"] (defScope sLaw) := ⟨rfl, rfl, rfl, by decide +kernel, rfl, by decide +kernel, by decide +kernel⟩
def spLaw (K : PySem.W.Frag) : Sp := fun vs H Q _ => ∃ (a : Addr) (ns : List Int), vs = [.ref a] ∧ SqL K H a (ns.map V.int) ∧ ns.length ≤ 63 ∧ ∀ H', Q (.bl true) H'
theorem ok_law {f : Addr} {fd : FuncData} (F : Fun K "law" "law" sLaw f fd) (T : Txt mg)
    (CB : Cal P w K mg base 1 "_law_begin" (spBegin K)) (CS : Cal P w K mg base 2 "_law_signs" spSigns) (CRi : Cal P w K mg base 3 "_law_rich" spRich) (CT : Cal P w K mg base 1 "_law_take" spTake)
    (CP : Cal P w K mg base 3 "_law_pieces_of" (spPcs K)) (CG : Cal P w K mg base 3 "overlap_graph" (spGraph K)) (CE : Cal P w K mg base 3 "reduced" (spRed K)) (CX : Cal P w K mg base 2 "_law_text" spText)
    (CN : Cal P w K mg base 2 "_law_ring" (spRing K)) (CL : Cal P w K mg base 3 "spelled" (spSp K)) (CD : Cal P w K mg base 2 "_law_due" (spDue K)) (CTr : Cal P w K mg base 3 "traced" (spTr K)) : FnOk P w K mg base CX0 4 f fd ["_law_script"] (spLaw K) := by
  refine F.ok scLaw (fun vs H Q E h => ?_) (fun cdv A outer s H vs Q E hr h => ?_)
  · obtain ⟨a, ns, rfl, _⟩ := h
    rfl
  · obtain ⟨sa, script, rfl, hS, hsl, q⟩ := h
    refine ⟨_, pss_cons (ps_set (i := 1) scLaw.nd rfl (.inl rfl) (pe_c CB hr (by decide) (by rfl) (pa_cons (pv 0) pa_nil)))
      (pss_cons (ps_set (i := 2) scLaw.nd rfl (.inl rfl) (pe_c CS hr (by decide) (by rfl) (pa_cons (pv 1) pa_nil)))
      (pss_cons (ps_set (i := 3) scLaw.nd rfl (.inr rfl) (pe_c CRi hr (by decide) (by rfl) (pa_cons (pv 1) (pa_cons (pv 2) (pa_cons (pe_op op_add pe_int (pe_c CT hr (by decide) (by rfl) (pa_cons (pv 1) (pa_cons pe_int pa_nil)))) pa_nil)))))
      (pss_cons (ps_set (i := 4) scLaw.nd rfl (.inl rfl) (pe_c CP hr (by decide) (by rfl) (pa_cons (pv 1) (pa_cons (pv 3) (pa_cons (pv 2) pa_nil)))))
      (C8.pss_cut (ps_if (pt_cmpR op_eq (pe_c CT hr (by decide) (by rfl) (pa_cons (pv 1) (pa_cons pe_int pa_nil))) pe_int (nomark _))
        (pss_one (ps_set (i := 4) scLaw.nd rfl (.inl rfl) (pe_op op_catA (pe_callTy call_tuple_of (by rfl) T.tuple boot_tuple (pa_cons
          (pe_lc (own := [("_law_piece", 14)]) (g := gName 14) rfl scLaw.nd (pi_tup (pv 4)) (blkOk_by (N := nLaw) (sc := defScope sLaw) (by decide +kernel))
            (fun _ _ _ _ _ => pg_name (i := 14) scLaw.nd rfl (.inl rfl))
            (fun _ _ _ _ _ => pts_one (pt_cmpR op_in_str (pv 14) (pe_op op_mulS (pv 3) pe_int) (by rfl)))
            (fun _ _ _ _ _ => pv 14)) pa_nil)) (pe_tup (pa_cons (pe_slice sl_str (pv 3) po_none (po_some pe_int)) pa_nil))))) pss_nil)
      (pss_cons (ps_set (i := 5) scLaw.nd rfl (.inl rfl) (pe_op op_add pe_int (pe_c CT hr (by decide) (by rfl) (pa_cons (pv 1) (pa_cons pe_int pa_nil)))))
      (pss_cons (ps_set (i := 6) scLaw.nd rfl (.inl rfl) (pe_c CG hr (by decide) (by rfl) (pa_cons (pv 4) (pa_cons (pv 5) pa_nil))))
      (pss_cons (ps_set (i := 7) scLaw.nd rfl (.inl rfl) (pe_c CE hr (by decide) (by rfl) (pa_cons (pv 6) pa_nil)))
      (pss_cons (ps_set (i := 8) scLaw.nd rfl (.inl rfl) (pe_c CT hr (by decide) (by rfl) (pa_cons (pv 1) (pa_cons (pe_callB call_len_str (by rfl) T.len PySem.boot_len (pa_cons (pv 3) pa_nil)) pa_nil))))
      (C8.pss_cut (ps_set (i := 9) scLaw.nd rfl (.inl rfl) (pe_lst (pa_cons (pv 3)
          (pa_cons (pe_op op_add_str (pe_slice sl_str (pv 3) (po_some (pv 8)) po_none) (pe_slice sl_str (pv 3) po_none (po_some (pv 8))))
          (pa_cons (pe_op op_add_str (pv 3) (pv 3))
          (pa_cons (pe_op op_add_str (pe_op op_add_str (pe_slice sl_str (pv 3) po_none (po_some (pv 8))) (pe_ix ix_str (pv 2) pe_int (fun _ _ => rfl))) (pe_slice sl_str (pv 3) (po_some (pe_op op_add (pv 8) pe_int)) po_none))
          (pa_cons (pe_c CX hr (by decide) (by rfl) (pa_cons (pv 1) (pa_cons (pv 2) (pa_cons pe_int pa_nil)))) pa_nil)))))))
      (pss_cons (ps_for PassesOwn.never rfl (pi_tup (pe_tup (pa_cons (pv 6) (pa_cons (pv 7) (pa_cons (pv 7) pa_nil))))) (pg_name (i := 10) scLaw.nd rfl (.inl rfl))
        (pss_cons (ps_set (i := 11) scLaw.nd rfl (.inl rfl) (pe_c CN hr (by decide) (by rfl) (pa_cons (pv 1) (pa_cons (pe_ix ix_tup (pv 10) pe_int (fun _ _ => rfl)) pa_nil))))
        (pss_one (ps_if (pt_cmpR op_gt (pe_callB call_len_seq (by rfl) T.len PySem.boot_len (pa_cons (pv 11) pa_nil)) pe_int (nomark _))
          (pss_one (ps_expr (pe_bm PySem.F.plainAttrs_list PySem.F.slot_list_append PySem.F.type_list_append mt_append (pv 9) (pa_cons (pe_c CL hr (by decide) (by rfl) (pa_cons (pv 10) (pa_cons (pv 11) pa_nil))) pa_nil)))) pss_nil))))
      (pss_cons (ps_for PassesOwn.never rfl (pi_list (pv 9)) (pg_name (i := 12) scLaw.nd rfl (.inl rfl))
        (pss_cons (ps_set (i := 13) scLaw.nd rfl (.inl rfl) (pe_c CD hr (by decide) (by rfl) (pa_cons (pe_ix ix_tup (pv 6) pe_int (fun _ _ => rfl)) (pa_cons (pv 12) (pa_cons (pv 5) pa_nil)))))
        (pss_one (ps_if (PW.pt (pw_or (pt_cmpR (op_neO (hu64 hr)) (pe_c CTr hr (by decide) (by rfl) (pa_cons (pv 6) (pa_cons (pv 12) pa_nil))) (pv 13) (nomark _))
            (pw_or1 (pt_cmpR (op_neO (hu64 hr)) (pe_c CTr hr (by decide) (by rfl) (pa_cons (pv 7) (pa_cons (pv 12) pa_nil))) (pv 13) (nomark _))))) (pss_one (ps_ret pe_bl)) pss_nil))))
      (pss_one (ps_ret pe_bl))))))))))))), ?_⟩
    refine ⟨_, rfl, sa, script, rfl, hS, hsl, fun H1 d e s1 D1 => ?_⟩
    refine ⟨_, rfl, d, e, rfl, D1, fun l H2 hl1 hl2 b2 D2 => ?_⟩
    refine ⟨_, rfl, _, rfl, _, rfl, d, e, 10, rfl, D2, by decide, by decide, fun r3 H3 hr3 b3 D3 => ⟨_, _, rfl, rfl, d, e, l, 1 + r3, rfl, D3, hl1, hl2, by omega, by omega, fun c H4 hcl b4 D4 => ?_⟩⟩
    have hc : c ≠ [] := fun z => by
      rw [z] at hcl
      simp only [List.length_nil] at hcl
      omega
    have hc10 : c.length ≤ 10 := by omega
    have hc0 : 0 < c.length := by omega
    refine ⟨_, rfl, _, rfl, _, rfl, d, e, c, l, rfl, D4, hc, hc10, hl1, hl2, fun ls pv0 H5 hls1 hls2 hP b5 D5 tx => ?_⟩
    obtain ⟨pa0, rfl, hT⟩ := tx
    refine ⟨fun σ' H' => ∃ (pa : Addr) (ls : List (List Nat)), σ' = [some (.ref sa), some (.ref d), some (sV l), some (sV c), some (.ref pa), none, none, none, none, none, none, none, none, none, none] ∧ DAt H' d e ∧ SqT K H' pa (ls.map sV) ∧ PcOk ls, ?_, ?_⟩
    · refine ⟨_, rfl, d, e, 2, rfl, D5, by decide, by decide, fun r6 H6 hr6 b6 D6 => ⟨rfl, _, rfl, ?_⟩⟩
      have hT6 := sq_but hT D5 b6
      refine ite2 (fun _ => ?_) (fun _ => ⟨pa0, ls, rfl, D6, hT6, ⟨hls1, by omega, fun x hx => ⟨(hP x hx).1, Nat.le_trans (hP x hx).2 (by decide)⟩⟩⟩)
      refine ⟨_, rfl, pa0, rfl, ⟨_, hT6⟩, fun D hD => lc_tup (xs := ls.map sV) (fun i H' => ∃ fs : List (List Nat), Same H6 H' ∧ H' D = some (.lst (fs.map sV)) ∧ (∀ x ∈ fs, x ∈ ls) ∧ fs.length ≤ i)
        ⟨[], same_upd hD, upd_same, (fun x hx => by cases hx), Nat.le_refl _⟩ (fun i H' _ z => by obtain ⟨_, s7, _⟩ := z; exact Kt.of s7 _ _ hT6) ?_ ?_⟩
      · rintro i x H7 hx ⟨fs, s7, h7, hfs, hfl⟩
        obtain ⟨y, hy, rfl⟩ : ∃ y, ls[i]? = some y ∧ x = sV y := by
          rw [List.getElem?_map] at hx
          cases e : ls[i]? with
          | none =>
            rw [e] at hx
            cases hx
          | some y =>
            rw [e] at hx
            exact ⟨y, rfl, (Option.some.inj hx).symm⟩
        have hil : i < ls.length := (List.getElem?_eq_some_iff.mp hy).1
        refine ⟨rfl, _, rfl, _, rfl, S c, 9, rfl, rfl, by decide, by decide, (by rw [S_len]; omega), (by rw [S_len]; omega), fun t => ⟨_, _, rfl, rfl, _, rfl, ?_⟩⟩
        refine ite2 (fun _ => ?_) (fun _ => ⟨fs, s7, h7, hfs, by omega⟩)
        refine ⟨_, rfl, _, h7, ?_, fs ++ [y], sm_own s7 hD, ?_, ?_, ?_⟩
        · rw [List.length_map]
          exact bigl (by omega)
        · rw [upd_same, List.map_append] <;> rfl
        · intro z hz
          rcases List.mem_append.mp hz with q | q
          · exact hfs z q
          · rw [List.mem_singleton.mp q]
            exact List.mem_of_getElem? hy
        · rw [List.length_append]
          show fs.length + 1 ≤ _
          omega
      · rintro H7 ⟨fs, s7, h7, hfs, hfl⟩
        rw [List.length_map] at hfl
        have hc1 : c.take 1 ≠ [] := fun z => by
          have := congrArg List.length z
          rw [List.length_take] at this
          simp only [List.length_nil] at this
          omega
        have hc1l : (c.take 1).length ≤ 60 := by
          rw [List.length_take]
          omega
        have hfP : ∀ x ∈ fs, x ≠ [] ∧ x.length ≤ 60 := fun x hx => ⟨(hP x (hfs x hx)).1, Nat.le_trans (hP x (hfs x hx)).2 (by decide)⟩
        refine ⟨D, _, rfl, .inl ⟨SqL.of h7, fun p1 n1 => ⟨_, rfl, _, rfl, _, rfl, S_big (by omega), (by show 1 ≤ sizeLine; decide), fun p2 n2 => ?_⟩⟩⟩
        rw [show cutS (S c) none (some 1) = S (c.take 1) from cut_toN c 1] at *
        have k1 : Same H6 (upd (upd H7 p1 (.tup (fs.map sV))) p2 (.tup [sV (c.take 1)])) := sm_upd (sm_upd s7 n1) n2
        refine ⟨p1, p2, fs.map sV, [sV (c.take 1)], rfl, rfl, Kt.of (same_upd n2) _ _ (SqT.of upd_same), SqT.of upd_same, ?_, fun _ => ?_, fun _ z => (List.cons_ne_nil _ _ z).elim, fun _ _ p3 n3 => ?_⟩
        · rw [List.length_map]
          show fs.length + 1 ≤ _
          exact big (by omega)
        · exact ⟨p2, [c.take 1], rfl, D6.same k1, SqT.of upd_same, ⟨by simp, (by show 1 ≤ 40; decide), fun x hx => by rw [List.mem_singleton.mp hx]; exact ⟨hc1, hc1l⟩⟩⟩
        · refine ⟨p3, fs ++ [c.take 1], rfl, D6.same (sm_upd k1 n3), SqT.of ?_, ⟨by simp, ?_, fun x hx => ?_⟩⟩
          · rw [List.map_append]
            exact upd_same
          · rw [List.length_append]
            show fs.length + 1 ≤ 40
            omega
          · rcases List.mem_append.mp hx with z | z
            · exact hfP x z
            · rw [List.mem_singleton.mp z]
              exact ⟨hc1, hc1l⟩
    rintro σ' H6 ⟨pa, ls, rfl, D6, hT6, ok⟩
    refine ⟨_, rfl, d, e, 4, rfl, D6, by decide, by decide, fun r7 H7 hr7 b7 D7 => ⟨_, _, rfl, rfl, ?_⟩⟩
    refine ⟨_, rfl, _, rfl, pa, ls, 1 + r7, rfl, sq_but hT6 D6 b7, ok, by omega, by omega, fun H8 gv s8 GR => ?_⟩
    have G : GN (free ls) := free_good ok.ne ok.le ok.wd
    revert GR G
    generalize free ls = ns
    intro GR G
    have hlst : 1 ≤ 1 + r7 := by omega
    have L1 := fun c => law_full G hlst c
    have L2 := fun c => law_red G hlst c
    have GGf := edges_good G (1 + r7)
    revert GR L1 L2 GGf
    generalize edgesOf ns (1 + r7) = es
    intro GR L1 L2 GGf
    have GGr := red_good GGf
    refine ⟨_, rfl, gv, ns, es, rfl, GR, GGf, fun H9 sv s9 GS => ?_⟩
    revert GS L2 GGr
    generalize redE ns es = rs
    intro L2 GGr GS
    have D9 : DAt H9 d e := (D7.same s8).same s9
    have GR9 := GR.kt (Kt.of s9)
    refine ⟨_, rfl, _, rfl, _, rfl, S_big (by omega), d, e, c.length, (by rw [S_len] <;> rfl), D9, hc0, by omega, fun a H10 ha b10 D10 => ?_⟩
    have GR10 := GR9.kt (D9.kt b10)
    have GS10 := GS.kt (D9.kt b10)
    have hl0 : 0 < l.length := List.length_pos_iff.mpr hl1
    refine ⟨fun σ' H' => ∃ (L : Addr) (cs : List (List Nat)), σ' = [some (.ref sa), some (.ref d), some (sV l), some (sV c), some (.ref pa), some (nV (1 + r7)), some gv, some sv, some (nV a), some (.ref L), none, none, none, none, none] ∧ DAt H' d e ∧ H' L = some (.lst (cs.map sV)) ∧ L ≠ d ∧ L ≠ e ∧ Kt K H10 H' ∧ CsOk cs ∧ cs.length = 5, ?_, ?_⟩
    · refine ⟨_, rfl, _, rfl, _, rfl, _, rfl, _, rfl, S_big (by omega), _, rfl, _, rfl, _, rfl, _, rfl, S_big (by omega), _, _, rfl, rfl, ?_, _, rfl, _, rfl, _, _, rfl, rfl, ?_,
        _, rfl, _, rfl, _, rfl, _, rfl, S_big (by omega), _, rfl, S l, 0, l.getD 0 0, rfl, rfl, S_big (by omega), at_S (i := 0) hl0, _, _, rfl, rfl, ?_, _, rfl, _, rfl, _, _, rfl, rfl, _, rfl, _, rfl, S_big (by omega), _, _, rfl, rfl, ?_,
        _, rfl, _, rfl, d, e, l, 3, rfl, D10, hl1, hl2, by decide, fun t H11 ht b11 D11 => ⟨(by show 5 ≤ sizeLine; decide), fun L hL => ?_⟩⟩
      · rw [cut_fromN, cut_toN, S_len, S_len, List.length_drop, List.length_take]
        exact big (by omega)
      · rw [S_len]
        exact big (by omega)
      · rw [cut_toN, S_len, List.length_take]
        show _ + 1 ≤ _
        exact big (by omega)
      · rw [cut_toN, show (S (c.take a) ++ (⟨#[l.getD 0 0]⟩ : Str)) = S (c.take a ++ [l.getD 0 0]) from SX.S_cat _ [_], show cutS (S c) (some ((a : Int) + 1)) none = S (c.drop (a + 1)) from cut_fromN c (a + 1), S_len, S_len, List.length_append, List.length_take, List.length_drop]
        show _ + 1 + _ ≤ _
        exact big (by omega)
      · have s12 := same_upd (o := .lst ([c, c.drop a ++ c.take a, c ++ c, c.take a ++ [l.getD 0 0] ++ c.drop (a + 1), t].map sV)) hL
        have e2 : cutS (S c) (some (a : Int)) none ++ cutS (S c) none (some (a : Int)) = S (c.drop a ++ c.take a) := by rw [cut_fromN, cut_toN, SX.S_cat]
        have e3 : S c ++ S c = S (c ++ c) := SX.S_cat c c
        have e4 : cutS (S c) none (some (a : Int)) ++ (⟨#[l.getD 0 0]⟩ : Str) ++ cutS (S c) (some ((a : Int) + 1)) none = S (c.take a ++ [l.getD 0 0] ++ c.drop (a + 1)) := by
          rw [cut_toN, show (S (c.take a) ++ (⟨#[l.getD 0 0]⟩ : Str)) = S (c.take a ++ [l.getD 0 0]) from SX.S_cat _ [_], show cutS (S c) (some ((a : Int) + 1)) none = S (c.drop (a + 1)) from cut_fromN c (a + 1), SX.S_cat]
        rw [e2, e3, e4]
        exact ⟨L, [c, c.drop a ++ c.take a, c ++ c, c.take a ++ [l.getD 0 0] ++ c.drop (a + 1), t], rfl, D11.same s12, upd_same, D11.ne hL, D11.ne2 hL, Kt.trans (D10.kt b11) (Kt.of s12), five hc hc10 ha ht _, rfl⟩
    rintro σ' H11 ⟨L, cs, rfl, D11, h11, hLd, hLe, k11, ok11, len11⟩
    have GR11 := GR10.kt k11
    have GS11 := GS10.kt k11
    -- the rings
    refine ⟨_, rfl, _, rfl, _, rfl, (by show 3 ≤ sizeLine; decide), fun tp htp => ?_⟩
    have s12 := same_upd (o := .tup [gv, sv, sv]) htp
    have tp12 : SqT K (upd H11 tp (.tup [gv, sv, sv])) tp [gv, sv, sv] := SqT.of upd_same
    have D12 := D11.same s12
    have h12 := s12 _ _ h11
    have GR12 := GR11.kt (Kt.of s12)
    have GS12 := GS11.kt (Kt.of s12)
    revert tp12 D12 h12 GR12 GS12
    show _
    generalize upd H11 tp (.tup [gv, sv, sv]) = H12
    intro tp12 D12 h12 GR12 GS12
    have src : ∀ (i : Nat) x, ([gv, sv, sv] : List V)[i]? = some x → ∃ xs, GrT K H12 x ns xs ∧ GG ns xs := fun i x hx => by
      have hm := List.mem_of_getElem? hx
      simp only [List.mem_cons, List.not_mem_nil, or_false, or_self] at hm
      rcases hm with rfl | rfl
      · exact ⟨es, GR12, GGf⟩
      · exact ⟨rs, GS12, GGr⟩
    refine ⟨tp, rfl, ⟨_, tp12⟩, for_tup (xs := [gv, sv, sv]) (fun i σ H' => ∃ (v1 v2 : Option V) (cs : List (List Nat)), σ = [some (.ref sa), some (.ref d), some (sV l), some (sV c), some (.ref pa), some (nV (1 + r7)), some gv, some sv, some (nV a), some (.ref L), v1, v2, none, none, none] ∧ DAt H' d e ∧ H' L = some (.lst (cs.map sV)) ∧ Kt K H12 H' ∧ CsOk cs ∧ cs.length ≤ 5 + i)
      ⟨none, none, cs, rfl, D12, h12, Kt.refl K H12, ok11, by omega⟩ (fun i σ H' _ z => by obtain ⟨_, _, _, _, _, _, k, _⟩ := z; exact k _ _ tp12) ?_ ?_⟩
    · rintro i x σ H13 hx ⟨v1, v2, cs, rfl, D13, h13, k13, ok13, len13⟩
      have hi3 : i < 3 := (List.getElem?_eq_some_iff.mp hx).1
      obtain ⟨xs, GX, GGx⟩ := src i x hx
      have GX13 := GX.kt k13
      obtain ⟨g, nv, ev, rfl, hg, hnv, hev⟩ := id GX13
      refine ⟨_, rfl, _, rfl, g, _, _, _, rfl, rfl, hg, rfl, d, e, ev, xs, rfl, D13, hev, GGx.le, fun ws rv H14 hw b14 D14 tr14 => ?_⟩
      have k14 := D13.kt (K := K) b14
      have h14 := b14 _ _ h13 hLd
      obtain ⟨wa, wxs, rfl, hwa, pwa⟩ := id tr14
      refine ⟨_, rfl, wa, wxs, rfl, .inr hwa, _, _, rfl, rfl, _, rfl, ?_⟩
      refine ite2 (fun e1 => ?_) (fun _ => ⟨_, _, cs, rfl, D14, h14, Kt.trans k13 k14, ok13, by omega⟩)
      have e1 : 0 < ws.length := by
        have := of_decide_eq_true e1
        rw [pr_len pwa] at this
        omega
      have R : Ring xs ws := hw.resolve_left fun z => by
        rw [z] at e1
        exact Nat.lt_irrefl _ e1
      refine ⟨_, rfl, .inl ⟨rfl, _, SqL.of h14⟩, _, rfl, _, rfl, _, _, ns, xs, ws, rfl, GX13.kt k14, GGx, tr14, R, fun H15 nc s15 hn1 hn2 => ?_⟩
      have h15 := s15 _ _ h14
      refine ⟨L, _, _, rfl, rfl, h15, ?_, _, _, cs ++ [nc], rfl, (D14.same s15).own hLd hLe, ?_, Kt.trans k13 (Kt.trans k14 (Kt.trans (Kt.of s15) (kt_lst h15))), ok13.snoc hn1 (by omega), ?_⟩
      · rw [List.length_map]
        exact bigl (by omega)
      · rw [List.map_append]
        exact upd_same
      · rw [List.length_append]
        show cs.length + 1 ≤ _
        omega
    · rintro σ H13 ⟨v1, v2, cs, rfl, D13, h13, k13, ok13, len13⟩
      have GR13 := GR12.kt k13
      have GS13 := GS12.kt k13
      refine ⟨_, rfl, L, rfl, ⟨_, SqL.of h13⟩, for_list (xs := cs.map sV) (fun i σ H' => ∃ (v3 v4 : Option V), σ = [some (.ref sa), some (.ref d), some (sV l), some (sV c), some (.ref pa), some (nV (1 + r7)), some gv, some sv, some (nV a), some (.ref L), v1, v2, v3, v4, none] ∧ Same H13 H')
        ⟨none, none, rfl, Same.refl H13⟩ (fun i σ H' _ z => by obtain ⟨_, _, _, s⟩ := z; exact SqL.of (s _ _ h13)) ?_ ?_⟩
      · rintro i x σ H14 hx ⟨v3, v4, rfl, s14⟩
        obtain ⟨y, hy, rfl⟩ : ∃ y, cs[i]? = some y ∧ x = sV y := by
          rw [List.getElem?_map] at hx
          cases e : cs[i]? with
          | none =>
            rw [e] at hx
            cases hx
          | some y =>
            rw [e] at hx
            exact ⟨y, rfl, (Option.some.inj hx).symm⟩
        obtain ⟨hy1, hy2⟩ := ok13 y (List.mem_of_getElem? hy)
        have GR14 := GR13.kt (Kt.of s14)
        have GS14 := GS13.kt (Kt.of s14)
        obtain ⟨g, nv, ev, rfl, hg, hnv, hev⟩ := id GR14
        refine ⟨_, rfl, g, _, _, _, rfl, rfl, hg, rfl, _, rfl, _, rfl, nv, ns, y, 1 + r7, rfl, hnv, G, hy1, by omega, fun H15 u s15 o15 => ?_⟩
        refine ⟨_, rfl, _, rfl, _, ns, es, y, rfl, GR14.kt (Kt.of s15), GGf, hy1, by omega, fun H16 u2 s16 o16 => ⟨_, rfl, due ns (1 + r7) y, by rw [← L1 y]; exact o16, o15.kt (Kt.of s16), _, rfl, ?_⟩⟩
        refine iteF ?_
        refine ⟨_, rfl, _, rfl, _, ns, rs, y, rfl, GS14.kt (Kt.of (s15.trans s16)), GGr, hy1, by omega, fun H17 u3 s17 o17 => ⟨_, rfl, due ns (1 + r7) y, by rw [← L2 y]; exact o17, o15.kt (Kt.of (s16.trans s17)), _, rfl, ?_⟩⟩
        refine iteF ?_
        exact ⟨_, _, rfl, s14.trans (s15.trans (s16.trans s17))⟩
      · rintro σ H14 ⟨v3, v4, rfl, s14⟩
        exact q H14
end
end Sh
namespace Sh
open PySem PySem.Spec L2 M31
open PyProof.Rows hiding St
/-- a def of the text, as the top leaves it -/
structure Here (K : PySem.W.Frag) (x : Str) (st : Stmt) : Prop where
  ex : ∃ (f : Addr) (fd : FuncData), PySem.W.nsIn K mainGlobals x = some (some (.ref f)) ∧ Fun K x x st f fd
theorem here_mk {K : PySem.W.Frag} {x : Str} {st : Stmt} {f : Addr} {oc : Value} {od an : Option Addr} {osl : Array (Option Value)} {kV doc pm cdv ct : Value} (a : PySem.W.nsIn K mainGlobals x = some (some (.ref f)))
    (l : K.lookup f = some ⟨oc, od, .func (PySem.W.fnOf x x (defArgs st) (defBody st) (defScope st) .none kV doc pm an cdv ct), osl⟩) (c : PySem.W.codeIn K cdv x = true) (k : PySem.W.keepIn K (.ref f) = true) : Here K x st := ⟨f, _, a, fun_mk l c k⟩
section
variable {l : PySem.W.OpenLaw} {w : World} {K : PySem.W.Frag} {h : Heap} {mg : Str → Option Value} {base : Heap}
theorem Here.cal {x : Str} {st : Stmt} {n : Nat} {ps : List Str} {sp : Sp} (X : K.In h) (G : h.Ns mainGlobals mg) (H : Here K x st) (hF : ∀ (f : Addr) (fd : FuncData), Fun K x x st f fd → FnOk l.prog w K mg base CX0 n f fd ps sp)
    (hb : ∀ (kV doc pm : Value) (an : Option Addr) (cdv ct : Value) (us : List Value), us.length = ps.length → bindArgs (PySem.W.fnOf x x (defArgs st) (defBody st) (defScope st) .none kV doc pm an cdv ct) ⟨us, []⟩ = pure (ps.zip us)) : Cal l.prog w K mg base n x sp := by
  obtain ⟨f, fd, a, F⟩ := H.ex
  exact ⟨f, fd, ps, hF f fd F, PySem.W.mg_of X G a, F.kp, F.binds hb⟩
theorem all_mk {fa : Addr} {t1 t2 : Tok} (X : K.In h) (G : h.Ns mainGlobals mg) (hfa : mg "law" = some (.ref fa))
    (z1 : PySem.W.nsIn K mainGlobals "len" = some none) (z2 : PySem.W.nsIn K mainGlobals "range" = some none) (z3 : PySem.W.nsIn K mainGlobals "tuple" = some none) (z4 : PySem.W.nsIn K mainGlobals "list" = some none) (z5 : PySem.W.nsIn K mainGlobals "max" = some none) (z6 : PySem.W.nsIn K mainGlobals "any" = some none) (z7 : PySem.W.nsIn K mainGlobals "sorted" = some none) (z8 : PySem.W.nsIn K mainGlobals "int" = some none) (z9 : PySem.W.nsIn K mainGlobals "abs" = some none)
    (y1 : PySem.W.nsIn K mainGlobals "PIECE_LIMIT" = some (some (.int 40 t1))) (y2 : PySem.W.nsIn K mainGlobals "LETTER_LIMIT" = some (some (.int 60 t2)))
    (e1 : Here K "need_circle" sNeed) (e2 : Here K "read_round" sRound) (e3 : Here K "circle_starts" sStarts) (e4 : Here K "is_contained" sCont) (e5 : Here K "free_pieces" sFree) (e6 : Here K "is_overlap" sOv) (e7 : Here K "overlap_graph" sGraph) (e8 : Here K "check_graph" sCheck) (e9 : Here K "traced" sTr) (e10 : Here K "spelled" sSp) (e11 : Here K "is_carried" sCarr) (e12 : Here K "reduced" sRed)
    (e13 : Here K "_law_begin" sBegin) (e14 : Here K "_law_take" sTake) (e15 : Here K "_law_letters" sLet) (e16 : Here K "_law_signs" sSigns) (e17 : Here K "_law_text" sText) (e18 : Here K "_law_rich" sRich) (e19 : Here K "_law_round" sLRound) (e20 : Here K "_law_pieces_of" sPcs) (e21 : Here K "_law_due" sDue) (e22 : Here K "_law_ring" sRing) (e23 : Here K "law" sLaw) :
    ∃ fd : FuncData, (∀ (s : Shared) (v : Value), BindsTo s fd ⟨[v], []⟩ [("_law_script", v)]) ∧ ∀ base : Heap, K.In base → base.Ns mainGlobals mg → FnOk l.prog w K mg base CX0 4 fa fd ["_law_script"] (spLaw K) := by
  have T : Txt mg := ⟨PySem.W.mg_none_of X G z1, PySem.W.mg_none_of X G z2, PySem.W.mg_none_of X G z3, PySem.W.mg_none_of X G z4, PySem.W.mg_none_of X G z5, PySem.W.mg_none_of X G z6, PySem.W.mg_none_of X G z7, PySem.W.mg_none_of X G z8, PySem.W.mg_none_of X G z9, ⟨_, PySem.W.mg_of X G y1⟩, ⟨_, PySem.W.mg_of X G y2⟩⟩
  obtain ⟨f, fd, a, F⟩ := e23.ex
  have e := hfa.symm.trans (PySem.W.mg_of X G a)
  cases e
  obtain ⟨oc, od, kV, doc, pm, an, cdv, ct, osl, rfl, lk, hcd⟩ := id F.ex
  refine ⟨PySem.W.fnOf "law" "law" (defArgs sLaw) (defBody sLaw) (defScope sLaw) .none kV doc pm an cdv ct, fun s v => .of_eq rfl, fun base _ _ => ?_⟩
  have c1 : Cal l.prog w K mg base 1 "need_circle" spNeed := e1.cal X G (fun _ _ F => ok_need F) fun _ _ _ _ _ _ us hl => match us, hl with | [_], _ => rfl
  have c2 : Cal l.prog w K mg base 1 "read_round" spRound := e2.cal X G (fun _ _ F => ok_round F T) fun _ _ _ _ _ _ us hl => match us, hl with | [_, _, _], _ => rfl
  have c3 : Cal l.prog w K mg base 2 "circle_starts" spStarts := e3.cal X G (fun _ _ F => ok_starts F T c1 c2) fun _ _ _ _ _ _ us hl => match us, hl with | [_, _], _ => rfl
  have c4 : Cal l.prog w K mg base 1 "is_contained" (spCont K) := e4.cal X G (fun _ _ F => ok_cont F T) fun _ _ _ _ _ _ us hl => match us, hl with | [_, _], _ => rfl
  have c5 : Cal l.prog w K mg base 2 "free_pieces" (spFree K) := e5.cal X G (fun _ _ F => ok_free F T c4) fun _ _ _ _ _ _ us hl => match us, hl with | [_], _ => rfl
  have c6 : Cal l.prog w K mg base 1 "is_overlap" spOv := e6.cal X G (fun _ _ F => ok_ov F T) fun _ _ _ _ _ _ us hl => match us, hl with | [_, _, _], _ => rfl
  have c7 : Cal l.prog w K mg base 3 "overlap_graph" (spGraph K) := e7.cal X G (fun _ _ F => ok_graph F T c5 c6) fun _ _ _ _ _ _ us hl => match us, hl with | [_, _], _ => rfl
  have c8 : Cal l.prog w K mg base 2 "check_graph" (spCheck K) := e8.cal X G (fun _ _ F => ok_check F T c4 c6) fun _ _ _ _ _ _ us hl => match us, hl with | [_], _ => rfl
  have c9 : Cal l.prog w K mg base 3 "traced" (spTr K) := e9.cal X G (fun _ _ F => ok_tr F T c8 c1 c3) fun _ _ _ _ _ _ us hl => match us, hl with | [_, _], _ => rfl
  have c10 : Cal l.prog w K mg base 3 "spelled" (spSp K) := e10.cal X G (fun _ _ F => ok_sp F T c8) fun _ _ _ _ _ _ us hl => match us, hl with | [_, _], _ => rfl
  have c11 : Cal l.prog w K mg base 1 "is_carried" (spCarr K) := e11.cal X G (fun _ _ F => ok_carr F T) fun _ _ _ _ _ _ us hl => match us, hl with | [_, _, _], _ => rfl
  have c12 : Cal l.prog w K mg base 3 "reduced" (spRed K) := e12.cal X G (fun _ _ F => ok_red F T c8 c11) fun _ _ _ _ _ _ us hl => match us, hl with | [_], _ => rfl
  have c13 : Cal l.prog w K mg base 1 "_law_begin" (spBegin K) := e13.cal X G (fun _ _ F => ok_begin F T) fun _ _ _ _ _ _ us hl => match us, hl with | [_], _ => rfl
  have c14 : Cal l.prog w K mg base 1 "_law_take" spTake := e14.cal X G (fun _ _ F => ok_take F T) fun _ _ _ _ _ _ us hl => match us, hl with | [_, _], _ => rfl
  have c15 : Cal l.prog w K mg base 1 "_law_letters" spLet := e15.cal X G (fun _ _ F => ok_let F) fun _ _ _ _ _ _ us hl => match us, hl with | [], _ => rfl
  have c16 : Cal l.prog w K mg base 2 "_law_signs" spSigns := e16.cal X G (fun _ _ F => ok_signs F c14 c15) fun _ _ _ _ _ _ us hl => match us, hl with | [_], _ => rfl
  have c17 : Cal l.prog w K mg base 2 "_law_text" spText := e17.cal X G (fun _ _ F => ok_text F T c14) fun _ _ _ _ _ _ us hl => match us, hl with | [_, _, _], _ => rfl
  have c18 : Cal l.prog w K mg base 3 "_law_rich" spRich := e18.cal X G (fun _ _ F => ok_rich F T c14 c17) fun _ _ _ _ _ _ us hl => match us, hl with | [_, _, _], _ => rfl
  have c19 : Cal l.prog w K mg base 1 "_law_round" spRound := e19.cal X G (fun _ _ F => ok_lround F T) fun _ _ _ _ _ _ us hl => match us, hl with | [_, _, _], _ => rfl
  have c20 : Cal l.prog w K mg base 3 "_law_pieces_of" (spPcs K) := e20.cal X G (fun _ _ F => ok_pcs F T c14 c17 c19) fun _ _ _ _ _ _ us hl => match us, hl with | [_, _, _], _ => rfl
  have c21 : Cal l.prog w K mg base 2 "_law_due" (spDue K) := e21.cal X G (fun _ _ F => ok_due F T c19) fun _ _ _ _ _ _ us hl => match us, hl with | [_, _, _], _ => rfl
  have c22 : Cal l.prog w K mg base 2 "_law_ring" (spRing K) := e22.cal X G (fun _ _ F => ok_ring F T c14) fun _ _ _ _ _ _ us hl => match us, hl with | [_, _], _ => rfl
  exact ok_law F T c13 c16 c18 c14 c20 c7 c12 c17 c22 c10 c21 c9
end
theorem walk {l : PySem.W.OpenLaw} {q : Program} {loose : List Str} {XP : (Str → Option Value) → Heap → Prop} {YP : World → Heap → Prop} {d : DefRec} {K : Params → PySem.W.Frag} (hn : l.most = some 63) (hdf : d.params.defaults = [])
    (hY : ∀ (w : World) (h : Heap), YP w h → (K w.params).In h)
    (F : ∀ (w : World) (mg : Str → Option Value) (fa : Addr) (h : Heap), (K w.params).In h → h.Ns mainGlobals mg → mg d.name = some (.ref fa) →
      ∃ fd : FuncData, (∀ (s : Shared) (u : Value), BindsTo s fd ⟨[u], []⟩ [("_law_script", u)]) ∧ ∀ base : Heap, (K w.params).In base → base.Ns mainGlobals mg → FnOk l.prog w (K w.params) mg base CX0 4 fa fd ["_law_script"] (spLaw (K w.params))) :
    PySem.W.WalkO q loose XP YP l.row.toRowW d [] (fun f vs => PySem.call f vs) :=
  L2.walk_of (n := 63) (k := 4) (x := "_law_script") (CX := fun _ => CX0) (sp := fun w => spLaw (K w.params)) hn (by decide) hdf ⟨rfl, by decide, by decide⟩ hY F (fun _ _ a ns hl _ hS => ⟨a, ns, rfl, hS, hl, fun _ => rfl⟩) fun _ _ _ _ _ z => z
end Sh
open PySem PySem.W
open PyProof.Rows hiding St
set_option maxRecDepth 100000 in
set_option maxHeartbeats 0 in
theorem PySem.Challenge.cw_textshards_k31_whole_reduction_keeps_all_holds : PySem.Challenge.rw_textshards_k31_whole_reduction_keeps_all.Holds := by
  w_on; o_law; k_head; (case hw => w_witness2)
  k_fill
  refine Sh.walk (l := PySem.Challenge.rw_textshards_k31_whole_reduction_keeps_all) rfl rfl (fun w h Y => PySem.W.kIn_of Y) ?F
  case F =>
    intro w mg fa h KX G hmg
    refine' Sh.all_mk KX G hmg ?z1 ?z2 ?z3 ?z4 ?z5 ?z6 ?z7 ?z8 ?z9 ?y1 ?y2 ?e1 ?e2 ?e3 ?e4 ?e5 ?e6 ?e7 ?e8 ?e9 ?e10 ?e11 ?e12 ?e13 ?e14 ?e15 ?e16 ?e17 ?e18 ?e19 ?e20 ?e21 ?e22 ?e23
    (case z1 => k_is); (case z2 => k_is); (case z3 => k_is); (case z4 => k_is); (case z5 => k_is); (case z6 => k_is); (case z7 => k_is); (case z8 => k_is); (case z9 => k_is); (case y1 => k_is); (case y2 => k_is)
    all_goals
      refine' Sh.here_mk ?a ?l ?c ?k
      (case a => k_is); (case l => k_is); (case c => k_is); (case k => k_is)
#print axioms PySem.Challenge.cw_textshards_k31_whole_reduction_keeps_all_holds
