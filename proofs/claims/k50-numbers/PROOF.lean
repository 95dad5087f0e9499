import PyProof.Rows.All
import Wide.All
import OpenK.AllK
import Wide.FinOn
import HandS.ForMost
import HandS.IsInst
import HandS.Style
import HandS.TupAny
import HandS.SortInts
import HandS.Conv
import HandS.Strs
import HandS.Nested
import HandS.EndTab
import PySem.Challenge.RW_meaningmill_k50_numbers
import HandS.SetBool
set_option linter.all false
namespace K50

/-! rows over a list of values, in lexical order -/
def rowsOver (V : List Int) : Nat → List (List Int)
  | 0 => [[]]
  | k + 1 => V.flatMap fun n => (rowsOver V k).map (n :: ·)

theorem mem_rowsOver {V : List Int} : ∀ {k : Nat} {r : List Int}, r ∈ rowsOver V k ↔ r.length = k ∧ ∀ x ∈ r, x ∈ V
  | 0, r => by
    simp only [rowsOver, List.mem_singleton]
    constructor
    · rintro rfl; simp
    · rintro ⟨h, _⟩; exact List.eq_nil_of_length_eq_zero h
  | k + 1, r => by
    simp only [rowsOver, List.mem_flatMap, List.mem_map]
    constructor
    · rintro ⟨n, hn, t, ht, rfl⟩
      obtain ⟨h1, h2⟩ := (mem_rowsOver (k := k)).mp ht
      refine ⟨by simp [h1], fun x hx => ?_⟩
      rcases List.mem_cons.mp hx with rfl | hx
      · exact hn
      · exact h2 x hx
    · rintro ⟨h1, h2⟩
      cases r with
      | nil => simp at h1
      | cons n t =>
        refine ⟨n, h2 n List.mem_cons_self, t, (mem_rowsOver (k := k)).mpr ⟨by simpa using h1, fun x hx => h2 x (List.mem_cons_of_mem _ hx)⟩, rfl⟩

/-- strictly rising -/
abbrev Up (V : List Int) : Prop := V.Pairwise (· < ·)

/-- pointwise below -/
def Le : List Int → List Int → Prop
  | [], [] => True
  | a :: r, b :: t => a ≤ b ∧ Le r t
  | _, _ => False

theorem find_flatMap {α β : Type} (P : β → Bool) (f : α → List β) : ∀ V : List α, (V.flatMap f).find? P = V.findSome? fun n => (f n).find? P
  | [] => rfl
  | a :: V => by
    rw [List.flatMap_cons, List.find?_append, List.findSome?_cons, find_flatMap P f V]
    cases (f a).find? P <;> rfl

theorem find_map_cons (P : List Int → Bool) (n : Int) (l : List (List Int)) : (l.map (n :: ·)).find? P = (l.find? fun t => P (n :: t)).map (n :: ·) := by
  rw [List.find?_map]; rfl

/-- the first row that P finds is the only one below it -/
theorem find_least {V : List Int} (hV : Up V) : ∀ {k : Nat} {P : List Int → Bool} {r r' : List Int}, (rowsOver V k).find? P = some r → r' ∈ rowsOver V k → P r' = true → Le r' r → r' = r
  | 0, P, r, r', h, hr', _, _ => by
    have h1 := List.mem_of_find?_eq_some h
    simp only [rowsOver, List.mem_singleton] at h1 hr'
    rw [h1, hr']
  | k + 1, P, r, r', h, hr', hP, hle => by
    have h0 := h
    simp only [rowsOver] at h
    rw [find_flatMap] at h
    obtain ⟨l1, n, l2, hl, hn, hno⟩ := List.findSome?_eq_some_iff.mp h
    rw [find_map_cons] at hn
    cases ht : (rowsOver V k).find? (fun t => P (n :: t)) with
    | none => rw [ht] at hn; cases hn
    | some t =>
      rw [ht] at hn
      have e : r = n :: t := (Option.some.inj hn).symm
      subst e
      cases r' with
      | nil => exact absurd hle (by simp [Le])
      | cons n' t' =>
        obtain ⟨hlen, hmem⟩ := mem_rowsOver.mp hr'
        have ht' : t' ∈ rowsOver V k := mem_rowsOver.mpr ⟨by simpa using hlen, fun x hx => hmem x (List.mem_cons_of_mem _ hx)⟩
        obtain ⟨hnn, hle⟩ := hle
        have en : n' = n := by
          have hn' : n' ∈ V := hmem n' List.mem_cons_self
          rw [hl] at hn' hV
          rcases List.mem_append.mp hn' with q | q
          · have z := hno n' q
            rw [find_map_cons] at z
            cases hz : (rowsOver V k).find? (fun t => P (n' :: t)) with
            | none => exact absurd hP (by simpa using List.find?_eq_none.mp hz t' ht')
            | some u => rw [hz] at z; cases z
          · rcases List.mem_cons.mp q with q | q
            · exact q
            · have := (List.pairwise_cons.mp (List.pairwise_append.mp hV).2.1).1 n' q
              omega
        subst en
        have := find_least hV ht ht' hP hle
        rw [this]

theorem filter_flatMap' {α β : Type} (p : β → Bool) (f : α → List β) : ∀ V : List α, (V.flatMap f).filter p = V.flatMap fun a => (f a).filter p
  | [] => rfl
  | a :: V => by rw [List.flatMap_cons, List.filter_append, filter_flatMap' p f V, List.flatMap_cons]

theorem rows_filter (V : List Int) (q : Int → Bool) : ∀ k, rowsOver (V.filter q) k = (rowsOver V k).filter (fun r => r.all q)
  | 0 => rfl
  | k + 1 => by
    have ih := rows_filter V q k
    show (V.filter q).flatMap (fun n => (rowsOver (V.filter q) k).map (n :: ·)) = (V.flatMap fun n => (rowsOver V k).map (n :: ·)).filter (fun r => r.all q)
    rw [filter_flatMap', ih]
    generalize rowsOver V k = R
    clear ih
    induction V with
    | nil => rfl
    | cons a V ih =>
      rw [List.flatMap_cons, List.filter_cons]
      cases hq : q a with
      | true =>
        rw [if_pos rfl, List.flatMap_cons, ih]
        congr 1
        rw [List.filter_map]
        congr 1
        apply List.filter_congr
        intro r _
        simp [hq]
      | false =>
        rw [if_neg (by decide), ih]
        have : (R.map (a :: ·)).filter (fun r => r.all q) = [] := by
          rw [List.filter_eq_nil_iff]
          intro r hr
          obtain ⟨t, _, rfl⟩ := List.mem_map.mp hr
          simp [hq]
        rw [this, List.nil_append]

theorem find_filter_eq {α : Type} (P q : α → Bool) : ∀ (l : List α), (∀ r, l.find? P = some r → q r = true) → (l.filter q).find? P = l.find? P
  | [], _ => rfl
  | a :: l, h => by
    rw [List.find?_cons] at h ⊢
    rw [List.filter_cons]
    cases hP : P a with
    | true =>
      rw [hP] at h
      have := h a rfl
      rw [if_pos this, List.find?_cons, hP]
    | false =>
      rw [hP] at h
      have ih := find_filter_eq P q l h
      cases hq : q a with
      | true => rw [if_pos rfl, List.find?_cons, hP]; exact ih
      | false => rw [if_neg (by decide)]; exact ih

/-- two rising lists with the same members are one -/
theorem up_ext : ∀ {S T : List Int}, Up S → Up T → (∀ x, x ∈ S ↔ x ∈ T) → S = T
  | [], [], _, _, _ => rfl
  | [], b :: T, _, _, h => by have := (h b).mpr List.mem_cons_self; simp at this
  | a :: S, [], _, _, h => by have := (h a).mp List.mem_cons_self; simp at this
  | a :: S, b :: T, h1, h2, h => by
    obtain ⟨h3, h4⟩ := List.pairwise_cons.mp h1
    obtain ⟨h5, h6⟩ := List.pairwise_cons.mp h2
    have e : a = b := by
      rcases List.mem_cons.mp ((h a).mp List.mem_cons_self) with q | q
      · exact q
      · rcases List.mem_cons.mp ((h b).mpr List.mem_cons_self) with q' | q'
        · exact q'.symm
        · have := h5 a q; have := h3 b q'; omega
    subst e
    rw [up_ext h4 h6 fun x => ?_]
    constructor
    · intro hx
      rcases List.mem_cons.mp ((h x).mp (List.mem_cons_of_mem _ hx)) with q | q
      · have := h3 x hx; omega
      · exact q
    · intro hx
      rcases List.mem_cons.mp ((h x).mpr (List.mem_cons_of_mem _ hx)) with q | q
      · have := h5 x hx; omega
      · exact q

theorem nodup_le : ∀ (l r : List Int), l.Nodup → (∀ x ∈ l, x ∈ r) → l.length ≤ r.length
  | [], _, _, _ => Nat.zero_le _
  | a :: l, r, h, hs => by
    obtain ⟨h1, h2⟩ := List.nodup_cons.mp h
    have ha : a ∈ r := hs a List.mem_cons_self
    have := nodup_le l (r.erase a) h2 fun x hx => (List.mem_erase_of_ne (fun e => h1 (by rw [← e]; exact hx))).mpr (hs x (List.mem_cons_of_mem _ hx))
    rw [List.length_erase_of_mem ha] at this
    have hp : 0 < r.length := List.length_pos_of_mem ha
    simp only [List.length_cons]
    omega

/-- the greatest number of a list that is at most x -/
theorem greatest {l : List Int} {x : Int} (h : ∃ b ∈ l, b ≤ x) : ∃ c ∈ l, c ≤ x ∧ ∀ b ∈ l, b ≤ x → b ≤ c := by
  induction l with
  | nil => obtain ⟨b, hb, _⟩ := h; simp at hb
  | cons a l ih =>
    by_cases hl : ∃ b ∈ l, b ≤ x
    · obtain ⟨c, hc, hcx, hm⟩ := ih hl
      by_cases ha : a ≤ x ∧ c ≤ a
      · refine ⟨a, List.mem_cons_self, ha.1, fun b hb hbx => ?_⟩
        rcases List.mem_cons.mp hb with rfl | hb
        · exact Int.le_refl _
        · have := hm b hb hbx; omega
      · refine ⟨c, List.mem_cons_of_mem _ hc, hcx, fun b hb hbx => ?_⟩
        rcases List.mem_cons.mp hb with rfl | hb
        · omega
        · exact hm b hb hbx
    · obtain ⟨b, hb, hbx⟩ := h
      rcases List.mem_cons.mp hb with rfl | hb
      · refine ⟨b, List.mem_cons_self, hbx, fun b' hb' hbx' => ?_⟩
        rcases List.mem_cons.mp hb' with rfl | hb'
        · exact Int.le_refl _
        · exact absurd ⟨b', hb', hbx'⟩ hl
      · exact absurd ⟨b, hb, hbx⟩ hl
theorem least {l : List Int} {x : Int} (h : ∃ b ∈ l, x < b) : ∃ c ∈ l, x < c ∧ ∀ b ∈ l, x < b → c ≤ b := by
  induction l with
  | nil => obtain ⟨b, hb, _⟩ := h; simp at hb
  | cons a l ih =>
    by_cases hl : ∃ b ∈ l, x < b
    · obtain ⟨c, hc, hcx, hm⟩ := ih hl
      by_cases ha : x < a ∧ a ≤ c
      · refine ⟨a, List.mem_cons_self, ha.1, fun b hb hbx => ?_⟩
        rcases List.mem_cons.mp hb with rfl | hb
        · exact Int.le_refl _
        · have := hm b hb hbx; omega
      · refine ⟨c, List.mem_cons_of_mem _ hc, hcx, fun b hb hbx => ?_⟩
        rcases List.mem_cons.mp hb with rfl | hb
        · omega
        · exact hm b hb hbx
    · obtain ⟨b, hb, hbx⟩ := h
      rcases List.mem_cons.mp hb with rfl | hb
      · refine ⟨b, List.mem_cons_self, hbx, fun b' hb' hbx' => ?_⟩
        rcases List.mem_cons.mp hb' with rfl | hb'
        · exact Int.le_refl _
        · exact absurd ⟨b', hb', hbx'⟩ hl
      · exact absurd ⟨b, hb, hbx⟩ hl

/-- some number c + j, 1 ≤ j ≤ n, is not in a list of n numbers one of which is beyond c + n -/
theorem pigeon {r : List Int} {c x : Int} {n : Nat} (hn : r.length ≤ n) (hx : x ∈ r) (hc : c + n < x) : ∃ j : Nat, 1 ≤ j ∧ j ≤ n ∧ c + j ∉ r := by
  apply Classical.byContradiction
  intro no
  have all : ∀ j : Nat, 1 ≤ j → j ≤ n → c + j ∈ r := fun j h1 h2 => Classical.byContradiction fun q => no ⟨j, h1, h2, q⟩
  have nd : (x :: (List.range n).map fun j : Nat => c + ((j + 1 : Nat) : Int)).Nodup := by
    refine List.nodup_cons.mpr ⟨fun h => ?_, ?_⟩
    · obtain ⟨j, hj, e⟩ := List.mem_map.mp h
      have := List.mem_range.mp hj
      omega
    · refine List.Pairwise.map (R := fun a b : Nat => a < b) _ (fun a b h => ?_) List.pairwise_lt_range
      intro e; omega
  have := nodup_le _ r nd fun y hy => by
    rcases List.mem_cons.mp hy with rfl | hy
    · exact hx
    · obtain ⟨j, hj, rfl⟩ := List.mem_map.mp hy
      have := List.mem_range.mp hj
      exact all (j + 1) (by omega) (by omega)
  simp only [List.length_cons, List.length_map, List.length_range] at this
  omega

/-! comparisons -/
inductive Opd where
  | at (i : Nat)
  | is (c : Int)
  deriving DecidableEq
inductive Sg where
  | lt | le | eq | ne
  deriving DecidableEq
structure Cm where
  l : Opd
  s : Sg
  r : Opd
  deriving DecidableEq
def Opd.val (row : List Int) : Opd → Option Int
  | .at i => row[i]?
  | .is c => some c
def Sg.tell (a b : Int) : Sg → Bool
  | .lt => decide (a < b)
  | .le => decide (a ≤ b)
  | .eq => decide (a = b)
  | .ne => !decide (a = b)
/-- is_true -/
def Cm.tell (c : Cm) (row : List Int) : Option Bool :=
  match c.l.val row, c.r.val row with
  | some a, some b => some (c.s.tell a b)
  | _, _ => none
def Cm.yes (c : Cm) (row : List Int) : Bool := c.tell row == some true
def Cm.no (c : Cm) (row : List Int) : Bool := c.tell row == some false
/-- the numbers that a comparison names -/
def Opd.consts : Opd → List Int
  | .at _ => []
  | .is c => [c]
def Cm.consts (c : Cm) : List Int := c.l.consts ++ c.r.consts
def consts (cs : List Cm) : List Int := cs.flatMap Cm.consts

/-- w replaced by u -/
def swap (w u x : Int) : Int := if x = w then u else x

theorem le_swap {w u : Int} (h : u < w) : ∀ r : List Int, Le (r.map (swap w u)) r
  | [] => trivial
  | a :: r => ⟨by unfold swap; split <;> omega, le_swap h r⟩

theorem val_swap {w u : Int} (r : List Int) {o : Opd} (h : ∀ c ∈ o.consts, c ≠ w) : o.val (r.map (swap w u)) = (o.val r).map (swap w u) := by
  cases o with
  | «at» i => show (r.map (swap w u))[i]? = (r[i]?).map (swap w u); rw [List.getElem?_map]
  | is c =>
    show some c = some (swap w u c)
    unfold swap
    rw [if_neg (h c List.mem_cons_self)]

theorem val_mem {r : List Int} {o : Opd} {a : Int} (h : o.val r = some a) : a ∈ r ∨ a ∈ o.consts := by
  cases o with
  | «at» i => exact .inl (List.mem_of_getElem? h)
  | is c => exact .inr (by rw [← Option.some.inj h]; exact List.mem_cons_self)

theorem tell_swap {w u : Int} (huw : u < w) {r : List Int} {c : Cm} (hc : ∀ b ∈ c.consts, b < u ∨ w < b) (hr : ∀ x ∈ r, x < u ∨ w ≤ x) : c.tell (r.map (swap w u)) = c.tell r := by
  have h1 : ∀ b ∈ c.l.consts, b ≠ w := fun b hb => by have := hc b (List.mem_append_left _ hb); omega
  have h2 : ∀ b ∈ c.r.consts, b ≠ w := fun b hb => by have := hc b (List.mem_append_right _ hb); omega
  unfold Cm.tell
  rw [val_swap r h1, val_swap r h2]
  cases e1 : c.l.val r with
  | none => rfl
  | some a =>
    cases e2 : c.r.val r with
    | none => rfl
    | some b =>
      have ha : a < u ∨ w ≤ a := by
        rcases val_mem e1 with q | q
        · exact hr a q
        · have := hc a (List.mem_append_left _ q); omega
      have hb : b < u ∨ w ≤ b := by
        rcases val_mem e2 with q | q
        · exact hr b q
        · have := hc b (List.mem_append_right _ q); omega
      show some (c.s.tell (swap w u a) (swap w u b)) = some (c.s.tell a b)
      congr 1
      unfold swap
      cases c.s with
      | lt => exact decide_eq_decide.mpr (by split <;> split <;> omega)
      | le => exact decide_eq_decide.mpr (by split <;> split <;> omega)
      | eq => exact decide_eq_decide.mpr (by split <;> split <;> omega)
      | ne => exact congrArg (fun b => !b) (decide_eq_decide.mpr (by split <;> split <;> omega))

/-- the small rows suffice -/
theorem core {V S : List Int} {k : Nat} {top : Int} {cs : List Cm} {P : List Int → Bool} (hV : Up V) (hS : Up S) (hSV : ∀ x ∈ S, x ∈ V) (hb : ∀ v ∈ V, 0 ≤ v ∧ v ≤ top)
    (hin : ∀ b ∈ 0 :: consts cs, ∀ j : Nat, j ≤ k → b + j ≤ top → 0 ≤ b → b + j ∈ S)
    (hP : ∀ r r' : List Int, (∀ c ∈ cs, c.tell r' = c.tell r) → P r' = P r) : (rowsOver S k).find? P = (rowsOver V k).find? P := by
  have eS : S = V.filter (fun x => decide (x ∈ S)) := by
    refine up_ext hS (hV.sublist List.filter_sublist) fun x => ?_
    rw [List.mem_filter, decide_eq_true_eq]
    exact ⟨fun h => ⟨hSV x h, h⟩, fun h => h.2⟩
  have e2 : rowsOver S k = (rowsOver V k).filter (fun r => r.all fun x => decide (x ∈ S)) := by
    have := rows_filter V (fun x => decide (x ∈ S)) k
    rw [← eS] at this
    exact this
  rw [e2]
  refine find_filter_eq P _ _ fun r hr => ?_
  apply Classical.byContradiction
  intro hno
  obtain ⟨hl, hm⟩ := mem_rowsOver.mp (List.mem_of_find?_eq_some hr)
  have hPr : P r = true := List.find?_some hr
  have : ∃ x ∈ r, x ∉ S := by
    apply Classical.byContradiction
    intro q
    apply hno
    rw [List.all_eq_true]
    intro x hx
    exact decide_eq_true (Classical.byContradiction fun z => q ⟨x, hx, z⟩)
  obtain ⟨x, hx, hxS⟩ := this
  obtain ⟨hx0, hxt⟩ := hb x (hm x hx)
  obtain ⟨c, hc, hcx, hcm⟩ := greatest (l := (0 :: consts cs).filter (fun b => decide (0 ≤ b))) (x := x) ⟨0, by simp, hx0⟩
  obtain ⟨hc1, hc0⟩ := List.mem_filter.mp hc
  have hc0 : 0 ≤ c := of_decide_eq_true hc0
  have far : c + k < x := by
    apply Classical.byContradiction
    intro q
    have e : x = c + ((x - c).toNat : Nat) := by omega
    exact hxS (by rw [e]; exact hin c hc1 _ (by omega) (by omega) hc0)
  obtain ⟨j, hj1, hj2, hj3⟩ := pigeon (n := k) (by omega) hx far
  obtain ⟨w, hw, huw, hwm⟩ := least (l := r) (x := c + j) ⟨x, hx, by omega⟩
  have hwx : w ≤ x := hwm x hx (by omega)
  have huS : c + j ∈ S := hin c hc1 j hj2 (by omega) hc0
  have r'mem : r.map (swap w (c + j)) ∈ rowsOver V k := by
    refine mem_rowsOver.mpr ⟨by simpa using hl, fun y hy => ?_⟩
    obtain ⟨z, hz, rfl⟩ := List.mem_map.mp hy
    unfold swap
    split
    · exact hSV _ huS
    · exact hm z hz
  have hP' : P (r.map (swap w (c + j))) = true := by
    rw [hP r _ fun c' hc' => ?_]
    · exact hPr
    · refine tell_swap huw (fun b hb' => ?_) (fun y hy => ?_)
      · have hb0 : b ∈ 0 :: consts cs := List.mem_cons_of_mem _ (List.mem_flatMap.mpr ⟨c', hc', hb'⟩)
        by_cases hbx : b ≤ x
        · by_cases h0 : 0 ≤ b
          · have := hcm b (List.mem_filter.mpr ⟨hb0, decide_eq_true h0⟩) hbx
            omega
          · omega
        · omega
      · by_cases hy1 : c + j < y
        · have := hwm y hy hy1; omega
        · have : y ≠ c + j := fun e => hj3 (by rw [← e]; exact hy)
          omega
  have eq := find_least hV hr r'mem hP' (le_swap huw r)
  have : w ∈ r.map (swap w (c + j)) := by rw [eq]; exact hw
  obtain ⟨z, hz, e⟩ := List.mem_map.mp this
  unfold swap at e
  split at e <;> omega

/-! the program's search -/
def firstRow (ns : List Int) (h : List Int → Bool) : Nat → List Int → Option (List Int)
  | 0, row => if h row then none else some row
  | k + 1, row => if h row then none else ns.findSome? fun n => firstRow ns h k (row ++ [n])
theorem find_none_of {α : Type} {P : α → Bool} {l : List α} (h : ∀ a ∈ l, P a = false) : l.find? P = none :=
  List.find?_eq_none.mpr fun a ha => by rw [h a ha]; decide
theorem firstRow_eq {ns : List Int} {h : List Int → Bool} (mono : ∀ r t, h r = true → h (r ++ t) = true) : ∀ (k : Nat) (row : List Int), firstRow ns h k row = ((rowsOver ns k).find? fun r => !h (row ++ r)).map (row ++ ·)
  | 0, row => by
    simp only [firstRow, rowsOver, List.find?_cons, List.append_nil]
    cases h row <;> simp
  | k + 1, row => by
    simp only [firstRow]
    cases hh : h row with
    | true =>
      rw [if_pos rfl, find_none_of fun r _ => by rw [mono row r hh]; rfl]
      rfl
    | false =>
      rw [if_neg (by decide)]
      simp only [rowsOver]
      rw [find_flatMap]
      have e : ∀ n, firstRow ns h k (row ++ [n]) = (((rowsOver ns k).map (n :: ·)).find? fun r => !h (row ++ r)).map (row ++ ·) := fun n => by
        rw [firstRow_eq mono k (row ++ [n]), find_map_cons]
        simp only [List.append_assoc, List.singleton_append, Option.map_map]
        rfl
      simp only [e]
      rw [List.map_findSome?]
      rfl

/-- the law's rows -/
def rowsIt (V : List Int) : Nat → List (List Int)
  | 0 => [[]]
  | k + 1 => (rowsIt V k).flatMap fun row => V.map fun v => row ++ [v]
theorem rows_snoc (V : List Int) : ∀ k, rowsOver V (k + 1) = (rowsOver V k).flatMap fun row => V.map fun v => row ++ [v]
  | 0 => by
    show V.flatMap (fun n => [[n]]) = (V.map fun v => [v]) ++ []
    rw [List.append_nil]
    induction V with
    | nil => rfl
    | cons a V ih => rw [List.flatMap_cons, ih]; rfl
  | k + 1 => by
    have ih := rows_snoc V k
    show V.flatMap (fun n => (rowsOver V (k + 1)).map (n :: ·)) = (V.flatMap fun n => (rowsOver V k).map (n :: ·)).flatMap fun row => V.map fun v => row ++ [v]
    rw [List.flatMap_assoc]
    congr 1
    funext n
    rw [ih, List.map_flatMap, List.flatMap_map]
    congr 1
    funext row
    rw [List.map_map]
    rfl
theorem rowsIt_eq (V : List Int) : ∀ k, rowsIt V k = rowsOver V k
  | 0 => rfl
  | k + 1 => by rw [rows_snoc, ← rowsIt_eq V k]; rfl

/-! what is due -/
def meets (cs : List Cm) (row : List Int) : Bool := cs.all fun c => c.yes row
def fails (rules : List (List Cm)) (row : List Int) : Bool := rules.all fun cs => !meets cs row
def hopeF (rules : List (List Cm)) (row : List Int) : Bool := rules.any fun cs => meets cs row
def hopeM (cs : List Cm) (row : List Int) : Bool := cs.any fun c => c.no row

theorem val_app {o : Opd} {r t : List Int} {a : Int} (h : o.val r = some a) : o.val (r ++ t) = some a := by
  cases o with
  | «at» i => 
    have : r[i]? = some a := h
    show (r ++ t)[i]? = some a
    rw [List.getElem?_append_left (List.getElem?_eq_some_iff.mp this).1]
    exact this
  | is c => exact h
theorem tell_app {c : Cm} {r t : List Int} {b : Bool} (h : c.tell r = some b) : c.tell (r ++ t) = some b := by
  unfold Cm.tell at h ⊢
  cases e1 : c.l.val r with
  | none => rw [e1] at h; cases h
  | some x =>
    cases e2 : c.r.val r with
    | none => rw [e1, e2] at h; cases h
    | some y =>
      rw [e1, e2] at h
      rw [val_app e1, val_app e2]
      exact h
theorem yes_app {c : Cm} {r t : List Int} (h : c.yes r = true) : c.yes (r ++ t) = true := by
  unfold Cm.yes at h ⊢
  rw [tell_app (b := true) (by simpa using h)]
  rfl
theorem no_app {c : Cm} {r t : List Int} (h : c.no r = true) : c.no (r ++ t) = true := by
  unfold Cm.no at h ⊢
  rw [tell_app (b := false) (by simpa using h)]
  rfl
theorem hopeF_mono (rules : List (List Cm)) (r t : List Int) (h : hopeF rules r = true) : hopeF rules (r ++ t) = true := by
  unfold hopeF meets at h ⊢
  obtain ⟨cs, h1, h2⟩ := List.any_eq_true.mp h
  exact List.any_eq_true.mpr ⟨cs, h1, List.all_eq_true.mpr fun c hc => yes_app (List.all_eq_true.mp h2 c hc)⟩
theorem hopeM_mono (cs : List Cm) (r t : List Int) (h : hopeM cs r = true) : hopeM cs (r ++ t) = true := by
  unfold hopeM at h ⊢
  obtain ⟨c, h1, h2⟩ := List.any_eq_true.mp h
  exact List.any_eq_true.mpr ⟨c, h1, no_app h2⟩

/-- all operands are places of a row of k numbers, or numbers not below 0 -/
def Opd.Ok (k : Nat) (C : List Int) : Opd → Prop
  | .at i => i < k
  | .is c => c ∈ C
def Cm.Ok (k : Nat) (C : List Int) (c : Cm) : Prop := c.l.Ok k C ∧ c.r.Ok k C
theorem Opd.Ok.val {k : Nat} {C : List Int} {o : Opd} (h : o.Ok k C) {row : List Int} (hr : row.length = k) : ∃ a, o.val row = some a := by
  cases o with
  | «at» i => 
    have h : i < k := h
    exact ⟨row[i]'(by omega), List.getElem?_eq_getElem _⟩
  | is c => exact ⟨c, rfl⟩
theorem Cm.Ok.tell {k : Nat} {C : List Int} {c : Cm} (h : c.Ok k C) {row : List Int} (hr : row.length = k) : c.tell row = some (c.yes row) := by
  obtain ⟨a, e1⟩ := h.1.val hr
  obtain ⟨b, e2⟩ := h.2.val hr
  unfold Cm.yes Cm.tell
  rw [e1, e2]
  show some (c.s.tell a b) = some (some (c.s.tell a b) == some true)
  cases c.s.tell a b <;> rfl
theorem Cm.Ok.no {k : Nat} {C : List Int} {c : Cm} (h : c.Ok k C) {row : List Int} (hr : row.length = k) : c.no row = !c.yes row := by
  unfold Cm.no
  rw [h.tell hr]
  cases c.yes row <;> rfl
theorem Opd.Ok.consts {k : Nat} {C : List Int} {o : Opd} (h : o.Ok k C) : ∀ b ∈ o.consts, b ∈ C := by
  cases o with
  | «at» i => intro b hb; simp [Opd.consts] at hb
  | is c => intro b hb; simp [Opd.consts] at hb; rw [hb]; exact h
theorem Cm.Ok.consts {k : Nat} {C : List Int} {c : Cm} (h : c.Ok k C) : ∀ b ∈ c.consts, b ∈ C := fun b hb => by
  rcases List.mem_append.mp hb with q | q
  · exact h.1.consts b q
  · exact h.2.consts b q

theorem find_congr {α : Type} {P Q : α → Bool} {l : List α} (h : ∀ a ∈ l, P a = Q a) : l.find? P = l.find? Q := by
  induction l with
  | nil => rfl
  | cons a l ih =>
    rw [List.find?_cons, List.find?_cons, h a List.mem_cons_self, ih fun b hb => h b (List.mem_cons_of_mem _ hb)]

/-- S: the program's numbers; V: the law's -/
structure Nums (top : Int) (k : Nat) (C : List Int) (cs : List Cm) (S V : List Int) : Prop where
  upV : Up V
  upS : Up S
  inV : ∀ x ∈ S, x ∈ V
  bnd : ∀ v ∈ V, 0 ≤ v ∧ v ≤ top
  inS : ∀ b ∈ 0 :: consts cs, ∀ j : Nat, j ≤ k → b + j ≤ top → b + j ∈ S

theorem failing_due {top : Int} {k : Nat} {C S V : List Int} {rules : List (List Cm)} (N : Nums top k C rules.flatten S V) :
    firstRow S (hopeF rules) k [] = (rowsOver V k).find? (fails rules) := by
  rw [firstRow_eq (hopeF_mono rules)]
  have e : (fun r => !hopeF rules ([] ++ r)) = fails rules := by
    funext r
    simp only [List.nil_append, hopeF, fails, List.not_any_eq_all_not]
  rw [e, show (fun x : List Int => [] ++ x) = id from rfl, Option.map_id, id]
  refine core (cs := rules.flatten) N.upV N.upS N.inV N.bnd (fun b hb j hj ht _ => N.inS b hb j hj ht) fun r r' h => ?_
  unfold fails meets Cm.yes
  rw [Bool.eq_iff_iff, List.all_eq_true, List.all_eq_true]
  have key : ∀ cs ∈ rules, (cs.all fun c => c.tell r' == some true) = (cs.all fun c => c.tell r == some true) := fun cs hcs => by
    rw [Bool.eq_iff_iff, List.all_eq_true, List.all_eq_true]
    have z : ∀ c ∈ cs, c.tell r' = c.tell r := fun c hc => h c (List.mem_flatten.mpr ⟨cs, hcs, hc⟩)
    exact ⟨fun q c hc => by rw [← z c hc]; exact q c hc, fun q c hc => by rw [z c hc]; exact q c hc⟩
  exact ⟨fun q cs hcs => by rw [← key cs hcs]; exact q cs hcs, fun q cs hcs => by rw [key cs hcs]; exact q cs hcs⟩

theorem meeting_due {top : Int} {k : Nat} {C S V : List Int} {cs : List Cm} (N : Nums top k C cs S V) (ok : ∀ c ∈ cs, c.Ok k C) :
    firstRow S (hopeM cs) k [] = (rowsOver V k).find? (meets cs) := by
  rw [firstRow_eq (hopeM_mono cs)]
  rw [show (fun x : List Int => [] ++ x) = id from rfl, Option.map_id, id]
  have e : (rowsOver S k).find? (fun r => !hopeM cs ([] ++ r)) = (rowsOver S k).find? (meets cs) := by
    refine find_congr fun r hr => ?_
    have hl := (mem_rowsOver.mp hr).1
    simp only [List.nil_append, hopeM, meets, List.not_any_eq_all_not]
    rw [Bool.eq_iff_iff, List.all_eq_true, List.all_eq_true]
    have z : ∀ c ∈ cs, (!c.no r) = c.yes r := fun c hc => by rw [(ok c hc).no hl, Bool.not_not]
    exact ⟨fun q c hc => by rw [← z c hc]; exact q c hc, fun q c hc => by rw [z c hc]; exact q c hc⟩
  rw [e]
  refine core (cs := cs) N.upV N.upS N.inV N.bnd (fun b hb j hj ht _ => N.inS b hb j hj ht) fun r r' h => ?_
  unfold meets Cm.yes
  rw [Bool.eq_iff_iff, List.all_eq_true, List.all_eq_true]
  exact ⟨fun q c hc => by rw [← h c hc]; exact q c hc, fun q c hc => by rw [h c hc]; exact q c hc⟩
end K50

set_option Elab.async false
set_option linter.all false
set_option maxRecDepth 100000
/-! Own small layer over HandS: data made of tuples, what a call may change, calls by name. -/
namespace My
open PySem L2 LamX

/-! ### data made of tuples -/
mutual
inductive Rep (K : PySem.W.Frag) (H : Hp) : V → PyData → Prop
  | non : Rep K H .non .none
  | bl (b : Bool) : Rep K H (.bl b) (.bool b)
  | int (i : Int) : Rep K H (.int i) (.int i)
  | str (x : Str) : Rep K H (.str x) (.str x)
  | tup {a : Addr} {xs : List V} {ds : List PyData} (h : SqT K H a xs) (r : RepAll K H xs ds) : Rep K H (.ref a) (.tuple ds)
inductive RepAll (K : PySem.W.Frag) (H : Hp) : List V → List PyData → Prop
  | nil : RepAll K H [] []
  | cons {v : V} {vs : List V} {d : PyData} {ds : List PyData} (h : Rep K H v d) (r : RepAll K H vs ds) : RepAll K H (v :: vs) (d :: ds)
end

/-- tuples stay -/
def Tk (H H' : Hp) : Prop := ∀ a xs, Rd H a (.tup xs) → Rd H' a (.tup xs)
theorem Tk.refl (H : Hp) : Tk H H := fun _ _ h => h
theorem Tk.trans {H H1 H2 : Hp} (a : Tk H H1) (b : Tk H1 H2) : Tk H H2 := fun x o h => b x o (a x o h)
theorem Tk.sq {K : PySem.W.Frag} {H H' : Hp} {a : Addr} {xs : List V} (e : Tk H H') (h : SqT K H a xs) : SqT K H' a xs := h.elim (fun q => .inl (e _ _ q)) .inr
section
variable {K : PySem.W.Frag} {H H' : Hp}
mutual
theorem Rep.keep (e : Tk H H') : ∀ {d : PyData} {v : V}, Rep K H v d → Rep K H' v d
  | _, _, .non => .non
  | _, _, .bl b => .bl b
  | _, _, .int i => .int i
  | _, _, .str x => .str x
  | _, _, .tup h r => .tup (e.sq h) (RepAll.keep e r)
theorem RepAll.keep (e : Tk H H') : ∀ {ds : List PyData} {vs : List V}, RepAll K H vs ds → RepAll K H' vs ds
  | _, _, .nil => .nil
  | _, _, .cons h r => .cons (Rep.keep e h) (RepAll.keep e r)
end
mutual
theorem Rep.dp : ∀ {d : PyData} {v : V}, Rep K H v d → Dp K H v d
  | _, _, .non => .non
  | _, _, .bl b => .bl b
  | _, _, .int i => .int i
  | _, _, .str x => .str x
  | _, _, .tup h r => .tup h (RepAll.dp r)
theorem RepAll.dp : ∀ {ds : List PyData} {vs : List V}, RepAll K H vs ds → DpAll K H vs ds
  | _, _, .nil => .nil
  | _, _, .cons h r => .cons (Rep.dp h) (RepAll.dp r)
end
theorem RepAll.length : ∀ {ds : List PyData} {vs : List V}, RepAll K H vs ds → vs.length = ds.length
  | _, _, .nil => rfl
  | _, _, .cons _ r => congrArg (· + 1) r.length
theorem RepAll.get : ∀ {ds : List PyData} {vs : List V} {i : Nat} {d : PyData}, RepAll K H vs ds → ds[i]? = some d → ∃ v, vs[i]? = some v ∧ Rep K H v d
  | _, _, 0, _, .cons h _, e => by simp at e; subst e; exact ⟨_, rfl, h⟩
  | _, _, i + 1, _, .cons _ r, e => by
    obtain ⟨v, h1, h2⟩ := RepAll.get (i := i) r (by simpa using e)
    exact ⟨v, by simpa using h1, h2⟩
theorem RepAll.at : ∀ {ds : List PyData} {vs : List V} {i : Nat} {v : V}, RepAll K H vs ds → vs[i]? = some v → ∃ d, ds[i]? = some d ∧ Rep K H v d
  | _, _, 0, _, .cons h _, e => by simp at e; subst e; exact ⟨_, rfl, h⟩
  | _, _, i + 1, _, .cons _ r, e => by
    obtain ⟨v, h1, h2⟩ := RepAll.at (i := i) r (by simpa using e)
    exact ⟨v, by simpa using h1, h2⟩
theorem RepAll.append : ∀ {ds es : List PyData} {vs us : List V}, RepAll K H vs ds → RepAll K H us es → RepAll K H (vs ++ us) (ds ++ es)
  | _, _, _, _, .nil, s => s
  | _, _, _, _, .cons h r, s => .cons h (r.append s)
theorem RepAll.take : ∀ {ds : List PyData} {vs : List V} (n : Nat), RepAll K H vs ds → RepAll K H (vs.take n) (ds.take n)
  | _, _, 0, _ => .nil
  | _, _, _ + 1, .nil => .nil
  | _, _, n + 1, .cons h r => .cons h (r.take n)
theorem RepAll.drop : ∀ {ds : List PyData} {vs : List V} (n : Nat), RepAll K H vs ds → RepAll K H (vs.drop n) (ds.drop n)
  | _, _, 0, r => r
  | _, _, _ + 1, .nil => .nil
  | _, _, n + 1, .cons _ r => r.drop n
theorem RepAll.ints (ns : List Int) : RepAll K H (ns.map V.int) (ns.map PyData.int) := by
  induction ns with
  | nil => exact .nil
  | cons n ns ih => exact .cons (.int n) ih
theorem RepAll.of_ints : ∀ {ns : List Int} {vs : List V}, RepAll K H vs (ns.map PyData.int) → vs = ns.map V.int
  | [], _, .nil => rfl
  | n :: ns, _, .cons h r => by
    cases h
    rw [RepAll.of_ints (ns := ns) r]
    rfl
end

/-! ### what a piece of code may change: the objects in M (lists of the caller's), and new ones -/
/-- the tables of code objects that the law's defs may fill, each with the names that its places have -/
class Tbs where
  T : List NdefX.NTab
theorem tabN_keep {H H' : Hp} {P : Addr} {nm : Nat → Nat → Str} (t : NdefX.TabN H P nm) (e : ∀ b o, H b = some o → (∀ xs, o ≠ .lst xs) → H' b = some o) : NdefX.TabN H' P nm := by
  obtain ⟨ps, h1, h2, h3⟩ := t
  refine ⟨ps, e _ _ h1 (fun xs z => by cases z), h2, fun pos cv hc => ?_⟩
  obtain ⟨c, e1, e2⟩ := h3 pos cv hc
  exact ⟨c, e1, e _ _ e2 (fun xs z => by unfold CodeO at z; cases z)⟩
section
variable [Tbs]
structure Fw (M : List Addr) (H H' : Hp) : Prop where
  keep : ∀ b o, H b = some o → b ∉ M → (∀ ps, o ≠ .tbl ps) → H' b = some o
  tk : Tk H H'
  tb : ∀ b, H' b = none → H b = none
  tn : ∀ q ∈ Tbs.T, NdefX.TabN H q.1 q.2 → NdefX.TabN H' q.1 q.2
variable {M : List Addr} {H H' H1 H2 : Hp} {p : Addr} {o : HO} {K : PySem.W.Frag}
theorem Fw.same (e : ∀ b o, H b = some o → H' b = some o) : Fw M H H' := by
  refine ⟨fun b o h _ _ => e b o h, fun b xs h => ?_, fun b h => ?_, fun q _ t => t.ext e⟩
  · rcases h with h | ⟨ob, h⟩
    · exact .inl (e _ _ h)
    · exact .inr ⟨ob, e _ _ h⟩
  · cases q : H b with
    | none => rfl
    | some o => rw [e b o q] at h; cases h
theorem Fw.refl (M : List Addr) (H : Hp) : Fw M H H := .same fun _ _ h => h
theorem Fw.trans (a : Fw M H H1) (b : Fw M H1 H2) : Fw M H H2 :=
  ⟨fun c o h hm n => b.keep c o (a.keep c o h hm n) hm n, a.tk.trans b.tk, fun c h => a.tb c (b.tb c h), fun q hq t => b.tn q hq (a.tn q hq t)⟩
theorem Fw.mono {M' : List Addr} (a : Fw M H H1) (h : ∀ b ∈ M, b ∈ M') : Fw M' H H1 := ⟨fun c o e hm n => a.keep c o e (fun z => hm (h c z)) n, a.tk, a.tb, a.tn⟩
theorem Fw.new (h : H p = none) : Fw M H (upd H p o) := .same fun b u e => by rw [upd_ne (ne_of_none e h)]; exact e
theorem Fw.free (a : Fw M H H1) (h : H1 p = none) (_ : ∀ m ∈ M, H1 m ≠ none) : H p = none := a.tb p h
/-- a list of M, or an object that H did not know, is changed -/
theorem Fw.write {xs : List V} (a : Fw M H H1) (h1 : H1 p = some (.lst xs)) (hp : p ∈ M ∨ H p = none) {ys : List V} : Fw M H (upd H1 p (.lst ys)) :=
  ⟨fun b u e hb n => by
    have hbp : b ≠ p := fun z => by
      subst z
      rcases hp with q | q
      · exact hb q
      · rw [q] at e; cases e
    rw [upd_ne hbp]; exact a.keep b u e hb n, fun b xs' e => by
    have e' := a.tk b xs' e
    have hbp : b ≠ p := fun z => by
      subst z
      rcases e' with q | ⟨ob, q⟩ <;> (rw [h1] at q; cases q)
    rcases e' with q | ⟨ob, q⟩
    · exact .inl (by rw [upd_ne hbp]; exact q)
    · exact .inr ⟨ob, by rw [upd_ne hbp]; exact q⟩, fun b e => by
    refine a.tb b ?_
    by_cases hbp : b = p
    · subst hbp; rw [upd_same] at e; cases e
    · rw [upd_ne hbp] at e; exact e, fun q hq t => tabN_keep (a.tn q hq t) fun b o e n => by
    have hbp : b ≠ p := fun z => by
      subst z
      rw [h1] at e
      cases e
      exact n _ rfl
    rw [upd_ne hbp]; exact e⟩
/-- a def within a def was made -/
theorem Fw.ndef (e : LamX.ExtN H H1) (n : ∀ b, H1 b = none → H b = none) (t : NdefX.TabsN Tbs.T H1) : Fw M H H1 := by
  refine ⟨fun b o h _ q => e b o h q, fun b xs h => ?_, n, fun q hq _ => t q hq⟩
  rcases h with h | ⟨ob, h⟩
  · exact .inl (e _ _ h (fun ps z => by cases z))
  · exact .inr ⟨ob, e _ _ h (fun ps z => by cases z)⟩
theorem Fw.snoc (a : Fw M H H1) (h : H1 p = none) : Fw M H (upd H1 p o) := a.trans (Fw.new h)
theorem Fw.lst {xs : List V} (a : Fw M H H1) (h : H p = some (.lst xs)) (hp : p ∉ M) : H1 p = some (.lst xs) := a.keep p _ h hp fun _ z => by cases z
theorem Fw.sqt {xs : List V} (a : Fw M H H1) (h : SqT K H p xs) : SqT K H1 p xs := a.tk.sq h
theorem Fw.frz {xs : List V} {ob : Obj} (a : Fw M H H1) (h : H p = some (.frz ob (.lst xs))) (hp : p ∉ M) : H1 p = some (.frz ob (.lst xs)) := a.keep p _ h hp fun _ z => by cases z
theorem Fw.sql {xs : List V} (a : Fw M H H1) (h : SqL K H p xs) (hp : p ∉ M) : SqL K H1 p xs := by
  rcases h with (h | ⟨ob, h⟩) | h
  · exact .inl (.inl (a.lst h hp))
  · exact .inl (.inr ⟨ob, a.frz h hp⟩)
  · exact .inr h
end

/-! ### a def by its name -/
structure Cal (P : Program) (w : World) (K : PySem.W.Frag) (mg : Str → Option Value) (base : Heap) (x : Str) (k : Nat) (ps : List Str) (sp : Sp) : Prop where
  ex : ∃ g gd, FnOk P w K mg base CX0 k g gd ps sp ∧ Binds K gd ps [] ∧ PySem.W.keepIn K (.ref g) = true ∧ mg x = some (.ref g)
theorem Cal.imp {P : Program} {w : World} {K : PySem.W.Frag} {mg : Str → Option Value} {base : Heap} {x : Str} {k : Nat} {ps : List Str} {sp sp' : Sp} (C : Cal P w K mg base x k ps sp) (h : ∀ vs H Q E, sp' vs H Q E → sp vs H Q E) (hl : ∀ vs H Q E, sp' vs H Q E → vs.length = ps.length) : Cal P w K mg base x k ps sp' := by
  obtain ⟨g, gd, F, b, kp, m⟩ := C.ex
  exact ⟨g, gd, ⟨hl, fun A outer s H args us vs Q E hr e0 hb r q => F.run A outer s H args us vs Q E hr e0 hb r (h _ _ _ _ q)⟩, b, kp, m⟩
def tCal (sp : Sp) (t : TA) : TE := fun σ H Q => t σ H fun vs H1 => sp vs H1 Q E0
section
variable {X : Cx} {x : Str} {k j : Nat} {ps : List Str} {sp : Sp} {e : Expr} {es : List Expr} {t : TA} {p pos : Pos}
theorem pe_cal (C : Cal X.prog X.w X.K X.mg X.base x k ps sp) (hr : Room j X.A) (hk : k ≤ j) (hg : Gl X x) (ha : PA X (e :: es) t) (hdb : (x == ("__debug__" : Str)) = false := by decide)
    (he : starEach (e :: es) X.env = (false, eval e X.env) :: starEach es X.env := by rfl) (hpl : (backTo pos (starEach es X.env)).any (·.1) = false := by rfl) : PE X (.Call (.Name x p) (e :: es) [] pos) (tCal sp t) := by
  obtain ⟨g, gd, F, b, kp, m⟩ := C.ex
  refine ⟨fun pins s σ H Q I h => ?_⟩
  refine (pe_call (E := E0) (dvs := []) F (hr.mono hk) hg m kp b .nil pass0 ha hdb he hpl).run pins s σ H Q I ?_
  have e : (fun (vs : List V) (H1 : Hp) => sp (vs ++ []) H1 Q E0) = fun vs H1 => sp vs H1 Q E0 := by
    funext vs H1
    rw [List.append_nil]
  show t σ H (fun vs H1 => sp (vs ++ []) H1 Q E0)
  rw [e]
  exact h
end
theorem Fun.cal {P : Program} {w : World} {K : PySem.W.Frag} {mg : Str → Option Value} {base : Heap} {x qual : Str} {st : Stmt} {f : Addr} {fd : FuncData} {ps : List Str} {k : Nat} {sp : Sp} (F : Fun K x qual st f fd) (b : Binds K fd ps []) (m : mg x = some (.ref f)) (G : FnOk P w K mg base CX0 k f fd ps sp) : Cal P w K mg base x k ps sp :=
  ⟨f, fd, G, b, F.kp, m⟩

/-! ### is, of a bool or None -/
def rIsO : R2 := fun x y H Q => ∃ b : Bool, y = .bl b ∧ ((∃ a : Bool, x = .bl a ∧ Q (.bl (decide (a = b))) H) ∨ (x = .non ∧ Q (.bl false) H))
end My

set_option Elab.async false
set_option maxRecDepth 100000
namespace K50
open PySem L2 My
def top (i : Nat) : Stmt := PySem.Challenge.pw_meaningmill_k50_numbers.main.body.getD i (.Pass ⟨0, 0, 0, 0⟩)
abbrev s_operand_at : Stmt := top 1
theorem sc_operand_at : FnScope ["operand", "row"] ["operand", "row"] (defScope s_operand_at) := ⟨rfl, rfl, rfl, by decide +kernel, rfl, by decide +kernel, by decide +kernel⟩
abbrev s_is_true : Stmt := top 2
theorem sc_is_true : FnScope ["comparison", "row", "left", "sign", "right", "one", "other"] ["comparison", "row"] (defScope s_is_true) := ⟨rfl, rfl, rfl, by decide +kernel, rfl, by decide +kernel, by decide +kernel⟩
abbrev s_all_true : Stmt := top 3
theorem sc_all_true : FnScope ["comparisons", "row", "one"] ["comparisons", "row"] (defScope s_all_true) := ⟨rfl, rfl, rfl, by decide +kernel, rfl, by decide +kernel, by decide +kernel⟩
abbrev s_tried_numbers : Stmt := top 4
theorem sc_tried_numbers : FnScope ["top", "many", "comparisons", "bases", "left", "_", "right", "operand", "base", "step"] ["top", "many", "comparisons"] (defScope s_tried_numbers) := ⟨rfl, rfl, rfl, by decide +kernel, rfl, by decide +kernel, by decide +kernel⟩
abbrev s_first_row : Stmt := top 5
theorem sc_first_row : FnScope ["numbers", "many", "row", "hopeless", "number", "found"] ["numbers", "many", "row", "hopeless"] (defScope s_first_row) := ⟨rfl, rfl, rfl, by decide +kernel, rfl, by decide +kernel, by decide +kernel⟩
abbrev s_least_failing : Stmt := top 6
theorem sc_least_failing : FnScope ["top", "many", "rules", "numbers", "hopeless", "rule", "one"] ["top", "many", "rules"] (defScope s_least_failing) := ⟨rfl, rfl, rfl, by decide +kernel, rfl, by decide +kernel, by decide +kernel⟩
abbrev s_least_meeting : Stmt := top 7
theorem sc_least_meeting : FnScope ["top", "many", "comparisons", "numbers", "hopeless"] ["top", "many", "comparisons"] (defScope s_least_meeting) := ⟨rfl, rfl, rfl, by decide +kernel, rfl, by decide +kernel, by decide +kernel⟩
abbrev s__law_source : Stmt := top 9
theorem sc__law_source : FnScope ["script", "place", "cell"] ["script", "place"] (defScope s__law_source) := ⟨rfl, rfl, rfl, by decide +kernel, rfl, by decide +kernel, by decide +kernel⟩
abbrev s__law_draw : Stmt := top 10
theorem sc__law_draw : FnScope ["source", "many", "found", "mixed"] ["source", "many"] (defScope s__law_draw) := ⟨rfl, rfl, rfl, by decide +kernel, rfl, by decide +kernel, by decide +kernel⟩
abbrev s__law_pick : Stmt := top 11
theorem sc__law_pick : FnScope ["source", "row"] ["source", "row"] (defScope s__law_pick) := ⟨rfl, rfl, rfl, by decide +kernel, rfl, by decide +kernel, by decide +kernel⟩
abbrev s__law_constants : Stmt := top 12
theorem sc__law_constants : FnScope ["source", "top", "most", "made", "k", "base"] ["source", "top", "most"] (defScope s__law_constants) := ⟨rfl, rfl, rfl, by decide +kernel, rfl, by decide +kernel, by decide +kernel⟩
abbrev s__law_operand : Stmt := top 13
theorem sc__law_operand : FnScope ["source", "many", "constants"] ["source", "many", "constants"] (defScope s__law_operand) := ⟨rfl, rfl, rfl, by decide +kernel, rfl, by decide +kernel, by decide +kernel⟩
abbrev s__law_comparisons : Stmt := top 14
theorem sc__law_comparisons : FnScope ["source", "many", "constants", "size", "made", "k", "left", "sign"] ["source", "many", "constants", "size"] (defScope s__law_comparisons) := ⟨rfl, rfl, rfl, by decide +kernel, rfl, by decide +kernel, by decide +kernel⟩
abbrev s__law_opposite : Stmt := top 15
theorem sc__law_opposite : FnScope ["one", "sign"] ["one"] (defScope s__law_opposite) := ⟨rfl, rfl, rfl, by decide +kernel, rfl, by decide +kernel, by decide +kernel⟩
abbrev s__law_parted : Stmt := top 16
theorem sc__law_parted : FnScope ["row", "made", "k"] ["row"] (defScope s__law_parted) := ⟨rfl, rfl, rfl, by decide +kernel, rfl, by decide +kernel, by decide +kernel⟩
abbrev s__law_true : Stmt := top 17
theorem sc__law_true : FnScope ["one", "row", "pair", "part"] ["one", "row"] (defScope s__law_true) := ⟨rfl, rfl, rfl, by decide +kernel, rfl, by decide +kernel, by decide +kernel⟩
abbrev s__law_meets : Stmt := top 18
theorem sc__law_meets : FnScope ["comparisons", "row", "one"] ["comparisons", "row"] (defScope s__law_meets) := ⟨rfl, rfl, rfl, by decide +kernel, rfl, by decide +kernel, by decide +kernel⟩
abbrev s__law_fails : Stmt := top 19
theorem sc__law_fails : FnScope ["rules", "row", "rule"] ["rules", "row"] (defScope s__law_fails) := ⟨rfl, rfl, rfl, by decide +kernel, rfl, by decide +kernel, by decide +kernel⟩
abbrev s__law_rows : Stmt := top 20
theorem sc__law_rows : FnScope ["bound", "many", "constants", "values", "base", "k", "rows", "longer", "row", "value"] ["bound", "many", "constants"] (defScope s__law_rows) := ⟨rfl, rfl, rfl, by decide +kernel, rfl, by decide +kernel, by decide +kernel⟩
abbrev s__law_same : Stmt := top 21
theorem sc__law_same : FnScope ["told", "due", "k"] ["told", "due"] (defScope s__law_same) := ⟨rfl, rfl, rfl, by decide +kernel, rfl, by decide +kernel, by decide +kernel⟩
abbrev s__law_asked : Stmt := top 22
theorem sc__law_asked : FnScope ["bound", "many", "constants", "rules", "meeting", "rows", "due", "row", "comparisons"] ["bound", "many", "constants", "rules", "meeting"] (defScope s__law_asked) := ⟨rfl, rfl, rfl, by decide +kernel, rfl, by decide +kernel, by decide +kernel⟩
abbrev s_law : Stmt := top 23
theorem sc_law : FnScope ["script", "source", "many", "top", "constants", "rules", "gone", "k", "meeting", "bound"] ["script"] (defScope s_law) := ⟨rfl, rfl, rfl, by decide +kernel, rfl, by decide +kernel, by decide +kernel⟩
structure Txt (mg : Str → Option Value) : Prop where
  len_ : mg "len" = none
  int_ : mg "int" = none
  abs_ : mg "abs" = none
  range_ : mg "range" = none
  max_ : mg "max" = none
  min_ : mg "min" = none
  list_ : mg "list" = none
  tuple_ : mg "tuple" = none
  sorted_ : mg "sorted" = none
  any_ : mg "any" = none
  isinstance_ : mg "isinstance" = none
  bool_ : mg "bool" = none
  str_ : mg "str" = none
end K50

set_option Elab.async false
set_option linter.all false
set_option maxRecDepth 100000
/-! readings, step by step -/
namespace My
open PySem L2 LamX
def rInt1 : List V → Hp → VK → Prop := fun xs H Q => (∃ i, xs = [.int i] ∧ Q (.int i) H) ∨ ∃ k, xs = [.bl k] ∧ Q (.int (if k then 1 else 0)) H
def rAbs : List V → Hp → VK → Prop := fun xs H Q => ∃ i, xs = [.int i] ∧ Q (.int (if i < 0 then -i else i)) H
def rLen (K : PySem.W.Frag) : List V → Hp → VK → Prop := fun xs H Q => ∃ p ys, xs = [.ref p] ∧ (SqL K H p ys ∨ SqT K H p ys) ∧ Q (.int ys.length) H
def rMax : List V → Hp → VK → Prop := fun xs H Q => ∃ i j, xs = [.int i, .int j] ∧ Q (.int (if j > i then j else i)) H
def rMin : List V → Hp → VK → Prop := fun xs H Q => ∃ i j, xs = [.int i, .int j] ∧ Q (.int (if j < i then j else i)) H
def rListOf (K : PySem.W.Frag) : List V → Hp → VK → Prop := fun xs H Q => ∃ p ys, xs = [.ref p] ∧ (SqL K H p ys ∨ SqT K H p ys) ∧ ∀ l, H l = none → Q (.ref l) (upd H l (.lst ys))
def rTupOf (K : PySem.W.Frag) : List V → Hp → VK → Prop := fun xs H Q => ∃ p ys, xs = [.ref p] ∧ ((SqL K H p ys ∧ ∀ l, H l = none → Q (.ref l) (upd H l (.tup ys))) ∨ (SqT K H p ys ∧ Q (.ref p) H))
def rIsNo : R2 := fun x y H Q => y = .non ∧ Q (.bl (decide (x = .non))) H
def rNotNo : R2 := fun x y H Q => y = .non ∧ Q (.bl (!decide (x = .non))) H
section
variable {X : Cx}
theorem cr_int1 : CallR X (.type "int") rInt1 := call_int1
theorem cr_abs : CallR X (.builtin "abs") rAbs := call_abs
theorem cr_len : CallR X (.builtin "len") (rLen X.K) := call_len_seq
theorem cr_max2 (h : X.calm = true) : CallR X (.builtin "max") rMax := call_max2 h
theorem cr_min2 (h : X.calm = true) : CallR X (.builtin "min") rMin := call_min2 h
theorem cr_list : CallR X (.type "list") (rListOf X.K) := call_list_of
theorem cr_tuple : CallR X (.type "tuple") (rTupOf X.K) := call_tuple_of
/- the same, K told: within a comprehension -/
variable {K : PySem.W.Frag}
theorem k_ix_list (h : X.K = K) : IxR X (rIxL K) := by subst h; exact ix_list
theorem k_ix_tup (h : X.K = K) : IxR X (rIxT K) := by subst h; exact ix_tup
theorem k_op_catA (h : X.K = K) : OpR X (binaryOp .Add) (rCatA K) := by subst h; exact op_catA
theorem k_sl_list (h : X.K = K) : SlR X (rSlL K) := by subst h; exact sl_list
theorem k_sl_tupA (h : X.K = K) : SlR X (rSlA K) := by subst h; exact sl_tupA
theorem k_op_in_seq (h : X.K = K) : OpR X (compareOp .In) (rIn K false) := by subst h; exact op_in_seq
theorem k_op_notIn_seq (h : X.K = K) : OpR X (compareOp .NotIn) (rIn K true) := by subst h; exact op_notIn_seq
theorem k_cr_len (h : X.K = K) : CallR X (.builtin "len") (rLen K) := by subst h; exact cr_len
theorem k_cr_list (h : X.K = K) : CallR X (.type "list") (rListOf K) := by subst h; exact cr_list
theorem k_cr_tuple (h : X.K = K) : CallR X (.type "tuple") (rTupOf K) := by subst h; exact cr_tuple
theorem k_call_isi (h : X.K = K) : CallR X (.builtin "isinstance") (rIsi K) := by subst h; exact call_isi
theorem k_pi_list {tg l : Expr} {tl : TE} (h : X.K = K) (hl : PE X l tl) : PI X tg l (iList K tl) := by subst h; exact pi_list hl
theorem k_pi_tup {tg l : Expr} {tl : TE} (h : X.K = K) (hl : PE X l tl) : PI X tg l (iTup K tl) := by subst h; exact pi_tup hl
theorem or_isN : OpR X (compareOp .Is) rIsNo := op_isN
theorem or_notN : OpR X (compareOp .IsNot) rNotNo := op_notN
end
/-- a statement, then a word, then the rest -/
def tCut (t u : TS) : TS := fun D σ H => ∃ Mid : L2.St → Hp → Prop, t { D with nx := Mid } σ H ∧ ∀ σ' H', Mid σ' H' → u D σ' H'
theorem pss_cut {X : Cx} {st : Stmt} {rest : List Stmt} {t u : TS} (h1 : PS X st t) (h2 : PSs X rest u) : PSs X (st :: rest) (tCut t u) :=
  ⟨fun pins s σ H D I ⟨Mid, hm, hu⟩ => (wpAny_execs_cons (thn (h1.run pins s σ H { D with nx := Mid } I hm) fun f s1 q => by
    cases f with
    | next => obtain ⟨σ', H', I', q⟩ := q; exact h2.run pins s1 σ' H' D I' (hu σ' H' q)
    | ret v => exact q
    | brk => exact q
    | cont => exact q))⟩
section
variable {σ : L2.St} {H : Hp} {i : Nat} {v x y : V} {ta tb te : TE} {r r' : R2} {Q : VK} {K : PySem.W.Frag} {D : Ends} {QT : Bool → Hp → Prop} {QA : List V → Hp → Prop} {t u : TT} {tr : TA} {xs : List V} {p : Addr}
theorem g_var (h : σ[i]? = some (some v)) (q : Q v H) : tVar i σ H Q := ⟨v, h, q⟩
theorem g_c (q : Q v H) : tC v σ H Q := q
theorem g_op (h : ta σ H fun x H1 => tb σ H1 fun y H2 => r x y H2 Q) : tOp r ta tb σ H Q := h
theorem g_un {r : V → Hp → VK → Prop} (h : ta σ H fun x H1 => r x H1 Q) : tUn r ta σ H Q := h
theorem g_test (h : ta σ H fun x H1 => ∃ k, x = .bl k ∧ QT k H1) : tTest ta σ H QT := h
theorem g_B (h : ta σ H fun x H1 => ∃ k, x = .bl k ∧ QT k H1) : tB ta σ H QT := h
theorem g_bl {b : Bool} (q : QT b H) : ∃ k, V.bl b = V.bl k ∧ QT k H := ⟨b, rfl, q⟩
theorem g_cons (h : te σ H fun x H1 => tr σ H1 fun xs H2 => QA (x :: xs) H2) : tCons te tr σ H QA := h
theorem g_nil (q : QA [] H) : tNil σ H QA := q
theorem g_cb {r : List V → Hp → VK → Prop} (h : tr σ H fun vs H1 => r vs H1 Q) : tCB r tr σ H Q := h
theorem g_cal {sp : Sp} (h : tr σ H fun vs H1 => sp vs H1 Q E0) : tCal sp tr σ H Q := h
theorem g_tup (h : tr σ H fun xs H1 => xs.length ≤ sizeLine ∧ ∀ p, H1 p = none → Q (.ref p) (upd H1 p (.tup xs))) : tTup tr σ H Q := h
theorem g_lst (h : tr σ H fun xs H1 => xs.length ≤ sizeLine ∧ ∀ p, H1 p = none → Q (.ref p) (upd H1 p (.lst xs))) : tLst tr σ H Q := h
theorem g_if (h : t σ H fun c H1 => if c = true then ta σ H1 Q else tb σ H1 Q) : tIf t ta tb σ H Q := h
theorem g_and (h : t σ H fun c H1 => if c = true then u σ H1 QT else QT false H1) : tAnd t u σ H QT := h
theorem g_or (h : t σ H fun c H1 => if c = true then QT true H1 else u σ H1 QT) : tOr t u σ H QT := h
theorem g_not (h : t σ H fun c H1 => QT (!c) H1) : tNot t σ H QT := h
theorem g_andV (h : ta σ H fun x H1 => ∃ c, x = .bl c ∧ if c = true then tb σ H1 Q else Q (.bl false) H1) : tAndV ta tb σ H Q := h
theorem g_orV (h : ta σ H fun x H1 => ∃ c, x = .bl c ∧ if c = true then Q (.bl true) H1 else tb σ H1 Q) : tOrV ta tb σ H Q := h
theorem g_notV (h : ta σ H fun x H1 => ∃ c, x = .bl c ∧ Q (.bl (!c)) H1) : tNotV ta σ H Q := h
theorem g_blI {b : Bool} {F : Bool → Prop} (q : F b) : ∃ k, V.bl b = V.bl k ∧ F k := ⟨b, rfl, q⟩
theorem at0 {α : Type} {x : α} {xs : List α} : atI (x :: xs) 0 = some x := atI_nat (j := 0) rfl
theorem at1 {α : Type} {x y : α} {xs : List α} : atI (x :: y :: xs) 1 = some y := atI_nat (j := 1) rfl
theorem at2 {α : Type} {x y z : α} {xs : List α} : atI (x :: y :: z :: xs) 2 = some z := atI_nat (j := 2) rfl
theorem at3 {α : Type} {x y z u : α} {xs : List α} : atI (x :: y :: z :: u :: xs) 3 = some u := atI_nat (j := 3) rfl
theorem at_get {α : Type} {xs : List α} {r : Int} (h0 : 0 ≤ r) (h1 : r < xs.length) : ∃ x, x ∈ xs ∧ xs[r.toNat]? = some x ∧ atI xs r = some x := by
  obtain ⟨n, rfl⟩ : ∃ n : Nat, r = (n : Int) := ⟨r.toNat, by omega⟩
  have hn : n < xs.length := by omega
  have e : xs[((n : Int)).toNat]? = some xs[n] := by rw [Int.toNat_natCast]; exact List.getElem?_eq_getElem hn
  exact ⟨xs[n], List.getElem_mem hn, e, atI_nat (List.getElem?_eq_getElem hn)⟩
-- rules by values
theorem g_I0 {g : Int → Int → V} {a b : Int} (q : Q (g a b) H) : rI0 g (.int a) (.int b) H Q := ⟨a, b, rfl, rfl, q⟩
theorem g_U {g : Int → V} {a : Int} (q : Q (g a) H) : rU g (.int a) H Q := ⟨a, rfl, q⟩
theorem g_I {C : Int → Int → Prop} {g : Int → Int → V} {a b : Int} (c : C a b) (q : Q (g a b) H) : rI C g (.int a) (.int b) H Q := ⟨a, b, rfl, rfl, c, q⟩
theorem g_eq (h : scal x y = true) (q : Q (.bl (decide (x = y))) H) : rEq x y H Q := ⟨h, q⟩
theorem g_ne (h : scal x y = true) (q : Q (.bl (!decide (x = y))) H) : rNe x y H Q := ⟨h, q⟩
theorem g_ixL {j : Int} (h : SqL K H p xs) (e : atI xs j = some v) (q : Q v H) : rIxL K (.ref p) (.int j) H Q := ⟨p, xs, j, v, rfl, rfl, h, e, q⟩
theorem g_ixT {j : Int} (h : SqT K H p xs) (e : atI xs j = some v) (q : Q v H) : rIxT K (.ref p) (.int j) H Q := ⟨p, xs, j, v, rfl, rfl, h, e, q⟩
theorem g_int1 {a : Int} (q : Q (.int a) H) : rInt1 [.int a] H Q := .inl ⟨a, rfl, q⟩
theorem g_int1b {a : Bool} (q : Q (.int (if a then 1 else 0)) H) : rInt1 [.bl a] H Q := .inr ⟨a, rfl, q⟩
theorem g_abs {a : Int} (q : Q (.int (if a < 0 then -a else a)) H) : rAbs [.int a] H Q := ⟨a, rfl, q⟩
theorem g_lenL {ys : List V} (h : SqL K H p ys) (q : Q (.int ys.length) H) : rLen K [.ref p] H Q := ⟨p, ys, rfl, .inl h, q⟩
theorem g_lenT {ys : List V} (h : SqT K H p ys) (q : Q (.int ys.length) H) : rLen K [.ref p] H Q := ⟨p, ys, rfl, .inr h, q⟩
theorem g_max {a b : Int} (q : Q (.int (if b > a then b else a)) H) : rMax [.int a, .int b] H Q := ⟨a, b, rfl, q⟩
theorem g_min {a b : Int} (q : Q (.int (if b < a then b else a)) H) : rMin [.int a, .int b] H Q := ⟨a, b, rfl, q⟩
theorem g_listL {ys : List V} (h : SqL K H p ys) (q : ∀ l, H l = none → Q (.ref l) (upd H l (.lst ys))) : rListOf K [.ref p] H Q := ⟨p, ys, rfl, .inl h, q⟩
theorem g_listT {ys : List V} (h : SqT K H p ys) (q : ∀ l, H l = none → Q (.ref l) (upd H l (.lst ys))) : rListOf K [.ref p] H Q := ⟨p, ys, rfl, .inr h, q⟩
theorem g_tupL {ys : List V} (h : SqL K H p ys) (q : ∀ l, H l = none → Q (.ref l) (upd H l (.tup ys))) : rTupOf K [.ref p] H Q := ⟨p, ys, rfl, .inl ⟨h, q⟩⟩
theorem g_catA {a b : Addr} {xs ys : List V} (h1 : SqT K H a xs) (h2 : SqT K H b ys) (hz : xs.length + ys.length ≤ sizeLine) (q1 : xs = [] → Q (.ref b) H) (q2 : xs ≠ [] → ys = [] → Q (.ref a) H) (q3 : xs ≠ [] → ys ≠ [] → ∀ p, H p = none → Q (.ref p) (upd H p (.tup (xs ++ ys)))) : rCatA K (.ref a) (.ref b) H Q :=
  ⟨a, b, xs, ys, rfl, rfl, h1, h2, hz, q1, q2, q3⟩
/-- a tuple, then a tuple that is not empty -/
theorem g_catR {a b : Addr} {xs ys : List V} (h1 : SqT K H a xs) (h2 : SqT K H b ys) (hz : xs.length + ys.length ≤ sizeLine) (hy : ys ≠ []) (q : ∀ p H', SqT K H' p (xs ++ ys) → (H' = H ∨ (H p = none ∧ H' = upd H p (.tup (xs ++ ys)))) → Q (.ref p) H') : rCatA K (.ref a) (.ref b) H Q :=
  g_catA h1 h2 hz (fun e => q b H (by rw [e]; exact h2) (.inl rfl)) (fun _ e => absurd e hy) fun _ _ p hp => q p _ (SqT.of upd_same) (.inr ⟨hp, rfl⟩)
theorem g_cat {a b : Addr} {xs ys : List V} (h1 : H a = some (.lst xs)) (h2 : H b = some (.lst ys)) (hz : xs.length + ys.length ≤ sizeLine) (q : ∀ p, H p = none → Q (.ref p) (upd H p (.lst (xs ++ ys)))) : rCat (.ref a) (.ref b) H Q := ⟨a, b, xs, ys, rfl, rfl, h1, h2, hz, q⟩
theorem g_slL {a : Addr} {xs : List V} {lo hi : Option Int} (h : SqL K H a xs) (q : ∀ p, H p = none → Q (.ref p) (upd H p (.lst (cutV xs lo hi)))) : rSlL K (.ref a) lo hi H Q := ⟨a, xs, rfl, h, q⟩
theorem g_slA {a : Addr} {xs : List V} {lo hi : Option Int} (h : SqT K H a xs) (q : ∀ p H', SqT K H' p (cutV xs lo hi) → (H' = H ∨ (H p = none ∧ H' = upd H p (.tup (cutV xs lo hi)))) → Q (.ref p) H') : rSlA K (.ref a) lo hi H Q := by
  refine ⟨a, xs, rfl, h, fun e => q a H ?_ (.inl rfl), fun _ p hp => q p _ (SqT.of upd_same) (.inr ⟨hp, rfl⟩)⟩
  have : cutV xs lo hi = xs := by
    unfold cutV
    rw [e.1, e.2, List.drop_zero, Nat.sub_zero, List.take_length]
  rw [this]
  exact h
theorem g_in {xs : List V} (h : SqL K H p xs) (h1 : flatV x = true) (h2 : xs.all flatV = true) (q : Q (.bl (inV x xs)) H) : rIn K false x (.ref p) H Q := ⟨p, xs, rfl, .inl h, h1, h2, q⟩
theorem g_notIn {xs : List V} (h : SqL K H p xs) (h1 : flatV x = true) (h2 : xs.all flatV = true) (q : Q (.bl (!inV x xs)) H) : rIn K true x (.ref p) H Q := ⟨p, xs, rfl, .inl h, h1, h2, q⟩
theorem g_isNo (q : Q (.bl (decide (x = .non))) H) : rIsNo x .non H Q := ⟨rfl, q⟩
theorem g_notNo (q : Q (.bl (!decide (x = .non))) H) : rNotNo x .non H Q := ⟨rfl, q⟩
theorem g_ext {b : Addr} {xs zs : List V} (h1 : H p = some (.lst xs)) (h2 : H b = some (.lst zs)) (hz : xs.length + zs.length ≤ sizeLine) (q : Q .non (upd H p (.lst (xs ++ zs)))) : rExtend (.ref p) [.ref b] H Q := ⟨p, b, xs, zs, rfl, rfl, h1, h2, hz, q⟩
theorem g_sl {r : V → Option Int → Option Int → Hp → VK → Prop} {tl th : TO} (h : te σ H fun x H1 => tl σ H1 fun l H2 => th σ H2 fun u H3 => r x l u H3 Q) : tSl r te tl th σ H Q := h
theorem g_app {xs : List V} (h : H p = some (.lst xs)) (hz : xs.length < sizeLine) (q : Q .non (upd H p (.lst (xs ++ [y])))) : rAppend (.ref p) [y] H Q := ⟨p, xs, y, rfl, rfl, h, hz, q⟩
theorem g_bm {T : String} {r : V → List V → Hp → VK → Prop} {to : TE} (h : to σ H fun x H1 => tyV K T x H1 ∧ tr σ H1 fun vs H2 => r x vs H2 Q) : tBM K T r to tr σ H Q := h
theorem g_bm0 {T : String} {r : V → List V → Hp → VK → Prop} {to : TE} (h : to σ H fun x H1 => tyV K T x H1 ∧ r x [] H1 Q) : tBM0 K T r to σ H Q := h
theorem g_tyL {R : Prop} (h : SqL K H p xs) (q : R) : tyV K "list" (.ref p) H ∧ R := ⟨.inl ⟨rfl, _, h⟩, q⟩
theorem iteD {p : Prop} [Decidable p] {A B : Prop} (h1 : p → A) (h2 : ¬ p → B) : if decide p = true then A else B := by
  by_cases h : p
  · rw [if_pos (decide_eq_true h)]; exact h1 h
  · rw [if_neg (by rw [decide_eq_false h]; decide)]; exact h2 h
theorem iteN {p : Prop} [Decidable p] {A B : Prop} (h1 : ¬ p → A) (h2 : p → B) : if (!decide p) = true then A else B := by
  by_cases h : p
  · rw [if_neg (by rw [decide_eq_true h]; decide)]; exact h2 h
  · rw [if_pos (by rw [decide_eq_false h]; rfl)]; exact h1 h
theorem iteNF {A B : Prop} (h : A) : if (!false) = true then A else B := by rw [if_pos (by decide)]; exact h
theorem iteNT {A B : Prop} (h : B) : if (!true) = true then A else B := by rw [if_neg (by decide)]; exact h
theorem iteB {b : Bool} {A B : Prop} (h1 : b = true → A) (h2 : b = false → B) : if b = true then A else B := by
  cases b with
  | true => rw [if_pos rfl]; exact h1 rfl
  | false => rw [if_neg (by decide)]; exact h2 rfl
theorem g_trN {F : Bool → Prop} (q : F false) : ∃ k, TruV K .non H k ∧ F k := ⟨false, rfl, q⟩
theorem g_trB {b : Bool} {F : Bool → Prop} (q : F b) : ∃ k, TruV K (.bl b) H k ∧ F k := ⟨b, rfl, q⟩
theorem g_disp {trs : List (TE × TE)} (q : ∀ p, H p = none → tPairs trs σ (upd H p (.dK [])) fun ps H2 => H2 p = some (.dK []) ∧ ∃ kvs : List (Key × V), ps = kvs.map (fun kv => (kV kv.1, kv.2)) ∧ kvs.length ≤ 15 ∧ Q (.ref p) (upd H2 p (.dK (mergeK [] kvs)))) : tDisp trs σ H Q := q
theorem g_pair {rs : List (TE × TE)} {QP : List (V × V) → Hp → Prop} (h : ta σ H fun x H1 => tb σ H1 fun y H2 => tPairs rs σ H2 fun ps H3 => QP ((x, y) :: ps) H3) : tPairs ((ta, tb) :: rs) σ H QP := h
theorem g_pairN {QP : List (V × V) → Hp → Prop} (h : QP [] H) : tPairs [] σ H QP := h
theorem g_dget (h : ta σ H fun x H1 => tb σ H1 fun y H2 => ∃ a v, x = .ref a ∧ DGet H2 a y (some v) ∧ Q v H2) : tDGet ta tb σ H Q := h
theorem g_dgetK {kvs : List (Key × V)} {z : Str} {F : V → Prop} (h : H p = some (.dK kvs)) (e : valV kvs (Sum.inr z) = some v) (q : F v) : ∃ a u, V.ref p = .ref a ∧ DGet H a (.str z) (some u) ∧ F u := ⟨p, v, rfl, by rw [← e]; exact DGet.k (k := Sum.inr z) h, q⟩
theorem g_noPart {QO : Option Int → Hp → Prop} (h : QO none H) : tNoPart σ H QO := h
theorem g_part {QO : Option Int → Hp → Prop} (h : te σ H fun x H1 => ∃ i, x = .int i ∧ QO (some i) H1) : tPart te σ H QO := h
theorem g_someI {a : Int} {F : Int → Prop} (h : F a) : ∃ i, V.int a = .int i ∧ F i := ⟨a, rfl, h⟩
theorem g_lc {wi : TI} {g : TG} {tt : TT} {vs : List Nat} (h : wi σ H fun J H1 => ∀ D, H1 D = none → ∃ W : Nat → Nat → Hp → Prop, (∃ m, W 0 m (upd H1 D (.lst []))) ∧ ∀ i m H, W i m H →
  (J.stop i H ∧ Q (.ref D) H) ∨ (J.go i H ∧ ∃ Nx : Hp → Prop, (∀ H', Nx H' → ∃ m', m' < m ∧ W (i + 1) m' H') ∧ ∀ x H', J.yld i H x H' → g x (wipe σ vs) H' fun σ2 H2 => wipe σ2 vs = wipe σ vs ∧ tt σ2 H2 fun b H3 =>
    if b = true then te σ2 H3 fun y H4 => ∃ acc, H4 D = some (.lst acc) ∧ acc.length < sizeLine ∧ Nx (upd H4 D (.lst (acc ++ [y]))) else Nx H3)) : tLc wi g tt te vs σ H Q := h
theorem g_lstRg {tr : L2.St → Hp → (Int → Int → Hp → Prop) → Prop} (h : tr σ H fun a b H1 => RgOk a b ∧ ∀ q, H1 q = none → Q (.ref q) (upd H1 q (.lst (rgV a b)))) : tLstRg tr σ H Q := h
theorem g_rg1 {QR : Int → Int → Hp → Prop} (h : te σ H fun x H1 => ∃ n, x = .int n ∧ QR 0 n H1) : tRg1 te σ H QR := h
theorem inV_ints (v : Int) (ws : List Int) : inV (.int v) (ws.map V.int) = decide (v ∈ ws) := by
  induction ws with
  | nil => rfl
  | cons a r ih =>
    rw [List.map_cons]
    show (eqV (V.int a) (V.int v) || inV (.int v) (r.map V.int)) = _
    rw [ih]
    show ((a == v) || decide (v ∈ r)) = decide (v ∈ a :: r)
    by_cases h : a = v
    · subst h; simp
    · have h2 : ¬ v = a := fun e => h e.symm
      simp [h, h2]
theorem flat_ints (ws : List Int) : (ws.map V.int).all flatV = true := by
  induction ws with
  | nil => rfl
  | cons a r ih => exact ih
theorem g_yes (q : QT true H) : tYes σ H QT := q
-- statements
variable {t1 t2 : TS} {c : TT} {g : TG}
theorem g_seq (h : t1 { D with nx := t2 D } σ H) : tSeq t1 t2 D σ H := h
theorem g_cut (Mid : L2.St → Hp → Prop) (h : t1 { D with nx := Mid } σ H) (q : ∀ σ' H', Mid σ' H' → t2 D σ' H') : tCut t1 t2 D σ H := ⟨Mid, h, q⟩
theorem g_asg (h : te σ H fun x H1 => D.nx (σ.set i (some x)) H1) : tAsg te (gName i) D σ H := h
theorem g_asgS {ti : TE} {s : TSet} (h : te σ H fun v H0 => ta σ H0 fun o H1 => ti σ H1 fun i H2 => s o i v H2 fun H3 => D.nx σ H3) : tAsg te (gSub ta ti s) D σ H := h
theorem g_setL {xs : List V} {j : Int} {n : Nat} {QH : Hp → Prop} (h : H p = some (.lst xs)) (e : ixN xs.length j = some n) (q : QH (upd H p (.lst (xs.set n v)))) : rSetL (.ref p) (.int j) v H QH := ⟨p, xs, j, n, rfl, rfl, h, e, q⟩
theorem g_for {wi : TI} (h : wi σ H fun J H1 => ∃ W : Nat → Nat → L2.St → Hp → Prop, (∃ m, W 0 m σ H1) ∧ ∀ i m σ H, W i m σ H → (J.stop i H ∧ D.nx σ H) ∨ (J.go i H ∧ ∃ N : L2.St → Hp → Prop, (∀ σ' H', N σ' H' → ∃ m', m' < m ∧ W (i + 1) m' σ' H') ∧ ∀ x H', J.yld i H x H' → g x σ H' fun σ2 H2 => t1 { D with nx := N, ct := N, bk := D.nx } σ2 H2)) : tFor wi g t1 D σ H := h
theorem g_rng1 {R : It → Hp → Prop} (h : tr σ H fun vs H1 => ∃ j : Int, vs = [.int j] ∧ -(2 ^ 62) ≤ j ∧ j < 2 ^ 62 ∧ R (Itr 0 j.toNat) H1) : iRng1 tr σ H R := h
theorem g_iL {R : It → Hp → Prop} (h : te σ H fun x H1 => ∃ a, x = .ref a ∧ (∃ xs, SqL K H1 a xs) ∧ R (Itl K a) H1) : iList K te σ H R := h
theorem g_iT {R : It → Hp → Prop} (h : te σ H fun x H1 => ∃ a, x = .ref a ∧ (∃ xs, SqT K H1 a xs) ∧ R (Itt K a) H1) : iTup K te σ H R := h
theorem g_gName {QS : L2.St → Hp → Prop} (h : QS (σ.set i (some v)) H) : gName i v σ H QS := h
theorem g_asgG (h : te σ H fun x H1 => g x σ H1 D.nx) : tAsg te g D σ H := h
theorem g_gTup {n : Nat} {tg : TGs} {QS : L2.St → Hp → Prop} (h : SqT K H p xs) (hl : xs.length = n) (q : tg xs σ H QS) : gTup K n tg (.ref p) σ H QS := ⟨p, xs, rfl, h, hl, q⟩
theorem g_gCons {tg : TGs} {QS : L2.St → Hp → Prop} (q : g v σ H fun σ' H' => tg xs σ' H' QS) : gCons g tg (v :: xs) σ H QS := ⟨v, xs, rfl, q⟩
theorem g_gNil {QS : L2.St → Hp → Prop} (q : QS σ H) : gNil [] σ H QS := ⟨rfl, q⟩
theorem g_drop (h : te σ H fun _ H1 => D.nx σ H1) : tDrop te D σ H := h
theorem g_ret (h : te σ H D.rt) : tRet te D σ H := h
theorem g_ifS (h : c σ H fun b H1 => if b = true then t1 D σ H1 else t2 D σ H1) : tIfS c t1 t2 D σ H := h
theorem g_next (h : D.nx σ H) : tNext D σ H := h
theorem g_brk (h : D.bk σ H) : tBreak D σ H := h
theorem g_cont (h : D.ct σ H) : tCont D σ H := h
end
section
variable {K : PySem.W.Frag} {H : Hp}
def tyD : PyData → String
  | .none => "NoneType"
  | .bool _ => "bool"
  | .int _ => "int"
  | .str _ => "str"
  | .list _ => "list"
  | .tuple _ => "tuple"
  | .dict _ => "dict"
theorem sqt_ty {p : Addr} {xs : List V} (h : SqT K H p xs) : TyX K H (.ref p) (.type "tuple") := by
  rcases h with (h | ⟨o, h⟩) | ⟨o, its, n, hk, hc, _⟩
  · exact .base (.tup h)
  · exact .fTuple h
  · exact .kTuple hk hc
theorem Rep.ty {v : V} {d : PyData} (h : Rep K H v d) : TyX K H v (.type (tyD d)) := by
  cases h with
  | non => exact .base .non
  | bl b => exact .base (.bl b)
  | int i => exact .base (.int i)
  | str x => exact .base (.str x)
  | tup h r => exact sqt_ty h
theorem g_isi {x : V} {a n : String} {b : Bool} {Q : VK} (hx : TyX K H x (.type a)) (e : kitB a n = some b) (q : Q (.bl b) H) : rIsi K [x, .ty n] H Q := ⟨x, .ty n, _, _, b, rfl, .ty n, hx, kit_ty e, q⟩
theorem Rep.inv2 {v : V} {a b : PyData} (h : Rep K H v (.tuple [a, b])) : ∃ p x y, v = .ref p ∧ SqT K H p [x, y] ∧ Rep K H x a ∧ Rep K H y b := by
  cases h with
  | tup h r =>
    cases r with
    | cons h1 r =>
      cases r with
      | cons h2 r => cases r; exact ⟨_, _, _, rfl, h, h1, h2⟩
theorem Rep.inv3 {v : V} {a b c : PyData} (h : Rep K H v (.tuple [a, b, c])) : ∃ p x y z, v = .ref p ∧ SqT K H p [x, y, z] ∧ Rep K H x a ∧ Rep K H y b ∧ Rep K H z c := by
  cases h with
  | tup h r =>
    cases r with
    | cons h1 r =>
      cases r with
      | cons h2 r =>
        cases r with
        | cons h3 r => cases r; exact ⟨_, _, _, _, rfl, h, h1, h2, h3⟩
theorem Rep.invT {v : V} {ds : List PyData} (h : Rep K H v (.tuple ds)) : ∃ p xs, v = .ref p ∧ SqT K H p xs ∧ RepAll K H xs ds := by
  cases h with
  | tup h r => exact ⟨_, _, rfl, h, r⟩
theorem Rep.invI {v : V} {i : Int} (h : Rep K H v (.int i)) : v = .int i := by cases h; rfl
theorem Rep.invS {v : V} {x : Str} (h : Rep K H v (.str x)) : v = .str x := by cases h; rfl
theorem RepAll.nth {ds : List PyData} {vs : List V} {i : Nat} (h : RepAll K H vs ds) (hi : i < ds.length) : ∃ v, vs[i]? = some v ∧ Rep K H v ds[i] := h.get (List.getElem?_eq_getElem hi)
end
end My
open My in
local macro_rules | `(tactic| walk_at "x") => `(tactic| skip)

set_option Elab.async false
set_option linter.all false
set_option maxRecDepth 100000
set_option maxHeartbeats 2000000
/-! {e for a in xs if .. for b in ys if ..}, e an int: a set of ints (the list's rule with two fors, turned to sets) -/
namespace My
open PySem PySem.Spec PyProof.Rows L2

section
variable {prog : Program} {w : World} {A : Around} {R : Result → Shared → Prop} {s : Shared} {elt t0 i0 t1 i1 : Expr} {fs0 fs1 : List Expr} {sc : Scope} {pos : Pos} {it acc : Value} {env : Env}
/-- the comprehension -/
abbrev two (elt t0 i0 t1 i1 : Expr) (fs0 fs1 : List Expr) (sc : Scope) (pos : Pos) : Expr := .SetComp elt [⟨t0, i0, fs0, 0⟩, ⟨t1, i1, fs1, 0⟩] sc pos
/-- what a clause's tests do -/
abbrev asks (fs : List Expr) (env : Env) : Sem Bool := forIn fs true fun c r => if r = true then do let ok ← isTrue c env (eval c env); pure (ForInStep.yield ok) else pure (ForInStep.yield r)
theorem turn_out : compTurn (two elt t0 i0 t1 i1 fs0 fs1 sc pos) 0 it acc env = (do
      standAt i0.pos
      match ← pyNext it with
      | none => pure (.done .next)
      | some v =>
        letOwnedTupleGo t0 it v
        assign t0 env v
        let mut ok := true
        for c in fs0 do
          if ok then ok ← isTrue c env (eval c env)
        if ok then
          let x ← eval i1 env
          standAt i1.pos
          let x ← foldedSetIterable i1 env x
          let _ ← runOwn (.compStart (two elt t0 i0 t1 i1 fs0 fs1 sc pos) 1 (← holding [x] (pyIter x)) acc env) env
        again (.compLoop (two elt t0 i0 t1 i1 fs0 fs1 sc pos) 0 it acc env)) := by rfl
theorem turn_in : compTurn (two elt t0 i0 t1 i1 fs0 fs1 sc pos) 1 it acc env = (do
      standAt i1.pos
      match ← pyNext it with
      | none => pure (.done .next)
      | some v =>
        letOwnedTupleGo t1 it v
        assign t1 env v
        let mut ok := true
        for c in fs1 do
          if ok then ok ← isTrue c env (eval c env)
        if ok then
          (do let v ← eval elt env; standAt elt.pos; let _ ← call (.builtin "set.add") [acc, v])
        again (.compLoop (two elt t0 i0 t1 i1 fs0 fs1 sc pos) 1 it acc env)) := by rfl
/-- nothing raises in the comprehension -/
abbrev NoX : Value → Shared → Prop := fun _ _ => False
theorem noted_no {e : Value} {s' : Shared} (h : NoX e s') : notedBy (model prog w) A env (fun x t => R (.error x) t) e s' := h.elim
theorem loop_out (hs : ∀ x, foldedSetIterable i1 env x = pure x) (I : Nat → Shared → Prop)
    (turn : ∀ n s, I n s → wpAny (model prog w) A (pyNext it) (fun r s₁ => match r with
      | none => R (.ok .next) s₁
      | some v => wpAny (model prog w) A (letOwnedTupleGo t0 it v) (fun _ a₁ => wpAny (model prog w) A (assign t0 env v) (fun _ a₂ =>
          wpAny (model prog w) A (asks fs0 env) (fun ok a₃ =>
            if ok = true then wpAny (model prog w) A (eval i1 env) (fun x a₄ => wpAny (model prog w) A (pyIter x) (fun j a₅ =>
              codeAny (model prog w) A (.compStart (two elt t0 i0 t1 i1 fs0 fs1 sc pos) 1 j acc env) (fun r b => match r with
                | .ok _ => ∃ m, m < n ∧ I m b
                | .error _ => False) a₅) NoX a₄) NoX a₃
            else ∃ m, m < n ∧ I m a₃) NoX a₂) NoX a₁) NoX s₁) NoX s)
    (n : Nat) (h : I n s) : codeAny (model prog w) A (.compLoop (two elt t0 i0 t1 i1 fs0 fs1 sc pos) 0 it acc env) R s := by
  refine codeAny_loop rfl I (fun n s hI => ?_) n h
  show wpAny _ A ((compTurn (two elt t0 i0 t1 i1 fs0 fs1 sc pos) 0 it acc env).onRaise (fun x => do noteFrame x env; theTreesLotGoes x)) _ _ s
  refine wpAny_noted ?_
  rw [turn_out]
  refine wpAny_bind (wpAny_standAt (wpAny_bind (wpAny_mono (turn n s hI) (fun r a₁ q₁ => ?_) fun _ _ q => noted_no q)))
  cases r with
  | none => exact wpAny_pure q₁
  | some v =>
    refine wpAny_bind (wpAny_mono q₁ (fun _ a₂ q₂ => ?_) fun _ _ q => noted_no q)
    refine wpAny_bind (wpAny_mono q₂ (fun _ a₃ q₃ => ?_) fun _ _ q => noted_no q)
    refine wpAny_bind (wpAny_mono q₃ (fun ok a₄ q₄ => ?_) fun _ _ q => noted_no q)
    cases ok with
    | false => exact wpAny_pure ⟨rfl, q₄⟩
    | true =>
      refine wpAny_bind (wpAny_mono q₄ (fun x a₅ q₅ => ?_) fun _ _ q => noted_no q)
      refine wpAny_bind (wpAny_standAt (wpAny_bind (wpAny_of_eq (hs x) (wpAny_bind (wpAny_holding (wpAny_mono q₅ (fun j a₆ q₆ => ?_) fun _ _ q => noted_no q))))))
      refine wpAny_bind (wpAny_runOwn ?_)
      rw [Around.mark_none]
      refine codeAny_mono q₆ fun r b hr => ?_
      cases r with
      | ok f => first | exact wpAny_pure ⟨rfl, hr⟩ | exact wpAny_bind (wpAny_pure (wpAny_pure ⟨rfl, hr⟩))
      | error e => exact hr.elim
theorem loop_in (I : Nat → Shared → Prop)
    (turn : ∀ n s, I n s → wpAny (model prog w) A (pyNext it) (fun r s₁ => match r with
      | none => R (.ok .next) s₁
      | some v => wpAny (model prog w) A (letOwnedTupleGo t1 it v) (fun _ a₁ => wpAny (model prog w) A (assign t1 env v) (fun _ a₂ =>
          wpAny (model prog w) A (asks fs1 env) (fun ok a₃ =>
            if ok = true then wpAny (model prog w) A (eval elt env) (fun x a₄ => wpAny (model prog w) A (call (.builtin "set.add") [acc, x]) (fun _ a₅ => ∃ m, m < n ∧ I m a₅) NoX a₄) NoX a₃
            else ∃ m, m < n ∧ I m a₃) NoX a₂) NoX a₁) NoX s₁) NoX s)
    (n : Nat) (h : I n s) : codeAny (model prog w) A (.compLoop (two elt t0 i0 t1 i1 fs0 fs1 sc pos) 1 it acc env) R s := by
  refine codeAny_loop rfl I (fun n s hI => ?_) n h
  show wpAny _ A ((compTurn (two elt t0 i0 t1 i1 fs0 fs1 sc pos) 1 it acc env).onRaise (fun x => do noteFrame x env; theTreesLotGoes x)) _ _ s
  refine wpAny_noted ?_
  rw [turn_in]
  refine wpAny_bind (wpAny_standAt (wpAny_bind (wpAny_mono (turn n s hI) (fun r a₁ q₁ => ?_) fun _ _ q => noted_no q)))
  cases r with
  | none => exact wpAny_pure q₁
  | some v =>
    refine wpAny_bind (wpAny_mono q₁ (fun _ a₂ q₂ => ?_) fun _ _ q => noted_no q)
    refine wpAny_bind (wpAny_mono q₂ (fun _ a₃ q₃ => ?_) fun _ _ q => noted_no q)
    refine wpAny_bind (wpAny_mono q₃ (fun ok a₄ q₄ => ?_) fun _ _ q => noted_no q)
    cases ok with
    | false => exact wpAny_pure ⟨rfl, q₄⟩
    | true =>
      refine wpAny_bind (wpAny_bind (wpAny_mono q₄ (fun x a₅ q₅ => ?_) fun _ _ q => noted_no q))
      exact wpAny_bind (wpAny_standAt (wpAny_bind (wpAny_mono q₅ (fun _ a₆ q₆ => wpAny_pure (wpAny_pure ⟨rfl, q₆⟩)) fun _ _ q => noted_no q)))
theorem start_in (h0 : codeAny (model prog w) A (.compLoop (two elt t0 i0 t1 i1 fs0 fs1 sc pos) 1 it acc env) R s)
    (h : wpAny (model prog w) A (pyIter it) (fun j a => codeAny (model prog w) A (.compLoop (two elt t0 i0 t1 i1 fs0 fs1 sc pos) 1 j acc env) R a) NoX s) :
    codeAny (model prog w) A (.compStart (two elt t0 i0 t1 i1 fs0 fs1 sc pos) 1 it acc env) R s := by
  refine codeAny_of_tree ?_
  show wpAny _ _ ((compStart (two elt t0 i0 t1 i1 fs0 fs1 sc pos) 1 it acc env).onRaise (fun x => do noteFrame x env; standAt theWindowsPlace)) _ _ s
  refine wpAny_notedAt ?_
  unfold compStart
  show wpAny _ _ (ask >>= _) _ _ s
  refine wpAny_bind (wpAny_askSetting (wpAny_ite ?_))
  have hh := wpAny_mono h (fun _ _ q => q) (fun _ _ (q : NoX _ _) => noted_no (prog := prog) (w := w) (A := A) (R := R) (env := env) q)
  split
  · first
      | exact wpAny_bind (wpAny_pure (wpAny_pure (And.intro rfl h0)))
      | exact wpAny_pure (And.intro rfl h0)
  · first
      | exact wpAny_bind (wpAny_rule (wpAny_bind (wpAny_standAt (wpAny_bind (wpAny_mono hh (fun j a q => wpAny_pure (And.intro rfl q)) fun _ _ x => x)))))
      | (refine wpAny_bind (wpAny_rule ?_); show wpAny _ _ (standAt i1.pos >>= _) _ _ s; exact wpAny_bind (wpAny_standAt (wpAny_bind (wpAny_mono hh (fun j a q => wpAny_pure (And.intro rfl q)) fun _ _ x => x))))
end

section
variable {X : Cx}
def tSc2 (w : World) (wi : TI) (g : TG) (tt : TT) (wi1 : TI) (g1 : TG) (tt1 : TT) (te : TE) (vs vs1 : List Nat) : TE := fun σ H Q => wi σ H fun J H1 => ∀ D, H1 D = none → ∃ W : Nat → Nat → Hp → Prop, (∃ m, W 0 m (upd H1 D (SetO w D (fun _ => false) 0))) ∧ ∀ i m H, W i m H →
  (J.stop i H ∧ Q (.ref D) H) ∨ (J.go i H ∧ ∃ Nx : Hp → Prop, (∀ H', Nx H' → ∃ m', m' < m ∧ W (i + 1) m' H') ∧ ∀ x H', J.yld i H x H' → g x (wipe σ vs) H' fun σ2 H2 => wipe σ2 vs = wipe σ vs ∧ tt σ2 H2 fun b H3 =>
    if b = true then wi1 σ2 H3 fun J1 H4 => ∃ W1 : Nat → Nat → Hp → Prop, (∃ m, W1 0 m H4) ∧ ∀ j k H, W1 j k H →
      (J1.stop j H ∧ Nx H) ∨ (J1.go j H ∧ ∃ Nx1 : Hp → Prop, (∀ H', Nx1 H' → ∃ k', k' < k ∧ W1 (j + 1) k' H') ∧ ∀ x H', J1.yld j H x H' → g1 x (wipe σ2 vs1) H' fun σ3 H5 => wipe σ3 vs1 = wipe σ2 vs1 ∧ tt1 σ3 H5 fun b H6 =>
        if b = true then te σ3 H6 fun y H7 => ∃ (c : Int) (S : Int → Bool) (n : Nat), y = .int c ∧ H7 D = some (SetO w D S n) ∧ n + 1 < scanBound ∧ Nx1 (upd H7 D (SetO w D (fun j => S j || decide (j = c)) (if S c = true then n else n + 1))) else Nx1 H6)
    else Nx H3)
theorem pe_sc2 {elt tg iter tg1 iter1 : Expr} {ifs ifs1 : List Expr} {scope : Scope} {own : List (Str × Nat)} {vs1 : List Nat} {pos : Pos} {wi wi1 : TI} {g g1 : TG} {tt tt1 : TT} {te : TE}
    (hc : X.calm = true) (hN : X.N.Nodup) (hi : PI X tg iter wi) (ok : BlkOk X.N X.env.scope scope own) (hv : ∀ i ∈ vs1, i ∈ own.map (·.2))
    (hg : ∀ (s : Shared) (H : Hp) (C : Addr) (cl : List (Str × Addr)) (fp : List Addr), PG (X.blk s H scope (compEnvC scope cl C X.env) fp) tg g)
    (ht : ∀ (s : Shared) (H : Hp) (C : Addr) (cl : List (Str × Addr)) (fp : List Addr), PTs (X.blk s H scope (compEnvC scope cl C X.env) fp) ifs tt)
    (hi1 : ∀ (s : Shared) (H : Hp) (C : Addr) (cl : List (Str × Addr)) (fp : List Addr), PI (X.blk s H scope (compEnvC scope cl C X.env) fp) tg1 iter1 wi1)
    (hg1 : ∀ (s : Shared) (H : Hp) (C : Addr) (cl : List (Str × Addr)) (fp : List Addr), PG (X.blk s H scope (compEnvC scope cl C X.env) fp) tg1 g1)
    (ht1 : ∀ (s : Shared) (H : Hp) (C : Addr) (cl : List (Str × Addr)) (fp : List Addr), PTs (X.blk s H scope (compEnvC scope cl C X.env) fp) ifs1 tt1)
    (he : ∀ (s : Shared) (H : Hp) (C : Addr) (cl : List (Str × Addr)) (fp : List Addr), PE (X.blk s H scope (compEnvC scope cl C X.env) fp) elt te)
    (hs : ∀ x, foldedSetIterable iter X.env x = pure x := by intro _; rfl) (hs1 : ∀ env x, foldedSetIterable iter1 env x = pure x := by intro _ _; rfl) :
    PE X (two elt tg iter tg1 iter1 ifs ifs1 scope pos) (tSc2 X.w wi g tt wi1 g1 tt1 te (own.map (·.2)) vs1) := by
  refine ⟨fun pins s σ H Q I h => ?_⟩
  have hfree : ∀ y ∈ scope.names, y.2 = .free → ∃ c, X.env.cells.lookup y.1 = some c := fun y hy e => (ok.free y hy e).elim (fun k => I.ok.has _ (.inl k)) fun k => I.ok.has _ (.inr k)
  rw [PpSet.eval_SetComp]
  refine wpAny_comprehension_free (use := none) rfl hs (closure_ok hfree) ok.kind (fun y hy e => by rw [ok.uniq y hy, e]) (thn (hi.run pins s σ H _ I h) fun xv s1 hx => thn hx fun itv s2 h2 => ?_)
  obtain ⟨it, fp, tn, J, H2, e, I2, T, st2, f2, q⟩ := h2
  subst e
  refine PpSet.newSet_ok (newEnv_comp ?_)
  generalize hD : s2.heap.objs.size = D
  have hDn : H2 D = none := I2.hok.fresh (Nat.le_of_eq hD)
  obtain ⟨W, ⟨m0, w0⟩, turn⟩ := q D hDn
  generalize hob : ({ cls := .type "set", dict := none, data := .set #[] 0 (.fresh 0 0 (!X.w.params.followText "set-order")) } : Obj) = ob
  generalize hs3 : ({ s2 with heap := s2.heap.push ob } : Shared) = s3
  have h3 : s3.heap = s2.heap.push ob := by rw [← hs3]
  have I3 : Inv X pins σ (upd H2 D (SetO X.w D (fun _ => false) 0)) s3 := by
    rw [← hs3, ← hob, ← hD]
    exact I2.laid (t' := s2.toks) (fun b o e => Heap.get?_push_of_some _ e) (Nat.le_refl _) (setO_new (setR_fresh X.w))
  have f3 : ∀ b ∈ fp, FpOk X pins (upd H2 D (SetO X.w D (fun _ => false) 0)) b ∧ b < s3.heap.objs.size := fun b hb => by
    obtain ⟨o, e, _⟩ := T.obj _ _ st2 b hb
    have hlt := Heap.lt_size e
    exact ⟨⟨(upd_ne (by rw [← hD]; exact Nat.ne_of_lt hlt)).trans (f2 b hb).1, (f2 b hb).2⟩, by rw [h3, Heap.size_push]; exact Nat.lt_succ_of_lt hlt⟩
  have st3 : tn 0 s3.heap := T.keep _ _ _ st2 fun b _ o e => by rw [h3]; exact Heap.get?_push_of_some _ e
  have I4 := block_start I3 ok hN f3
  generalize hH3 : upd H2 D (SetO X.w D (fun _ => false) 0) = H3 at I3 I4 w0 f3
  generalize hcl : cellsFrom (s3.heap.objs.size + 1) scope.names (cloFrom X.env.cells scope.names []) = cl at I4 ⊢
  have pg := hg s3 H3 s3.heap.objs.size cl fp
  have pt := ht s3 H3 s3.heap.objs.size cl fp
  have pe := he s3 H3 s3.heap.objs.size cl fp
  have pi1 := hi1 s3 H3 s3.heap.objs.size cl fp
  have pg1 := hg1 s3 H3 s3.heap.objs.size cl fp
  have pt1 := ht1 s3 H3 s3.heap.objs.size cl fp
  show codeAny _ _ (.compStart (two elt tg iter tg1 iter1 ifs ifs1 scope pos) 0 (.ref it) (.ref D) (compEnvC scope cl s3.heap.objs.size X.env)) (compPost (model X.prog X.w) X.A X.xe none (EP X pins σ Q) (.ref D) s3.heap.objs.size) { s3 with heap := pushCells (s3.heap.push { cls := .type "dict", data := .dict #[] }) scope.names }
  generalize hce : compEnvC scope cl s3.heap.objs.size X.env = ce at I4 pg pt pe pi1 pg1 pt1 ⊢
  have cL : ce.locals = s3.heap.objs.size := by subst hce; rfl
  generalize hs4 : ({ s3 with heap := pushCells (s3.heap.push { cls := .type "dict", data := .dict #[] }) scope.names } : Shared) = s4 at I4 ⊢
  have st4 : tn 0 s4.heap := T.keep _ _ _ st3 fun b _ o e => by rw [← hs4]; exact pushCells_keeps _ _ _ _ (Heap.get?_push_of_some _ e)
  -- Y: the block's context; G: what holds between two turns of the outer loop
  generalize hY : X.blk s3 H3 scope ce fp = Y at I4 pg pt pe pi1 pg1 pt1
  have yp : Y.prog = X.prog := by rw [← hY]
  have yw : Y.w = X.w := by rw [← hY]
  have yK : Y.K = X.K := by rw [← hY]
  have yA : Y.A = X.A := by rw [← hY]
  have yE : Y.env = ce := by rw [← hY]
  have yc : Y.calm = true := by rw [← hY]; exact hc
  have ypn : Y.pn = [] := by rw [← hY]
  have yx : Y.ex = fp := by rw [← hY]
  have yxe : Y.xe = fun _ _ => False := by rw [← hY]
  have stat : ∀ {σ' : L2.St} {H' : Hp} {s' : Shared}, Inv Y [] σ' H' s' → (∀ b ∈ fp, H' b = none) → ∀ b ∈ fp, FpOk Y [] H' b := fun {σ' H' s'} J' hn b hb =>
    ⟨hn b hb, (J'.ok.exf b (by rw [yx]; exact hb)).1, J'.ok.exfs b (by rw [yx]; exact hb), .inl (by rw [yx]; exact hb), fun x c e => (J'.ok.exf b (by rw [yx]; exact hb)).2 x c e, fun p hp => by rw [ypn] at hp; exact absurd hp (by simp)⟩
  have nfp : ∀ b ∈ fp, H3 b = none := fun b hb => (f3 b hb).1.1
  generalize hG : (fun (n : Nat) (s' : Shared) => ∃ i H', Inv Y [] (wipe σ (own.map (·.2))) H' s' ∧ tn i s'.heap ∧ (∀ b ∈ fp, H' b = none) ∧ W i n H') = G
  have loop : codeAny (model X.prog X.w) X.A (.compLoop (two elt tg iter tg1 iter1 ifs ifs1 scope pos) 0 (.ref it) (.ref D) ce) (compPost (model X.prog X.w) X.A X.xe none (EP X pins σ Q) (.ref D) s3.heap.objs.size) s4 := by
    refine loop_out (hs1 ce) G (fun n s5 hI => ?_) m0 (by rw [← hG]; exact ⟨0, H3, I4, st4, nfp, w0⟩)
    rw [← hG] at hI
    obtain ⟨i, H5, I5, st5, n5, w5⟩ := hI
    rcases turn i n H5 w5 with ⟨stop, qq⟩ | ⟨go, Nx, hNx, step⟩
    · have td := T.done Y yp yw yK yc i [] s5 _ H5 NoX I5 (stat I5 n5) st5 stop
      rw [yA] at td
      refine thn td fun r s6 ⟨hr, I6⟩ => ?_
      subst hr
      rw [← hY] at I6
      have I7 : Inv X pins σ H5 s6 := I3.call' (ch := fp) I6.os I6.base I6.hok I6.bare fun b hb => ⟨(f3 b hb).1.2.2.2.1, (f3 b hb).1.2.1, (f3 b hb).1.2.2.2.2.1, (f3 b hb).1.2.2.2.2.2⟩
      have nC : H5 s3.heap.objs.size = none := by
        have z : H5 ce.locals = none := I6.free
        rw [cL] at z
        exact z
      obtain ⟨m, hn, _⟩ := I6.loc
      have hn : s6.heap.Ns ce.locals m := hn
      rw [cL] at hn
      obtain ⟨e0, e1, e2, e3, e4, e5⟩ := I3.fpOk (Nat.le_refl _) nC
      exact ⟨m, hn, fun h'' sb => ⟨.ref D, H5, I7.turned (t' := s6.toks) (fun b o hb e => (sb.2 b hb).trans e) e0 e1 e3 e4 e5, rfl, qq⟩⟩
    · have ti := T.item Y yp yw yK yc i [] s5 _ H5 NoX I5 (stat I5 n5) st5 go
      rw [yA] at ti
      refine thn ti fun r s6 ⟨u, hr, h6⟩ => ?_
      subst hr
      refine thn h6 fun _ s7 ⟨x, H7, I7, r7, y7, st7, n7⟩ => ?_
      have I7' := I7.pinned (stat I7 n7) (T.obj _ _ st7)
      have pgr := pg.run _ s7 _ H7 x u _ I7' r7 (step x H7 y7)
      rw [yp, yw, yA, yxe, yE] at pgr
      refine thn pgr fun _ s8 ⟨σ8, H8, I8, hw8, q8⟩ => ?_
      have ptr := pt.run _ s8 σ8 H8 _ I8 q8
      rw [yp, yw, yA, yxe, yE] at ptr
      refine thn ptr fun b s9 ⟨H9, I9, q9⟩ => ?_
      have fin : ∀ {σ9 : L2.St} {s' : Shared} {H' : Hp}, Inv Y ([] ++ pinsAt fp s7.heap) σ9 H' s' → (wipe σ (own.map (·.2))).length = σ9.length → (∀ (j : Nat) v, (wipe σ (own.map (·.2)))[j]? = some (some v) → σ9[j]? = some (some v)) → Nx H' → ∃ m, m < n ∧ G m s' := fun {σ9 s' H'} J' hl hk nx => by
        obtain ⟨m', hm, w'⟩ := hNx H' nx
        have pin' : ∀ b ∈ fp, ∀ o, s7.heap.get? b = some o → s'.heap.get? b = some o ∧ H' b = none := fun b hb o e =>
          let z := J'.pin (b, o) (List.mem_append_right _ (List.mem_append_right _ (mem_pinsAt hb e)))
          ⟨z.1, z.2.1⟩
        rw [← hG]
        refine ⟨m', hm, i + 1, H', (J'.unpinned (pins := [])).weak hl hk, T.keep _ _ _ st7 fun b hb o e => (pin' b hb o e).1, fun b hb => ?_, w'⟩
        obtain ⟨o, e, _⟩ := T.obj _ _ st7 b hb
        exact (pin' b hb o e).2
      have hl8 : (wipe σ (own.map (·.2))).length = σ8.length := by rw [← hw8, wipe_length]
      have hk8 : ∀ (j : Nat) v, (wipe σ (own.map (·.2)))[j]? = some (some v) → σ8[j]? = some (some v) := fun j v e => by
        rw [← hw8] at e
        exact (wipe_some e).1
      have hk9 : ∀ (j : Nat) v, (wipe σ (own.map (·.2)))[j]? = some (some v) → (wipe σ8 vs1)[j]? = some (some v) := fun j v e => by
        rw [← hw8] at e
        obtain ⟨e1, e2⟩ := wipe_some e
        exact (wipe_out fun z => e2 (hv j z)).trans e1
      cases b with
      | false =>
        simp only [Bool.false_eq_true, if_false] at q9 ⊢
        exact fin I9 hl8 hk8 q9
      | true =>
        simp only [if_true] at q9 ⊢
        have pir := pi1.run _ s9 σ8 H9 _ I9 q9
        rw [yp, yw, yA, yxe, yE] at pir
        refine thn pir fun xv s10 hx => thn hx fun itv s11 h11 => ?_
        obtain ⟨it1, fp1, tn1, J1, H11, e1, I11, T1, st11, f11, W1, ⟨m1, w1⟩, turn1⟩ := h11
        subst e1
        rw [yp, yw, yK] at T1
        have stat1 : ∀ {H' : Hp}, (∀ b ∈ fp1, H' b = none) → ∀ b ∈ fp1, FpOk Y ([] ++ pinsAt fp s7.heap) H' b := fun hn b hb => ⟨hn b hb, (f11 b hb).2⟩
        have loop1 : codeAny (model X.prog X.w) X.A (.compLoop (two elt tg iter tg1 iter1 ifs ifs1 scope pos) 1 (.ref it1) (.ref D) ce) (fun r s' => match r with
              | .ok _ => ∃ m, m < n ∧ G m s'
              | .error _ => False) s11 := by
          refine loop_in (fun k s' => ∃ j H', Inv Y ([] ++ pinsAt fp s7.heap) (wipe σ8 vs1) H' s' ∧ tn1 j s'.heap ∧ (∀ b ∈ fp1, H' b = none) ∧ W1 j k H') ?_ m1 ⟨0, H11, I11.weak (wipe_length _ _) (fun j v e => (wipe_some e).1), st11, fun b hb => (f11 b hb).1, w1⟩
          rintro k s12 ⟨j, H12, I12, st12, n12, w12⟩
          rcases turn1 j k H12 w12 with ⟨stop1, nx1⟩ | ⟨go1, Nx1, hNx1, step1⟩
          · have td1 := T1.done Y yp yw yK yc j _ s12 (wipe σ8 vs1) H12 NoX I12 (stat1 n12) st12 stop1
            rw [yA] at td1
            refine thn td1 fun r s13 ⟨hr, I13⟩ => ?_
            subst hr
            exact fin I13 (hl8.trans (wipe_length σ8 vs1).symm) hk9 nx1
          · have ti1 := T1.item Y yp yw yK yc j _ s12 (wipe σ8 vs1) H12 NoX I12 (stat1 n12) st12 go1
            rw [yA] at ti1
            refine thn ti1 fun r s13 ⟨u1, hr, h13⟩ => ?_
            subst hr
            refine thn h13 fun _ s14 ⟨x1, H14, I14, r14, y14, st14, n14⟩ => ?_
            have I14' := I14.pinned (stat1 n14) (T1.obj _ _ st14)
            have pgr1 := pg1.run _ s14 (wipe σ8 vs1) H14 x1 u1 _ I14' r14 (step1 x1 H14 y14)
            rw [yp, yw, yA, yxe, yE] at pgr1
            refine thn pgr1 fun _ s15 ⟨σ15, H15, I15, hw15, q15⟩ => ?_
            have ptr1 := pt1.run _ s15 σ15 H15 _ I15 q15
            rw [yp, yw, yA, yxe, yE] at ptr1
            refine thn ptr1 fun b1 s16 ⟨H16, I16, q16⟩ => ?_
            have fin1 : ∀ {s' : Shared} {H' : Hp}, Inv Y (([] ++ pinsAt fp s7.heap) ++ pinsAt fp1 s14.heap) σ15 H' s' → Nx1 H' → ∃ m, m < k ∧ ∃ j H', Inv Y ([] ++ pinsAt fp s7.heap) (wipe σ8 vs1) H' s' ∧ tn1 j s'.heap ∧ (∀ b ∈ fp1, H' b = none) ∧ W1 j m H' := fun {s' H'} J' nx => by
              obtain ⟨m', hm, w'⟩ := hNx1 H' nx
              have pin' : ∀ b ∈ fp1, ∀ o, s14.heap.get? b = some o → s'.heap.get? b = some o ∧ H' b = none := fun b hb o e =>
                let z := J'.pin (b, o) (List.mem_append_right _ (List.mem_append_right _ (mem_pinsAt hb e)))
                ⟨z.1, z.2.1⟩
              refine ⟨m', hm, j + 1, H', J'.unpinned.weak (by rw [← hw15, wipe_length]) (fun j v e => by rw [← hw15] at e; exact (wipe_some e).1), T1.keep _ _ _ st14 fun b hb o e => (pin' b hb o e).1, fun b hb => ?_, w'⟩
              obtain ⟨o, e, _⟩ := T1.obj _ _ st14 b hb
              exact (pin' b hb o e).2
            cases b1 with
            | false =>
              simp only [Bool.false_eq_true, if_false] at q16 ⊢
              exact fin1 I16 q16
            | true =>
              simp only [if_true] at q16 ⊢
              have per := pe.run _ s16 σ15 H16 _ I16 q16
              rw [yp, yw, yA, yxe, yE] at per
              refine thn per fun z s17 ⟨yv, H17, I17, r17, c, S, n0, ey, hD17, room, nx⟩ => ?_
              subst ey
              rw [← yw] at hD17
              have add := mt_sadd _ s17 σ15 H17 (.ref D) [.int c] (.ref D) [z] (fun _ H' => Nx1 H') I17 rfl (.cons r17 .nil) ⟨D, c, S, n0, rfl, rfl, hD17, room, by rw [yw]; exact nx⟩
              rw [yp, yw, yA, yxe] at add
              exact thn add fun _ s18 ⟨_, H18, I18, _, nx18⟩ => fin1 I18 nx18
        exact start_in loop1 (T1.self X.A 0 _ _ _ st11 loop1)
  exact PpSet.codeAny_compStart_set loop (T.self X.A 0 _ _ _ st4 loop)
end
section
variable {K : PySem.W.Frag} {a : Addr} {xs : List V} {H0 : Hp} {Qd : Hp → Prop} {Body : V → (Hp → Prop) → Hp → Prop}
/-- a walk over a list, whatever its turn does -/
theorem lw_list (Pv : Nat → Hp → Prop) (h0 : Pv 0 H0) (hl : ∀ i H, i ≤ xs.length → Pv i H → SqL K H a xs) (hs : ∀ i x H, xs[i]? = some x → Pv i H → Body x (Pv (i + 1)) H) (hd : ∀ H, Pv xs.length H → Qd H) :
    ∃ W : Nat → Nat → Hp → Prop, (∃ m, W 0 m H0) ∧ ∀ i m H, W i m H → ((Itl K a).stop i H ∧ Qd H) ∨ ((Itl K a).go i H ∧ ∃ Nx : Hp → Prop, (∀ H', Nx H' → ∃ m', m' < m ∧ W (i + 1) m' H') ∧ ∀ x H', (Itl K a).yld i H x H' → Body x Nx H') := by
  refine ⟨fun i m H => m + i = xs.length ∧ Pv i H, ⟨xs.length, by simp, h0⟩, fun i m H ⟨em, p⟩ => ?_⟩
  have q := hl i H (by omega) p
  cases m with
  | zero =>
    have e : i = xs.length := by omega
    subst e
    exact .inl ⟨⟨xs, q, Nat.le_refl _⟩, hd H p⟩
  | succ m =>
    have hlt : i < xs.length := by omega
    exact .inr ⟨⟨xs, xs[i], q, List.getElem?_eq_getElem hlt⟩, Pv (i + 1), fun H' p' => ⟨m, by omega, by omega, p'⟩, fun x H' ⟨e, y⟩ => by subst e; exact hs i x _ (y xs q) p⟩
/-- .. over a range -/
theorem lw_range {lo : Int} {n : Nat} (Pv : Nat → Hp → Prop) (h0 : Pv 0 H0) (hs : ∀ i H, i < n → Pv i H → Body (.int (lo + i)) (Pv (i + 1)) H) (hd : ∀ H, Pv n H → Qd H) :
    ∃ W : Nat → Nat → Hp → Prop, (∃ m, W 0 m H0) ∧ ∀ i m H, W i m H → ((Itr lo n).stop i H ∧ Qd H) ∨ ((Itr lo n).go i H ∧ ∃ Nx : Hp → Prop, (∀ H', Nx H' → ∃ m', m' < m ∧ W (i + 1) m' H') ∧ ∀ x H', (Itr lo n).yld i H x H' → Body x Nx H') := by
  refine ⟨fun i m H => m + i = n ∧ Pv i H, ⟨n, by simp, h0⟩, fun i m H ⟨em, p⟩ => ?_⟩
  cases m with
  | zero =>
    have e : i = n := by omega
    subst e
    exact .inl ⟨Nat.le_refl _, hd H p⟩
  | succ m =>
    have hlt : i < n := by omega
    exact .inr ⟨hlt, Pv (i + 1), fun H' p' => ⟨m, by omega, by omega, p'⟩, fun x H' ⟨e, ex⟩ => by subst e; subst ex; exact hs i _ hlt p⟩
end
section
variable {σ : L2.St} {H : Hp} {Q : VK} {w : World} {K : PySem.W.Frag} {a : Addr}
theorem g_sc2 {wi : TI} {g : TG} {tt : TT} {wi1 : TI} {g1 : TG} {tt1 : TT} {te : TE} {vs vs1 : List Nat} (h : wi σ H fun J H1 => ∀ D, H1 D = none → ∃ W : Nat → Nat → Hp → Prop, (∃ m, W 0 m (upd H1 D (SetO w D (fun _ => false) 0))) ∧ ∀ i m H, W i m H →
  (J.stop i H ∧ Q (.ref D) H) ∨ (J.go i H ∧ ∃ Nx : Hp → Prop, (∀ H', Nx H' → ∃ m', m' < m ∧ W (i + 1) m' H') ∧ ∀ x H', J.yld i H x H' → g x (wipe σ vs) H' fun σ2 H2 => wipe σ2 vs = wipe σ vs ∧ tt σ2 H2 fun b H3 =>
    if b = true then wi1 σ2 H3 fun J1 H4 => ∃ W1 : Nat → Nat → Hp → Prop, (∃ m, W1 0 m H4) ∧ ∀ j k H, W1 j k H →
      (J1.stop j H ∧ Nx H) ∨ (J1.go j H ∧ ∃ Nx1 : Hp → Prop, (∀ H', Nx1 H' → ∃ k', k' < k ∧ W1 (j + 1) k' H') ∧ ∀ x H', J1.yld j H x H' → g1 x (wipe σ2 vs1) H' fun σ3 H5 => wipe σ3 vs1 = wipe σ2 vs1 ∧ tt1 σ3 H5 fun b H6 =>
        if b = true then te σ3 H6 fun y H7 => ∃ (c : Int) (S : Int → Bool) (n : Nat), y = .int c ∧ H7 D = some (SetO w D S n) ∧ n + 1 < scanBound ∧ Nx1 (upd H7 D (SetO w D (fun j => S j || decide (j = c)) (if S c = true then n else n + 1))) else Nx1 H6)
    else Nx H3)) : tSc2 w wi g tt wi1 g1 tt1 te vs vs1 σ H Q := h
theorem g_sortedSet {S : Int → Bool} {n : Nat} (h : H a = some (SetO w a S n)) (hn : n < 64) (q : ∀ (ns : List Int) (p : Addr), ns.Pairwise (· < ·) → (∀ k : Int, k ∈ ns ↔ S k = true) → ns.length = n → H p = none → Q (.ref p) (upd H p (.lst (ns.map V.int)))) : rSortedSet w [.ref a] H Q := ⟨a, S, n, rfl, h, hn, q⟩
end
end My

set_option Elab.async false
set_option linter.all false
set_option maxRecDepth 100000
set_option maxHeartbeats 2000000
/-! a def within a def, of one parameter and one captured name, whose parameter may be a cell of its own (a comprehension reads it); such a function handed to another def, and called there -/
namespace My
open PySem PySem.Spec PyProof.Rows L2 LamX NdefX
structure NSc (N : List Str) (p x : Str) (sc : Scope) : Prop where
  kind : sc.kind = .function
  co : sc.isCoroutine = false
  gen : sc.isGenerator = false
  nd : N.Nodup
  p0 : N[0]? = some p
  x1 : N[1]? = some x
  par : sc.names.lookup p = some .local ∨ sc.names.lookup p = some .cell
  uniq : ∀ y ∈ sc.names, sc.names.lookup y.1 = some y.2
  free : ∀ y ∈ sc.names, y.2 = .free → y.1 = x
  frk : sc.names.lookup x = some .free
def nscC (N : List Str) (p x : Str) (sc : Scope) : Bool :=
  decide (sc.kind = .function) && !sc.isCoroutine && !sc.isGenerator && decide N.Nodup && decide (N[0]? = some p) && decide (N[1]? = some x) && (decide (sc.names.lookup p = some .local) || decide (sc.names.lookup p = some .cell)) && sc.names.all (fun y => decide (sc.names.lookup y.1 = some y.2)) &&
    sc.names.all (fun y => !decide (y.2 = .free) || decide (y.1 = x)) && decide (sc.names.lookup x = some .free)
theorem nsc_by {N : List Str} {p x : Str} {sc : Scope} (h : nscC N p x sc = true) : NSc N p x sc := by
  unfold nscC at h
  simp only [Bool.and_eq_true, Bool.not_eq_true', decide_eq_true_eq, List.all_eq_true, Bool.or_eq_true, decide_eq_false_iff_not] at h
  obtain ⟨⟨⟨⟨⟨⟨⟨⟨⟨h1, h2⟩, h3⟩, h4⟩, h5⟩, h6⟩, h7⟩, h8⟩, h9⟩, h10⟩ := h
  exact ⟨h1, h2, h3, h4, h5, h6, h7, h8, fun y hy e => (h9 y hy).elim (fun z => absurd e z) id, h10⟩
abbrev envN (F : NF) (f L : Addr) : Env := PySem.W.envX F.qual F.scope L f (.ref F.c) (cellsFrom (L + 1) F.scope.names F.cl)
def ncC (P : Program) (w : World) (K : PySem.W.Frag) (mg : Str → Option Value) (base : Heap) (N : List Str) (F : NF) (f : Addr) (A : Around) (outer : List Env) (s : Shared) (H : Hp) : Cx where
  prog := P
  w := w
  K := K
  mg := mg
  base := base
  A := A.deeper (envN F f s.heap.objs.size)
  N := N
  s_0 := s
  H_0 := H
  env := envN F f s.heap.objs.size
  outer := outer
  stack := envN F f s.heap.objs.size :: outer
  ex := []
  calm := true
  fn := fun x => F.scope.names.lookup x == some .cell
  pn := []
  xe := fun _ _ => False
/-- the captured cell c holds v -/
def CapAt (c : Addr) (v : V) (h : Heap) (H : Hp) : Prop := H c = none ∧ ∃ u, L2.RelV v u ∧ h.IsCell c (some u)
def start0 (N : List Str) (v : V) : L2.St := none :: some v :: List.replicate (N.length - 2) none
theorem look_cells {y : Str} {c : Addr} : ∀ (names : List (Str × NameKind)) (n : Nat) (acc : List (Str × Addr)), (cellsFrom n names acc).lookup y = some c → ((y, NameKind.cell) ∈ names ∧ n ≤ c) ∨ acc.lookup y = some c := by
  intro names
  induction names with
  | nil => intro n acc h; exact .inr h
  | cons a r ih =>
    intro n acc h
    obtain ⟨nm, kd⟩ := a
    unfold cellsFrom at h
    split at h
    · rename_i hk
      have hk : kd = .cell := by simpa using hk
      rcases ih _ _ h with ⟨h1, h2⟩ | h1
      · exact .inl ⟨List.mem_cons_of_mem _ h1, by omega⟩
      · rw [List.lookup_cons] at h1
        cases hb : y == nm with
        | true =>
          rw [hb] at h1
          cases h1
          exact .inl ⟨by rw [beq_iff_eq.mp hb, hk]; exact List.mem_cons_self, Nat.le_refl _⟩
        | false => rw [hb] at h1; exact .inr h1
    · rcases ih _ _ h with ⟨h1, h2⟩ | h1
      · exact .inl ⟨List.mem_cons_of_mem _ h1, h2⟩
      · exact .inr h1
theorem look_one {x y : Str} {c d : Addr} (h : List.lookup y [(x, c)] = some d) : y = x ∧ d = c := by
  rw [List.lookup_cons] at h
  cases hb : y == x with
  | true => rw [hb] at h; cases h; exact ⟨beq_iff_eq.mp hb, rfl⟩
  | false => rw [hb] at h; cases h
section
variable {P : Program} {w : World} {K : PySem.W.Frag} {mg : Str → Option Value} {base : Heap} {N : List Str} {p x : Str} {F : NF} {f c : Addr} {A : Around} {outer : List Env} {s : Shared} {H : Hp} {v : V}
theorem inv_startC (S : NSc N p x F.scope) (hcl : F.cl = [(x, c)]) (hd : A.handled = none) (e0 : Env0 P w K mg base A outer s H) (C : CapAt c v s.heap H) :
    Inv (ncC P w K mg base N F f A outer s H) [] (start0 N v) H { s with heap := pushCells (s.heap.push { cls := .type "frame", data := .dict #[] }) F.scope.names } := by
  generalize hh : pushCells (s.heap.push { cls := .type "frame", data := .dict #[] }) F.scope.names = h1
  have noA : ∀ b : Addr, b ∉ (ncC P w K mg base N F f A outer s H).ex := fun b z => absurd (show b ∈ ([] : List Addr) from z) (by simp)
  have kp : ∀ b o, s.heap.get? b = some o → h1.get? b = some o := fun b o e => by rw [← hh]; exact pushCells_keeps _ _ _ _ (Heap.get?_push_of_some _ e)
  have hsz : (s.heap.push { cls := .type "frame", data := .dict #[] }).objs.size = s.heap.objs.size + 1 := Heap.size_push ..
  obtain ⟨hHc, u, ru, hcell⟩ := C
  have hclt : c < s.heap.objs.size := hcell.lt
  have xno : (x, NameKind.cell) ∉ F.scope.names := fun hm => by
    have q := S.uniq _ hm
    rw [S.frk] at q
    cases q
  -- a name's cell: own and new, or the captured one
  have look : ∀ {y d}, (cellsFrom (s.heap.objs.size + 1) F.scope.names F.cl).lookup y = some d → (F.scope.names.lookup y = some .cell ∧ s.heap.objs.size + 1 ≤ d ∧ h1.IsCell d none) ∨ (y = x ∧ d = c) := fun {y d} e => by
    rcases look_cells _ _ _ e with ⟨h1', h2⟩ | h1'
    · refine .inl ⟨S.uniq _ h1', h2, ?_⟩
      have e' := PySem.mem_of_lookup e
      rw [← hsz] at e'
      rcases cells_mem e' with hm | ⟨_, _, h3⟩
      · rw [hcl, List.mem_singleton] at hm
        have e2 : d = c := (Prod.mk.inj hm).2
        rw [e2] at h2
        exact absurd (Nat.lt_of_lt_of_le hclt (Nat.le_of_succ_le h2)) (Nat.lt_irrefl _)
      · rw [← hh]; exact h3
    · rw [hcl] at h1'
      exact .inr (look_one h1')
  have lookx : (cellsFrom (s.heap.objs.size + 1) F.scope.names F.cl).lookup x = some c := by
    obtain ⟨d, hd'⟩ := mem_lookup (cells_acc (names := F.scope.names) (n := s.heap.objs.size + 1) (acc := F.cl) (p := (x, c)) (by rw [hcl]; exact List.mem_cons_self))
    rcases look_cells _ _ _ hd' with ⟨z, _⟩ | z
    · exact absurd z xno
    · rw [hcl] at z
      rw [hd', (look_one z).2]
  refine ⟨⟨e0.mod, S.kind, rfl, rfl, Nat.le_refl _, fun y z d h1 h2 => ?_, fun y hy => ?_, fun y d hfn h => ?_, fun _ => hd, Around.frames_deeper e0.frames, .inr ⟨rfl, rfl⟩, fun b z => absurd z (noA b), e0.bs, e0.bsz, fun b _ _ => noA b, fun b z => absurd z (noA b), e0.funs, e0.frf⟩,
    rfl, e0.bare, Un.kept kp, ⟨fun _ => none, ?_, fun i y v' e1 e2 e3 => ?_⟩, fun y d e => ?_, e0.hok.fresh (Nat.le_refl _), fun y d e => ?_, fun q hq => absurd (show q ∈ ([] : List (Addr × Obj)) ++ [] from hq) (by simp), e0.hok.kept kp, ?_⟩
  · have h1 : (cellsFrom (s.heap.objs.size + 1) F.scope.names F.cl).lookup y = some d := h1
    have h2 : (cellsFrom (s.heap.objs.size + 1) F.scope.names F.cl).lookup z = some d := h2
    have m1 := PySem.mem_of_lookup h1
    have m2 := PySem.mem_of_lookup h2
    rw [← hsz] at m1 m2
    refine cells_inj (fun q hq => ?_) (fun y z d a b => ?_) m1 m2
    · rw [hcl, List.mem_singleton] at hq
      subst hq
      rw [hsz]
      exact Nat.lt_succ_of_lt hclt
    · rw [hcl, List.mem_singleton] at a b
      cases a
      cases b
      rfl
  · have hy : F.scope.names.lookup y = some .cell ∨ F.scope.names.lookup y = some .free := hy
    rcases hy with hy | hy
    · obtain ⟨d, hm⟩ := cells_has (n := s.heap.objs.size + 1) (acc := F.cl) (PySem.mem_of_lookup hy)
      exact mem_lookup hm
    · have e := S.free _ (PySem.mem_of_lookup hy) rfl
      have e : y = x := e
      subst e
      exact ⟨c, lookx⟩
  · have hfn : (F.scope.names.lookup y == some NameKind.cell) = true := hfn
    have hfn : F.scope.names.lookup y = some .cell := by simpa using hfn
    rcases look h with ⟨_, h2, _⟩ | ⟨rfl, _⟩
    · exact Nat.le_of_succ_le h2
    · rw [S.frk] at hfn
      cases hfn
  · show h1.Ns s.heap.objs.size _
    rw [← hh]
    exact (Heap.Ns.new s.heap (.type "frame")).keeps (pushCells_keeps _ _)
  · have e1 : N[i]? = some y := e1
    have hi : i = 1 ∧ v' = v := by
      match i, e2 with
      | 0, e2 => cases e2
      | 1, e2 => exact ⟨rfl, (Option.some.inj (Option.some.inj e2)).symm⟩
      | n + 2, e2 =>
        have e2 : (List.replicate (N.length - 2) (none : Option V))[n]? = some (some v') := e2
        rw [List.getElem?_replicate] at e2
        split at e2 <;> cases e2
    obtain ⟨rfl, rfl⟩ := hi
    rw [S.x1] at e1
    cases e1
    exact ⟨u, ru, .inr ⟨.inr S.frk, c, lookx, let ⟨o, ho, hdd⟩ := hcell; ⟨o, kp _ _ ho, hdd⟩⟩⟩
  · rcases look e with ⟨_, _, h3⟩ | ⟨_, rfl⟩
    · exact ⟨none, h3⟩
    · exact ⟨some u, let ⟨o, ho, hdd⟩ := hcell; ⟨o, kp _ _ ho, hdd⟩⟩
  · rcases look e with ⟨_, h2, _⟩ | ⟨_, rfl⟩
    · exact e0.hok.fresh (Nat.le_of_succ_le h2)
    · exact hHc
  · show (start0 N v).length = N.length
    have : 2 ≤ N.length := by
      have := (List.getElem?_eq_some_iff.mp S.x1).1
      omega
    unfold start0
    simp
    omega
/-- what a nested function with one captured name promises: its cell c holds v at the call -/
structure NCal (P : Program) (w : World) (K : PySem.W.Frag) (mg : Str → Option Value) (base : Heap) (k : Nat) (f : Addr) (F : NF) (c : Addr) (v : V) (sp : Sp) : Prop where
  run : ∀ (A : Around) (outer : List Env) (s : Shared) (H : Hp) (u : Value) (a : V) (Q : VK), Room k A → Env0 P w K mg base A outer s H → H f = some (FnO f F) → H F.c = some (CodeO F.c F.qual) → CapAt c v s.heap H → L2.RelV a u → sp [a] H Q E0 →
    codeAny (model P w) A (.call (.ref f) ⟨[u], []⟩) (CR CX0 outer P w H s Q E0) s
theorem ncal_of {k : Nat} {sp : Sp} (S : NSc N p x F.scope) (hcl : F.cl = [(x, c)]) (hb : ∀ (doc pm ctv u : Value), bindArgs (F.fd doc pm ctv) ⟨[u], []⟩ = pure [(p, u)])
    (hbody : ∀ (A : Around) (outer : List Env) (s : Shared) (H : Hp) (a : V) (Q : VK), Room k (A.deeper (envN F f s.heap.objs.size)) → sp [a] H Q E0 →
      ∃ t, PSs (ncC P w K mg base N F f A outer s H) F.body t ∧ t { nx := fun _ H' => Q .non H', rt := Q } (some a :: some v :: List.replicate (N.length - 2) none) H) :
    NCal P w K mg base (k + 1) f F c v sp := by
  refine ⟨fun A outer s H u a Q hr e0 hf hc C r hsp => ?_⟩
  have lim : s.heap.NoLimit := e0.mod.nolimit.keeps fun b o e => (e0.bs b o e).1
  obtain ⟨od, sl, doc, pm, ctv, ho⟩ := fnO_at e0.hok hf
  refine codeAny_call_function hr.depth ho rfl S.co S.gen rfl (codeO_at e0.hok hc) ?_
  rw [hb doc pm ctv u]
  refine wpAny_pure ?_
  show wpAny _ _ (newFunctionEnv F.scope mainGlobals F.cl [(p, u)] (F.qual ++ ".<locals>.") (some f) (.ref F.c) none builtinsNs) _ _ s
  simp only [newFunctionEnv, Option.isSome_none, Bool.false_eq_true, if_false]
  refine wpAny_bind (wpAny_alloc ?_)
  refine wpAny_bind (wpAny_layCells _ (fun name kind cells => by cases hkc : kind == NameKind.cell <;> simp [hkc]) _ _ _ _ ?_)
  rw [show ({ s with heap := s.heap.push { cls := .type "frame", data := .dict #[] } } : Shared).heap.objs.size = s.heap.objs.size + 1 from Heap.size_push ..]
  have I := inv_startC (f := f) S hcl hr.hd e0 C
  rw [List.forIn_cons]
  refine wpAny_bind (wpAny_bind (wpAny_bind ?_))
  have hloc : Loc F.scope p := S.par
  have hfn : (ncC P w K mg base N F f A outer s H).fn p = true ∨ F.scope.names.lookup p = some .local := by
    rcases S.par with z | z
    · exact .inr z
    · exact .inl (by show (F.scope.names.lookup p == some NameKind.cell) = true; rw [z]; rfl)
  refine store_ok (X := ncC P w K mg base N F f A outer s H) (M := model P w) (A := A.in1) I S.nd S.p0 hloc r (fun s' I' => ?_) hfn
  refine wpAny_pure ?_
  show wpAny _ _ (forIn [] PUnit.unit _) _ _ s'
  rw [List.forIn_nil]
  refine wpAny_pure (wpAny_pure ⟨I'.nolimit, codeAny_func ?_⟩)
  obtain ⟨t, ht, hq⟩ := hbody A outer s H a Q (hr.deeper _) hsp
  refine wpAny_mono (ht.run [] s' (some a :: some v :: List.replicate (N.length - 2) none) H _ I' hq) (fun fl s2 hs => ?_) fun e s2 hs => hs.elim
  have fin : ∀ {σ' : L2.St} {H' : Hp} {y : V} {z : Value}, Inv (ncC P w K mg base N F f A outer s H) [] σ' H' s2 → L2.RelV y z → Q y H' → CE outer P w H s Q z s2 :=
    fun {σ' H' y z} J rv q => ⟨y, H', J.os, J.bare, J.base, J.hok, rv, q⟩
  cases fl with
  | ret z =>
    obtain ⟨y, σ', H', J, rv, q⟩ := hs
    exact fin J rv q
  | next =>
    obtain ⟨σ', H', J, q⟩ := hs
    exact fin (y := V.non) (z := Value.none) J rfl q
  | brk =>
    obtain ⟨_, _, _, q⟩ := hs
    exact False.elim q
  | cont =>
    obtain ⟨_, _, _, q⟩ := hs
    exact False.elim q
end
/-! a def that is handed such a function: what holds at its entry of the cell c holds all along -/
section
variable {X : Cx} {pins : List (Addr × Obj)} {σ : L2.St} {H : Hp} {s : Shared} {c : Addr} {v : V}
theorem CapAt.later (C : CapAt c v X.s_0.heap X.H_0) (hx : X.ex = []) (I : Inv X pins σ H s) : CapAt c v s.heap H := by
  obtain ⟨n, u, r, o, ho, hd⟩ := C
  have nx : c ∉ X.ex := by rw [hx]; simp
  obtain ⟨sl, e⟩ := I.base.any ho n nx
  exact ⟨I.base.free c o ho n nx, u, r, _, e, hd⟩
end
/-- a def's promise where the cell c holds v at the call -/
structure FnC (P : Program) (w : World) (K : PySem.W.Frag) (mg : Str → Option Value) (base : Heap) (k : Nat) (f : Addr) (fd : FuncData) (ps : List Str) (c : Addr) (v : V) (sp : Sp) : Prop where
  len : ∀ vs H Q E, sp vs H Q E → vs.length = ps.length
  run : ∀ (A : Around) (outer : List Env) (s : Shared) (H : Hp) (args : Args) (us : List Value) (vs : List V) (Q : VK), Room k A → Env0 P w K mg base A outer s H → CapAt c v s.heap H → BindsTo s fd args (ps.zip us) → Vals vs us → sp vs H Q E0 →
    codeAny (model P w) A (.call (.ref f) args) (CR CX0 outer P w H s Q E0) s
section
variable {P : Program} {w : World} {K : PySem.W.Frag} {mg : Str → Option Value} {base : Heap}
theorem fnC_of {x qual : Str} {st : Stmt} {f c : Addr} {v : V} {fd : FuncData} {N ps : List Str} {k : Nat} {sp : Sp} (F : Fun K x qual st f fd) (S : FnScope N ps (defScope st)) (len : ∀ vs H Q E, sp vs H Q E → vs.length = ps.length)
    (hbody : ∀ (cdv : Value) (A : Around) (outer : List Env) (s : Shared) (H : Hp) (vs : List V) (Q : VK), Room k (A.deeper (envOfC qual (defScope st) s.heap.objs.size f cdv)) → CapAt c v s.heap H → sp vs H Q E0 →
      ∃ t, PSs (cxOf CX0 P w K mg base N qual (defScope st) f cdv A outer s H E0).nox (defBody st) t ∧ t { nx := fun _ H' => Q .non H', rt := Q } (start N vs) H) : FnC P w K mg base (k + 1) f fd ps c v sp := by
  obtain ⟨oc, od, kV, doc, pm, an, cdv, ct, osl, rfl, lk, hcd⟩ := F.ex
  refine ⟨len, fun A outer s H args us vs Q hr e0 C hb r hsp => ?_⟩
  have hl := len _ _ _ _ hsp
  have old : ∀ b o, base.get? b = some o → s.heap.get? b = some o := fun b o e => (e0.bs b o e).1
  have KX : K.In s.heap := e0.mod.kin.keeps old
  refine codeAny_call_function hr.depth (KX _ _ lk) rfl S.co S.gen rfl (PySem.W.codeRec_of KX hcd) (hb _ _ _ _ ?_)
  refine wpAny_newFunctionEnv_cells S.kind (fun y hy => ?_) fun env he s1 I1 => ?_
  · rcases S.par y.1 (List.of_mem_zip hy).1 with q | q
    · exact .inl q
    · exact .inr ⟨q, PySem.W.cellsFrom_some _ _ _ (.inl q)⟩
  subst he
  have lim : s.heap.NoLimit := e0.mod.nolimit.keeps old
  refine ⟨lim.keeps I1.toInCall.keep, codeAny_func ?_⟩
  obtain ⟨t, ht, hq⟩ := hbody cdv A outer s H vs Q (hr.deeper _) C hsp
  have I := (inv_start (CX := CX0) (f := f) (cd := cdv) (qual := qual) (E := E0) S hr.hd e0 hl r I1).wish (fun _ _ => False)
  refine wpAny_mono (ht.run [] s1 (start N vs) H _ I hq) (fun fl s2 hs => ?_) fun e s2 hs => hs.elim
  cases fl with
  | ret z =>
    obtain ⟨y, σ', H', J, rv, q⟩ := hs
    exact ⟨y, H', J.os, J.bare, J.base, J.hok, rv, q⟩
  | next =>
    obtain ⟨σ', H', J, q⟩ := hs
    exact ⟨V.non, H', J.os, J.bare, J.base, J.hok, rfl, q⟩
  | brk =>
    obtain ⟨_, _, _, q⟩ := hs
    exact False.elim q
  | cont =>
    obtain ⟨_, _, _, q⟩ := hs
    exact False.elim q
end
/-- f(e), f a name that holds the nested function F at f -/
def tCallH (i : Nat) (f : Addr) (F : NF) (sp : Sp) (te : TE) : TE := fun σ H Q => σ[i]? = some (some (.ref f)) ∧ H f = some (FnO f F) ∧ te σ H fun a H1 => H1 f = some (FnO f F) ∧ H1 F.c = some (CodeO F.c F.qual) ∧ sp [a] H1 Q E0
/-- g(e, ..), g a def that is handed such a function; R: what of the caller's names tells the cell -/
def tCallC (sp : Sp) (R : L2.St → Prop) (t : TA) : TE := fun σ H Q => R σ ∧ t σ H fun vs H1 => sp vs H1 Q E0
section
variable {X : Cx} {k j i : Nat} {f c g : Addr} {F : NF} {v : V} {sp : Sp} {x : Str} {e : Expr} {es : List Expr} {te : TE} {t : TA} {p pos : Pos} {gd : FuncData} {ps : List Str} {R : L2.St → Prop}
theorem pe_callH (G : NCal X.prog X.w X.K X.mg X.base k f F c v sp) (hr : Room j X.A) (hk : k ≤ j) (hC : CapAt c v X.s_0.heap X.H_0) (hx : X.ex = []) (hN : X.N[i]? = some x) (hv : Vis X.env.scope x) (he : PE X e te)
    (hd : (x == ("__debug__" : Str)) = false := by decide) (hcd : (x == ("__classdict__" : Str)) = false := by decide)
    (hs : starEach [e] X.env = (false, eval e X.env) :: starEach [] X.env := by rfl) (hpl : (backTo pos (starEach [] X.env)).any (·.1) = false := by rfl) : PE X (.Call (.Name x p) [e] [] pos) (tCallH i f F sp te) := by
  refine ⟨fun pins s σ H Q I h => ?_⟩
  obtain ⟨h0, hf, ht⟩ := h
  refine wpAny_Call_Name_kw (thn ((pe_var (pos := p) hN hv hd hcd).run pins s σ H (fun v H1 => v = .ref f ∧ H1 = H) I ⟨.ref f, h0, rfl, rfl⟩) fun u s1 ⟨v', H1, I1, r1, e1, e2⟩ => ?_)
  subst e1
  subst e2
  obtain rfl : u = Value.ref f := r1
  have ha := (pa_cons he pa_nil hs).run pos pins s1 σ H1 (fun vs H2 => ∃ a, vs = [a] ∧ H2 f = some (FnO f F) ∧ H2 F.c = some (CodeO F.c F.qual) ∧ sp [a] H2 Q E0) I1
  refine PySem.W.callWith_F (first := []) (fnAt_of I1 hf) (thn (ha ?_) fun us s2 ⟨vs, H2, I2, r, a, ev, h1, h2, q⟩ => ⟨fnAt_of I2 h1, ?_⟩) hs hpl
  · show te σ H1 fun a H2 => _
    exact (show te σ H1 (fun a H2 => ∃ a', [a] = [a'] ∧ H2 f = some (FnO f F) ∧ H2 F.c = some (CodeO F.c F.qual) ∧ sp [a'] H2 Q E0) from by
      have : (fun (a : V) (H2 : Hp) => ∃ a', [a] = [a'] ∧ H2 f = some (FnO f F) ∧ H2 F.c = some (CodeO F.c F.qual) ∧ sp [a'] H2 Q E0) = fun a H2 => H2 f = some (FnO f F) ∧ H2 F.c = some (CodeO F.c F.qual) ∧ sp [a] H2 Q E0 := by
        funext a H2
        refine propext ⟨fun ⟨a', e, q⟩ => ?_, fun q => ⟨a, rfl, q⟩⟩
        cases e
        exact q
      rw [this]
      exact ht)
  subst ev
  cases r with
  | cons ra rt =>
    cases rt
    show wpAny _ _ (call (.ref f) [_]) _ _ s2
    refine wpAny_call (codeAny_mono (G.run X.A X.stack s2 H2 _ a Q (hr.mono hk) I2.env0 h1 h2 (hC.later hx I2) ra q) fun r s' hq => ?_)
    cases r with
    | error e => exact False.elim hq
    | ok fl =>
      cases fl with
      | ret u => exact I2.after hq
      | next => exact False.elim hq
      | brk => exact False.elim hq
      | cont => exact False.elim hq
theorem pe_callC (G : FnC X.prog X.w X.K X.mg X.base k g gd ps c v sp) (hr : Room j X.A) (hk : k ≤ j) (hC : ∀ {pins : List (Addr × Obj)} {σ : L2.St} {H : Hp} {s : Shared}, Inv X pins σ H s → R σ → CapAt c v s.heap H) (hg : Gl X x) (hm : X.mg x = some (.ref g)) (hkp : PySem.W.keepIn X.K (.ref g) = true) (hb : Binds X.K gd ps []) (ha : PA X (e :: es) t)
    (hdb : (x == ("__debug__" : Str)) = false := by decide) (hs : starEach (e :: es) X.env = (false, eval e X.env) :: starEach es X.env := by rfl) (hpl : (backTo pos (starEach es X.env)).any (·.1) = false := by rfl) : PE X (.Call (.Name x p) (e :: es) [] pos) (tCallC sp R t) := by
  refine ⟨fun pins s σ H Q I h => ?_⟩
  obtain ⟨hR, h⟩ := h
  refine wpAny_Call_Name_kw (ld_glob I hg hm ?_ hdb)
  refine PySem.W.callWith_K (h₀ := X.base) I.ok.mod.kin hkp (thn (ha.run pos pins s σ H _ I h) fun us s1 ⟨vs, H1, I1, r, q⟩ => ⟨I1.kIn, ?_⟩) hs hpl
  have hl : (us ++ []).length = ps.length := by rw [List.append_nil, ← r.length]; exact G.len _ _ _ _ q
  have hb' := hb s1 us I1.kIn hl
  rw [List.append_nil] at hb'
  show wpAny _ _ (call (.ref g) us) _ _ s1
  refine wpAny_call (codeAny_mono (G.run X.A X.stack s1 H1 ⟨us, []⟩ us vs Q (hr.mono hk) I1.env0 (hC I1 hR) hb' r q) fun r s' hq => ?_)
  cases r with
  | error e => exact False.elim hq
  | ok fl =>
    cases fl with
    | ret u => exact I1.after hq
    | next => exact False.elim hq
    | brk => exact False.elim hq
    | cont => exact False.elim hq
/-- the cell of a name of the running def (one that an inner def captures) -/
theorem cap_own {i : Nat} {x : Str} (hN : X.N[i]? = some x) (hk : X.env.scope.names.lookup x = some .cell) {pins : List (Addr × Obj)} {σ : L2.St} {H : Hp} {s : Shared} (I : Inv X pins σ H s) (hs : σ[i]? = some (some v)) : CapAt ((X.env.cells.lookup x).getD 0) v s.heap H := by
  obtain ⟨m, hn, hl⟩ := I.loc
  obtain ⟨u, r, l⟩ := hl i x v hN hs (.inr (.inl hk))
  rcases l with ⟨z, _⟩ | ⟨_, d, hd, hc⟩
  · have z : X.env.scope.names.lookup x = some .local := z
    rw [hk] at z
    cases z
  · rw [hd]
    exact ⟨I.freeC x d hd, u, r, hc⟩
end
end My

set_option Elab.async false
set_option linter.all false
set_option maxRecDepth 100000
set_option maxHeartbeats 2000000
/-! readings, step by step: further -/
namespace My
open PySem PySem.Spec PyProof.Rows L2 LamX NdefX
section
variable {X : Cx}
theorem op_isO : OpR X (compareOp .Is) rIsO := by
  intro pins s σ H x y v u Q I rx ry h
  obtain ⟨b, rfl, h⟩ := h
  cases (show u = Value.bool b from ry)
  rcases h with ⟨a, rfl, q⟩ | ⟨rfl, q⟩
  · cases (show v = Value.bool a from rx)
    by_cases e : a = b
    · subst e
      exact wpAny_is_self rfl ⟨.bl true, H, I, rfl, by simpa using q⟩
    · exact wpAny_is_other rfl (fun z => e (Value.bool.inj z)) ⟨.bl false, H, I, rfl, by simpa [e] using q⟩
  · cases (show v = Value.none from rx)
    exact wpAny_is_other rfl (fun z => by cases z) ⟨.bl false, H, I, rfl, q⟩
variable {K : PySem.W.Frag}
theorem k_cr_any (hc : X.calm = true) (h : X.K = K) : CallR X (.builtin "any") (rAny K) := by subst h; exact cr_any hc
end
section
variable {σ : L2.St} {H : Hp} {i : Nat} {v x y : V} {ta tb te : TE} {Q : VK} {K : PySem.W.Frag} {D : Ends} {t : TA} {xs : List V} {p : Addr} {tt tt1 : TT}
theorem g_isOb {a b : Bool} (q : Q (.bl (decide (a = b))) H) : rIsO (.bl a) (.bl b) H Q := ⟨b, rfl, .inl ⟨a, rfl, q⟩⟩
theorem g_isOn {b : Bool} (q : Q (.bl false) H) : rIsO .non (.bl b) H Q := ⟨b, rfl, .inr ⟨rfl, q⟩⟩
theorem g_any {bs : List Bool} (h : SqL K H p (bs.map V.bl)) (q : Q (.bl (bs.any id)) H) : rAny K [.ref p] H Q := ⟨p, bs, rfl, h, q⟩
theorem g_lc2 {wi wi1 : TI} {g g1 : TG} {vs vs1 : List Nat} (h : wi σ H fun J H1 => ∀ D, H1 D = none → ∃ W : Nat → Nat → Hp → Prop, (∃ m, W 0 m (upd H1 D (.lst []))) ∧ ∀ i m H, W i m H →
  (J.stop i H ∧ Q (.ref D) H) ∨ (J.go i H ∧ ∃ Nx : Hp → Prop, (∀ H', Nx H' → ∃ m', m' < m ∧ W (i + 1) m' H') ∧ ∀ x H', J.yld i H x H' → g x (wipe σ vs) H' fun σ2 H2 => wipe σ2 vs = wipe σ vs ∧ tt σ2 H2 fun b H3 =>
    if b = true then wi1 σ2 H3 fun J1 H4 => ∃ W1 : Nat → Nat → Hp → Prop, (∃ m, W1 0 m H4) ∧ ∀ j k H, W1 j k H →
      (J1.stop j H ∧ Nx H) ∨ (J1.go j H ∧ ∃ Nx1 : Hp → Prop, (∀ H', Nx1 H' → ∃ k', k' < k ∧ W1 (j + 1) k' H') ∧ ∀ x H', J1.yld j H x H' → g1 x (wipe σ2 vs1) H' fun σ3 H5 => wipe σ3 vs1 = wipe σ2 vs1 ∧ tt1 σ3 H5 fun b H6 =>
        if b = true then te σ3 H6 fun y H7 => ∃ acc, H7 D = some (.lst acc) ∧ acc.length < sizeLine ∧ Nx1 (upd H7 D (.lst (acc ++ [y]))) else Nx1 H6)
    else Nx H3)) : tLc2 wi g tt wi1 g1 tt1 te vs vs1 σ H Q := h
theorem g_callH {f : Addr} {F : NF} {sp : Sp} (h0 : σ[i]? = some (some (.ref f))) (hf : H f = some (FnO f F)) (h : te σ H fun a H1 => H1 f = some (FnO f F) ∧ H1 F.c = some (CodeO F.c F.qual) ∧ sp [a] H1 Q E0) : tCallH i f F sp te σ H Q := ⟨h0, hf, h⟩
theorem g_ndefM {T : List NTab} {mk : Addr → NF} (h : TabsN T H ∧ ∀ (f c' : Addr) (H1 : Hp), ExtN H H1 → (∀ b, H1 b = Option.none → H b = Option.none) → TabsN T H1 → H f = none → H1 f = some (FnO f (mk c')) → H1 c' = some (CodeO c' (mk c').qual) → D.nx (σ.set i (some (.ref f))) H1) : tNdefM T i mk D σ H := h
theorem g_callC {sp : Sp} {R : L2.St → Prop} (hR : R σ) (h : t σ H fun vs H1 => sp vs H1 Q E0) : tCallC sp R t σ H Q := ⟨hR, h⟩
end
section
variable {K : PySem.W.Frag} {a : Addr} {xs : List V} {H0 : Hp} {Qd : Hp → Prop} {Body : V → (Hp → Prop) → Hp → Prop}
/-- a walk over a tuple, whatever its turn does -/
theorem lw_tup (Pv : Nat → Hp → Prop) (h0 : Pv 0 H0) (hl : ∀ i H, i ≤ xs.length → Pv i H → SqT K H a xs) (hs : ∀ i x H, xs[i]? = some x → Pv i H → Body x (Pv (i + 1)) H) (hd : ∀ H, Pv xs.length H → Qd H) :
    ∃ W : Nat → Nat → Hp → Prop, (∃ m, W 0 m H0) ∧ ∀ i m H, W i m H → ((Itt K a).stop i H ∧ Qd H) ∨ ((Itt K a).go i H ∧ ∃ Nx : Hp → Prop, (∀ H', Nx H' → ∃ m', m' < m ∧ W (i + 1) m' H') ∧ ∀ x H', (Itt K a).yld i H x H' → Body x Nx H') := by
  refine ⟨fun i m H => m + i = xs.length ∧ Pv i H, ⟨xs.length, by simp, h0⟩, fun i m H ⟨em, p⟩ => ?_⟩
  have q := hl i H (by omega) p
  cases m with
  | zero =>
    have e : i = xs.length := by omega
    subst e
    exact .inl ⟨⟨xs, q, Nat.le_refl _⟩, hd H p⟩
  | succ m =>
    have hlt : i < xs.length := by omega
    exact .inr ⟨⟨xs, xs[i], q, List.getElem?_eq_getElem hlt⟩, Pv (i + 1), fun H' p' => ⟨m, by omega, by omega, p'⟩, fun x H' ⟨e, y⟩ => by subst e; exact hs i x _ (y xs q) p⟩
end
/-! a def whose code object is told (a def or generator within it needs its table) -/
structure FunC (K : PySem.W.Frag) (x qual : Str) (st : Stmt) (f : Addr) (fd : FuncData) (c : Addr) : Prop where
  ex : ∃ (oc : Value) (od : Option Addr) (kV doc pm : Value) (an : Option Addr) (ct : Value) (osl : Array (Option Value)),
    fd = PySem.W.fnOf x qual (defArgs st) (defBody st) (defScope st) .none kV doc pm an (.ref c) ct ∧ K.lookup f = some ⟨oc, od, .func fd, osl⟩ ∧ PySem.W.codeIn K (.ref c) qual = true
  kp : PySem.W.keepIn K (.ref f) = true
section
variable {P : Program} {w : World} {K : PySem.W.Frag} {mg : Str → Option Value} {base : Heap}
theorem FunC.fun {x qual : Str} {st : Stmt} {f c : Addr} {fd : FuncData} (F : FunC K x qual st f fd c) : Fun K x qual st f fd := by
  obtain ⟨oc, od, kV, doc, pm, an, ct, osl, e, l, h⟩ := F.ex
  exact ⟨⟨oc, od, kV, doc, pm, an, _, ct, osl, e, l, h⟩, F.kp⟩
theorem FunC.ok {x qual : Str} {st : Stmt} {f c : Addr} {fd : FuncData} {N ps : List Str} {k : Nat} {sp : Sp} (F : FunC K x qual st f fd c) (S : FnScope N ps (defScope st)) (len : ∀ vs H Q E, sp vs H Q E → vs.length = ps.length)
    (hbody : ∀ (A : Around) (outer : List Env) (s : Shared) (H : Hp) (vs : List V) (Q : VK) (E : XK), Room k (A.deeper (envOfC qual (defScope st) s.heap.objs.size f (.ref c))) → sp vs H Q E →
      ∃ t, PSs (cxOf CX0 P w K mg base N qual (defScope st) f (.ref c) A outer s H E).nox (defBody st) t ∧ t { nx := fun _ H' => Q .non H', rt := Q } (start N vs) H) : FnOk P w K mg base CX0 (k + 1) f fd ps sp := by
  obtain ⟨oc, od, kV, doc, pm, an, ct, osl, rfl, lk, hcd⟩ := F.ex
  refine fn_of lk hcd S len fun A outer s H vs Q E hr hsp => ?_
  obtain ⟨t, h, q⟩ := hbody A outer s H vs Q E hr hsp
  exact ⟨t, h.nox, q⟩
theorem func_mk {x qual : Str} {st : Stmt} {f c : Addr} {oc : Value} {od an : Option Addr} {osl : Array (Option Value)} {kV doc pm ct : Value} (l : K.lookup f = some ⟨oc, od, .func (PySem.W.fnOf x qual (defArgs st) (defBody st) (defScope st) .none kV doc pm an (.ref c) ct), osl⟩)
    (h : PySem.W.codeIn K (.ref c) qual = true) (k : PySem.W.keepIn K (.ref f) = true) : FunC K x qual st f (PySem.W.fnOf x qual (defArgs st) (defBody st) (defScope st) .none kV doc pm an (.ref c) ct) c := ⟨⟨oc, od, kV, doc, pm, an, ct, osl, rfl, l, h⟩, k⟩
end
end My

set_option Elab.async false
set_option maxRecDepth 100000
set_option maxHeartbeats 1000000
set_option pp.deepTerms false
set_option pp.deepTerms.threshold 12
namespace K50
open PySem L2 My
local macro_rules | `(tactic| walk_at "ne") => `(tactic| first | assumption | (refine Ne.symm ?_; assumption) | exact ne_of_none (by assumption) (by assumption) | exact (ne_of_none (by assumption) (by assumption)).symm)
local macro_rules | `(tactic| walk_at "hp") => `(tactic| first | assumption | exact upd_same | ((refine (upd_ne ?_).trans ?_); (walk_at "ne"); (walk_at "hp")))
local macro_rules | `(tactic| walk_at "sq") => `(tactic| first | assumption | exact SqL.of (by walk_at "hp") | exact SqT.of (by walk_at "hp"))
local macro_rules | `(tactic| walk_at "side") => `(tactic| first
  | ((with_reducible show CDivN _ _); exact ⟨by omega, by omega⟩)
  | ((with_reducible show CPow _ _); exact ⟨by decide, by decide, by decide⟩)
  | ((with_reducible show CMul _ _); first | exact .inl ⟨by omega, by omega⟩ | exact .inr ⟨by omega, by omega⟩)
  | ((show (0 : Int) < _); first | decide | omega))
local macro_rules | `(tactic| walk_at "ev1") => `(tactic| first
  | ((with_reducible refine' g_var ?h ?_); case h => rfl)
  | with_reducible refine' g_c ?_
  | with_reducible refine' g_op ?_
  | with_reducible refine' g_test ?_
  | with_reducible refine' g_blI ?_
  | with_reducible refine' g_B ?_
  | with_reducible refine' g_cons ?_
  | with_reducible refine' g_nil ?_
  | with_reducible refine' g_cb ?_
  | with_reducible refine' g_cal ?_
  | with_reducible refine' g_I0 ?_
  | ((with_reducible refine' g_I ?c ?_); case c => walk_at "side")
  | ((with_reducible refine' g_eq ?h ?_); case h => rfl)
  | ((with_reducible refine' g_ne ?h ?_); case h => rfl)
  | ((with_reducible refine' g_ixL ?h ?e ?_); (case h => walk_at "sq"); (case e => first | exact at0 | exact at1 | exact at2 | assumption | rfl))
  | ((with_reducible refine' g_ixT ?h ?e ?_); (case h => walk_at "sq"); (case e => first | exact at0 | exact at1 | exact at2 | assumption | rfl))
  | with_reducible refine' g_int1 ?_
  | with_reducible refine' g_int1b ?_
  | with_reducible refine' g_seq ?_
  | with_reducible refine' g_asg ?_
  | with_reducible refine' g_asgS ?_
  | ((with_reducible refine' g_setL ?h ?e ?_); (case h => walk_at "hp"); (case e => first | exact at0 | exact at1 | exact at2 | assumption | rfl))
  | with_reducible refine' g_drop ?_
  | with_reducible refine' g_ret ?_
  | with_reducible refine' g_ifS ?_
  | with_reducible refine' g_next ?_
  | with_reducible refine' g_un ?_
  | with_reducible refine' g_U ?_
  | with_reducible refine' g_tup ?_
  | with_reducible refine' g_lst ?_
  | with_reducible refine' g_if ?_
  | with_reducible refine' g_and ?_
  | with_reducible refine' g_or ?_
  | with_reducible refine' g_not ?_
  | with_reducible refine' g_andV ?_
  | with_reducible refine' g_orV ?_
  | with_reducible refine' g_notV ?_
  | with_reducible refine' g_bm ?_
  | with_reducible refine' g_bm0 ?_
  | with_reducible refine' g_isNo ?_
  | with_reducible refine' g_notNo ?_
  | with_reducible refine' g_abs ?_
  | with_reducible refine' g_max ?_
  | with_reducible refine' g_min ?_
  | with_reducible refine' g_sl ?_
  | with_reducible refine' g_noPart ?_
  | with_reducible refine' g_sc2 ?_
  | ((with_reducible refine' g_isi (b := false) ?h ?e ?_); (case h => assumption); (case e => decide +kernel))
  | ((with_reducible refine' g_isi (b := true) ?h ?e ?_); (case h => assumption); (case e => decide +kernel))
  | with_reducible refine' g_yes ?_
  | with_reducible refine' g_part ?_
  | with_reducible refine' g_someI ?_
  | with_reducible refine' g_lc ?_
  | with_reducible refine' g_lstRg ?_
  | with_reducible refine' g_rg1 ?_
  | with_reducible refine' g_asgG ?_
  | ((with_reducible refine' g_gTup ?h ?e ?_); (case h => walk_at "sq"); (case e => first | rfl | assumption))
  | with_reducible refine' g_gCons ?_
  | with_reducible refine' g_gNil ?_
  | with_reducible refine' g_trN ?_
  | with_reducible refine' g_trB ?_
  | with_reducible refine' g_disp ?_
  | with_reducible refine' g_pair ?_
  | with_reducible refine' g_pairN ?_
  | with_reducible refine' g_dget ?_
  | with_reducible refine' iteF ?_
  | with_reducible refine' iteT ?_
  | with_reducible refine' iteNF ?_
  | with_reducible refine' iteNT ?_
  | with_reducible refine' g_brk ?_
  | with_reducible refine' g_cont ?_
  | with_reducible refine' g_for ?_
  | with_reducible refine' g_rng1 ?_
  | with_reducible refine' g_iL ?_
  | with_reducible refine' g_iT ?_
  | with_reducible refine' g_gName ?_
  | ((with_reducible refine' g_lenL ?h ?_); case h => walk_at "sq")
  | ((with_reducible refine' g_lenT ?h ?_); case h => walk_at "sq")
  | ((with_reducible refine' g_tyL ?h ?_); case h => walk_at "sq"))
local macro_rules | `(tactic| walk_at "ev") => `(tactic| repeat walk_at "ev1")
local macro_rules | `(tactic| walk_at "ev2") => `(tactic| first
  | walk_at "ev1"
  | with_reducible refine' g_isOb ?_
  | with_reducible refine' g_isOn ?_
  | with_reducible refine' g_lc2 ?_
  | ((with_reducible refine' g_callC ?hR ?_); (case hR => first | exact True.intro | rfl))
  | ((with_reducible refine' g_callH ?h0 ?hf ?_); (case h0 => rfl); (case hf => first | assumption | walk_at "hp")))
local macro_rules | `(tactic| walk_at "evx") => `(tactic| repeat walk_at "ev2")

variable [Tbs]
/-- the list that a source is -/
def Src (H : Hp) (p : Addr) (B : Int) : Prop := ∃ c s n : Int, H p = some (.lst [.int c, .int s, .int n]) ∧ 0 ≤ c ∧ 0 ≤ s ∧ s ≤ 10000000 ∧ 0 ≤ n ∧ n ≤ B
def spDraw : Sp := fun vs H Q _ => ∃ (p : Addr) (m B : Int), vs = [.ref p, .int m] ∧ Src H p B ∧ 1 ≤ m ∧ m < 1000000000 ∧ B < 1000000 ∧
  ∀ (r : Int) (H' : Hp), 0 ≤ r → r < m → Src H' p (B + 1) → Fw [p] H H' → Q (.int r) H'
section
variable {P : Program} {w : World} {K : PySem.W.Frag} {mg : Str → Option Value} {base : Heap}
theorem ok_draw {f : Addr} {fd : FuncData} {k : Nat} (F : Fun K "_law_draw" "_law_draw" s__law_draw f fd) (T : Txt mg) : FnOk P w K mg base CX0 (k + 1) f fd ["source", "many"] spDraw := by
  refine F.ok sc__law_draw (fun vs H Q E h => ?_) (fun cdv A outer s H vs Q E hr h => ?_)
  · obtain ⟨p, m, B, rfl, _⟩ := h
    rfl
  obtain ⟨p, m, B, rfl, ⟨c, s0, n, hp, c0, h0, h1, n0, n1⟩, m1, m2, b2, q⟩ := h
  refine ⟨_, (pss_cons (ps_if (pt_cmpR op_ge (pe_ix ix_list (pv 0) pe_int (fun _ _ => rfl)) (pe_op op_pow pe_int pe_int) (nomark _)) (pss_cons (ps_set (i := 2) sc__law_draw.nd rfl (Or.inl rfl) (pe_op op_mod (pe_callTy cr_int1 (by rfl) T.int_ (by decide +kernel) (pa_cons (pe_ix ix_list (pv 0) pe_int (fun _ _ => rfl)) pa_nil)) (pv 1)))
      (pss_cons (ps_asg (pe_op op_fdivN (pe_ix ix_list (pv 0) pe_int (fun _ _ => rfl)) (pv 1)) (pg_sub (pv 0) pe_int set_list))
      (pss_one (ps_ret (pv 2))))) pss_nil)
      (pss_cons (ps_asg (pe_op op_add (pe_ix ix_list (pv 0) pe_int (fun _ _ => rfl)) pe_int) (pg_sub (pv 0) pe_int set_list))
      (pss_cons (ps_set (i := 3) sc__law_draw.nd rfl (Or.inl rfl) (pe_op op_add (pe_op op_add (pe_ix ix_list (pv 0) pe_int (fun _ _ => rfl)) (pe_op op_mul pe_int (pe_ix ix_list (pv 0) pe_int (fun _ _ => rfl)))) (pe_op op_mod (pe_callTy cr_int1 (by rfl) T.int_ (by decide +kernel) (pa_cons (pe_ix ix_list (pv 0) pe_int (fun _ _ => rfl)) pa_nil)) pe_int)))
      (pss_cons (ps_set (i := 3) sc__law_draw.nd rfl (Or.inl rfl) (pe_op op_mod (pe_callTy cr_int1 (by rfl) T.int_ (by decide +kernel) (pa_cons (pe_op op_add (pe_op op_mul (pv 3) (pv 3)) pe_int) pa_nil)) pe_int))
      (pss_cons (ps_set (i := 3) sc__law_draw.nd rfl (Or.inl rfl) (pe_op op_mod (pe_callTy cr_int1 (by rfl) T.int_ (by decide +kernel) (pa_cons (pe_op op_add (pe_op op_mul (pv 3) (pv 3)) (pe_ix ix_list (pv 0) pe_int (fun _ _ => rfl))) pa_nil)) pe_int))
      (pss_one (ps_ret (pe_op op_mod (pe_callTy cr_int1 (by rfl) T.int_ (by decide +kernel) (pa_cons (pe_op op_fdivN (pv 3) pe_int) pa_nil)) (pv 1))))))))), ?_⟩
  have e0 : start ["source", "many", "found", "mixed"] [.ref p, .int m] = [some (.ref p), some (.int m), none, none] := rfl
  rw [e0]
  walk_at "ev"
  refine iteD (fun big => ?_) (fun small => ?_)
  · walk_at "ev"
    have hd : c.fdiv m = c / m := Int.fdiv_eq_ediv_of_nonneg _ (by omega)
    refine q _ _ (Int.emod_nonneg _ (by omega)) (Int.emod_lt_of_pos _ (by omega)) ⟨c.fdiv m, s0, n, upd_same, ?_, h0, h1, n0, by omega⟩ ((Fw.refl _ H).write hp (.inl (by simp)))
    rw [hd]
    exact Int.ediv_nonneg c0 (by omega)
  · walk_at "ev"
    exact q _ _ (Int.emod_nonneg _ (by omega)) (Int.emod_lt_of_pos _ (by omega)) ⟨c, s0, n + 1, upd_same, c0, h0, h1, by omega, by omega⟩ ((Fw.refl _ H).write hp (.inl (by simp)))
/-- _law_source(script, 0) -/
def spSource (K : PySem.W.Frag) : Sp := fun vs H Q _ => ∃ (a : Addr) (ns : List Int), vs = [.ref a, .int 0] ∧ SqL K H a (ns.map V.int) ∧ ns.length ≤ 63 ∧ ∀ p, H p = none → ∀ H', Src H' p 0 → Fw [] H H' → Q (.ref p) H'
theorem ok_source {f : Addr} {fd : FuncData} {k : Nat} (F : Fun K "_law_source" "_law_source" s__law_source f fd) (T : Txt mg) : FnOk P w K mg base CX0 (k + 1) f fd ["script", "place"] (spSource K) := by
  refine F.ok sc__law_source (fun vs H Q E h => ?_) (fun cdv A outer s H vs Q E hr h => ?_)
  · obtain ⟨a, ns, rfl, _⟩ := h
    rfl
  obtain ⟨a, ns, rfl, hS, hl, q⟩ := h
  refine ⟨_, (pss_cons (ps_set (i := 2) sc__law_source.nd rfl (Or.inl rfl) pe_int)
      (pss_cons (ps_if (pt_cmpR op_lt (pv 1) (pe_callB cr_len (by rfl) T.len_ PySem.boot_len (pa_cons (pv 0) pa_nil)) (nomark _)) (pss_one (ps_set (i := 2) sc__law_source.nd rfl (Or.inl rfl) (pe_callB cr_abs (by rfl) T.abs_ (by decide +kernel) (pa_cons (pe_ix ix_list (pv 0) (pv 1) (fun _ _ => rfl)) pa_nil)))) pss_nil)
      (pss_one (ps_ret (pe_lst (pa_cons (pv 2) (pa_cons (pe_op op_add (pe_op op_add (pe_op op_mod (pe_callTy cr_int1 (by rfl) T.int_ (by decide +kernel) (pa_cons (pv 2) pa_nil)) pe_int) (pe_op op_mul pe_int (pv 1))) pe_int) (pa_cons pe_int pa_nil)))))))), ?_⟩
  have e0 : start ["script", "place", "cell"] [.ref a, .int 0] = [some (.ref a), some (.int 0), none] := rfl
  rw [e0]
  have fin : ∀ c : Int, 0 ≤ c → ∀ p, H p = none → Q (.ref p) (upd H p (.lst [.int c, .int (c % 1000003 + 31 * 0 + 17), .int 0])) := fun c hc p hp =>
    q p hp _ ⟨c, _, 0, upd_same, hc, by omega, by omega, by omega, by omega⟩ (Fw.new hp)
  walk_at "ev"
  refine iteD (fun c => ?_) (fun c => ?_)
  · cases ns with
    | nil => simp at c
    | cons n r =>
      walk_at "ev"
      refine ⟨by show 3 ≤ sizeLine; decide, fun p hp => ?_⟩
      exact fin _ (by split <;> omega) p hp
  · walk_at "ev"
    refine ⟨by show 3 ≤ sizeLine; decide, fun p hp => ?_⟩
    exact fin 0 (by omega) p hp
/-- _law_pick(source, row), row a list -/
def spPick (K : PySem.W.Frag) : Sp := fun vs H Q _ => ∃ (p l : Addr) (xs : List V) (B : Int), vs = [.ref p, .ref l] ∧ Src H p B ∧ SqL K H l xs ∧ l ≠ p ∧ xs ≠ [] ∧ xs.length ≤ 1000 ∧ B < 1000000 ∧
  ∀ x H', x ∈ xs → Src H' p (B + 1) → Fw [p] H H' → Q x H'
theorem ok_pick {f : Addr} {fd : FuncData} {k : Nat} (F : Fun K "_law_pick" "_law_pick" s__law_pick f fd) (T : Txt mg) (C__law_draw : Cal P w K mg base "_law_draw" k ["source", "many"] spDraw) : FnOk P w K mg base CX0 (k + 1) f fd ["source", "row"] (spPick K) := by
  refine F.ok sc__law_pick (fun vs H Q E h => ?_) (fun cdv A outer s H vs Q E hr h => ?_)
  · obtain ⟨p, l, xs, B, rfl, _⟩ := h
    rfl
  obtain ⟨p, l, xs, B, rfl, hs, hx, hne, hn, hl, hB, q⟩ := h
  refine ⟨_, (pss_one (ps_ret (pe_ix ix_list (pv 1) (pe_cal C__law_draw hr (by omega) rfl (pa_cons (pv 0) (pa_cons (pe_callB cr_len (by rfl) T.len_ PySem.boot_len (pa_cons (pv 1) pa_nil)) pa_nil))) (fun _ _ => rfl)))), ?_⟩
  have e0 : start ["source", "row"] [.ref p, .ref l] = [some (.ref p), some (.ref l)] := rfl
  rw [e0]
  have hpos : 0 < xs.length := List.length_pos_iff.mpr hn
  walk_at "ev"
  refine ⟨p, _, B, rfl, hs, by omega, by omega, hB, fun r H' r0 r1 hs' fw => ?_⟩
  obtain ⟨x, hm, _, ha⟩ := at_get r0 r1
  refine g_ixL (fw.sql hx (by simpa using hne)) ha ?_
  exact q _ _ hm hs' fw
end
end K50

set_option Elab.async false
set_option maxRecDepth 100000
set_option maxHeartbeats 1000000
set_option pp.deepTerms false
set_option pp.deepTerms.threshold 12
namespace K50
open PySem L2 My
local macro_rules | `(tactic| walk_at "ne") => `(tactic| first | assumption | (refine Ne.symm ?_; assumption) | exact ne_of_none (by assumption) (by assumption) | exact (ne_of_none (by assumption) (by assumption)).symm)
local macro_rules | `(tactic| walk_at "hp") => `(tactic| first | assumption | exact upd_same | ((refine (upd_ne ?_).trans ?_); (walk_at "ne"); (walk_at "hp")))
local macro_rules | `(tactic| walk_at "sq") => `(tactic| first | assumption | exact SqL.of (by walk_at "hp") | exact SqT.of (by walk_at "hp"))
local macro_rules | `(tactic| walk_at "side") => `(tactic| first
  | ((with_reducible show CDivN _ _); exact ⟨by omega, by omega⟩)
  | ((with_reducible show CPow _ _); exact ⟨by decide, by decide, by decide⟩)
  | ((with_reducible show CMul _ _); first | exact .inl ⟨by omega, by omega⟩ | exact .inr ⟨by omega, by omega⟩)
  | ((show (0 : Int) < _); first | decide | omega))
local macro_rules | `(tactic| walk_at "ev1") => `(tactic| first
  | ((with_reducible refine' g_var ?h ?_); case h => rfl)
  | with_reducible refine' g_c ?_
  | with_reducible refine' g_op ?_
  | with_reducible refine' g_test ?_
  | with_reducible refine' g_blI ?_
  | with_reducible refine' g_B ?_
  | with_reducible refine' g_cons ?_
  | with_reducible refine' g_nil ?_
  | with_reducible refine' g_cb ?_
  | with_reducible refine' g_cal ?_
  | with_reducible refine' g_I0 ?_
  | ((with_reducible refine' g_I ?c ?_); case c => walk_at "side")
  | ((with_reducible refine' g_eq ?h ?_); case h => rfl)
  | ((with_reducible refine' g_ne ?h ?_); case h => rfl)
  | ((with_reducible refine' g_ixL ?h ?e ?_); (case h => walk_at "sq"); (case e => first | exact at0 | exact at1 | exact at2 | assumption | rfl))
  | ((with_reducible refine' g_ixT ?h ?e ?_); (case h => walk_at "sq"); (case e => first | exact at0 | exact at1 | exact at2 | assumption | rfl))
  | with_reducible refine' g_int1 ?_
  | with_reducible refine' g_int1b ?_
  | with_reducible refine' g_seq ?_
  | with_reducible refine' g_asg ?_
  | with_reducible refine' g_asgS ?_
  | ((with_reducible refine' g_setL ?h ?e ?_); (case h => walk_at "hp"); (case e => first | exact at0 | exact at1 | exact at2 | assumption | rfl))
  | with_reducible refine' g_drop ?_
  | with_reducible refine' g_ret ?_
  | with_reducible refine' g_ifS ?_
  | with_reducible refine' g_next ?_
  | with_reducible refine' g_un ?_
  | with_reducible refine' g_U ?_
  | with_reducible refine' g_tup ?_
  | with_reducible refine' g_lst ?_
  | with_reducible refine' g_if ?_
  | with_reducible refine' g_and ?_
  | with_reducible refine' g_or ?_
  | with_reducible refine' g_not ?_
  | with_reducible refine' g_andV ?_
  | with_reducible refine' g_orV ?_
  | with_reducible refine' g_notV ?_
  | with_reducible refine' g_bm ?_
  | with_reducible refine' g_bm0 ?_
  | with_reducible refine' g_isNo ?_
  | with_reducible refine' g_notNo ?_
  | with_reducible refine' g_abs ?_
  | with_reducible refine' g_max ?_
  | with_reducible refine' g_min ?_
  | with_reducible refine' g_sl ?_
  | with_reducible refine' g_noPart ?_
  | with_reducible refine' g_sc2 ?_
  | ((with_reducible refine' g_isi (b := false) ?h ?e ?_); (case h => assumption); (case e => decide +kernel))
  | ((with_reducible refine' g_isi (b := true) ?h ?e ?_); (case h => assumption); (case e => decide +kernel))
  | with_reducible refine' g_yes ?_
  | with_reducible refine' g_part ?_
  | with_reducible refine' g_someI ?_
  | with_reducible refine' g_lc ?_
  | with_reducible refine' g_lstRg ?_
  | with_reducible refine' g_rg1 ?_
  | with_reducible refine' g_asgG ?_
  | ((with_reducible refine' g_gTup ?h ?e ?_); (case h => walk_at "sq"); (case e => first | rfl | assumption))
  | with_reducible refine' g_gCons ?_
  | with_reducible refine' g_gNil ?_
  | with_reducible refine' g_trN ?_
  | with_reducible refine' g_trB ?_
  | with_reducible refine' g_disp ?_
  | with_reducible refine' g_pair ?_
  | with_reducible refine' g_pairN ?_
  | with_reducible refine' g_dget ?_
  | with_reducible refine' iteF ?_
  | with_reducible refine' iteT ?_
  | with_reducible refine' iteNF ?_
  | with_reducible refine' iteNT ?_
  | with_reducible refine' g_brk ?_
  | with_reducible refine' g_cont ?_
  | with_reducible refine' g_for ?_
  | with_reducible refine' g_rng1 ?_
  | with_reducible refine' g_iL ?_
  | with_reducible refine' g_iT ?_
  | with_reducible refine' g_gName ?_
  | ((with_reducible refine' g_lenL ?h ?_); case h => walk_at "sq")
  | ((with_reducible refine' g_lenT ?h ?_); case h => walk_at "sq")
  | ((with_reducible refine' g_tyL ?h ?_); case h => walk_at "sq"))
local macro_rules | `(tactic| walk_at "ev") => `(tactic| repeat walk_at "ev1")
local macro_rules | `(tactic| walk_at "ev2") => `(tactic| first
  | walk_at "ev1"
  | with_reducible refine' g_isOb ?_
  | with_reducible refine' g_isOn ?_
  | with_reducible refine' g_lc2 ?_
  | ((with_reducible refine' g_callC ?hR ?_); (case hR => first | exact True.intro | rfl))
  | ((with_reducible refine' g_callH ?h0 ?hf ?_); (case h0 => rfl); (case hf => first | assumption | walk_at "hp")))
local macro_rules | `(tactic| walk_at "evx") => `(tactic| repeat walk_at "ev2")

variable [Tbs]
theorem Src.mono {H : Hp} {p : Addr} {B B' : Int} (h : Src H p B) (e : B ≤ B') : Src H p B' := by
  obtain ⟨c, s, n, h1, h2, h3, h4, h5, h6⟩ := h
  exact ⟨c, s, n, h1, h2, h3, h4, h5, by omega⟩
theorem Src.lst {H : Hp} {p : Addr} {B : Int} (h : Src H p B) : ∃ xs, H p = some (.lst xs) := let ⟨_, _, _, h, _⟩ := h; ⟨_, h⟩
theorem Src.ne {H : Hp} {p q : Addr} {B : Int} (h : Src H p B) (e : H q = none) : q ≠ p := by
  obtain ⟨_, h⟩ := h.lst
  exact (ne_of_none h e).symm
theorem Src.fw {H H' : Hp} {p : Addr} {M : List Addr} {B : Int} (h : Src H p B) (f : Fw M H H') (n : p ∉ M) : Src H' p B := by
  obtain ⟨c, s, n', h1, h2⟩ := h
  exact ⟨c, s, n', f.lst h1 n, h2⟩
def Opd.d : Opd → PyData
  | .at i => .tuple [.str "at", .int i]
  | .is c => .tuple [.str "is", .int c]
def Sg.txt : Sg → Str
  | .lt => "<"
  | .le => "<="
  | .eq => "="
  | .ne => "!="
def Cm.d (c : Cm) : PyData := .tuple [c.l.d, .str c.s.txt, c.r.d]
def rowD (cs : List Cm) : PyData := .tuple (cs.map Cm.d)
section
variable {P : Program} {w : World} {K : PySem.W.Frag} {mg : Str → Option Value} {base : Heap}
theorem big {n : Nat} (h : n ≤ 100000) : n ≤ sizeLine := Nat.le_trans h (by decide)
theorem bigl {n : Nat} (h : n < 100000) : n < sizeLine := Nat.lt_of_lt_of_le h (by decide)
def spConstants : Sp := fun vs H Q _ => ∃ (p : Addr) (top most B : Int), vs = [.ref p, .int top, .int most] ∧ Src H p B ∧ 0 ≤ top ∧ top ≤ 999 ∧ 1 ≤ most ∧ most ≤ 4 ∧ B < 100000 ∧
  ∀ (l : Addr) (ns : List Int) (H' : Hp), ns ≠ [] → (ns.length : Int) ≤ most → (∀ n ∈ ns, 0 ≤ n ∧ n ≤ 999) → H' l = some (.lst (ns.map V.int)) → H l = none → Src H' p (B + 100) → Fw [p] H H' → Q (.ref l) H'
theorem ok_constants {f : Addr} {fd : FuncData} {k : Nat} (F : Fun K "_law_constants" "_law_constants" s__law_constants f fd) (T : Txt mg) (C__law_draw : Cal P w K mg base "_law_draw" k ["source", "many"] spDraw)
    (C__law_pick : Cal P w K mg base "_law_pick" k ["source", "row"] (spPick K)) : FnOk P w K mg base CX0 (k + 1) f fd ["source", "top", "most"] spConstants := by
  refine F.ok sc__law_constants (fun vs H Q E h => ?_) (fun cdv A outer s H vs Q E hr h => ?_)
  · obtain ⟨p, top, most, B, rfl, _⟩ := h
    rfl
  obtain ⟨p, top, most, B, rfl, hs, t0, t1, m0, m1, hB, q⟩ := h
  refine ⟨_, (pss_cons (ps_set (i := 3) sc__law_constants.nd rfl (Or.inl rfl) (pe_lst pa_nil))
      (pss_cons (ps_for PassesOwn.never rfl (pi_range1 (by rfl) T.range_ (pa_cons (pe_op op_add pe_int (pe_cal C__law_draw hr (by omega) rfl (pa_cons (pv 0) (pa_cons (pv 2) pa_nil)))) pa_nil)) (pg_name (i := 4) sc__law_constants.nd rfl (Or.inl rfl)) (pss_cons (ps_set (i := 5) sc__law_constants.nd rfl (Or.inl rfl) (pe_cal C__law_pick hr (by omega) rfl (pa_cons (pv 0) (pa_cons (pe_op op_cat (pe_lst (pa_cons pe_int (pa_cons (pv 1) (pa_cons (pe_cal C__law_draw hr (by omega) rfl (pa_cons (pv 0) (pa_cons (pe_op op_add (pv 1) pe_int) pa_nil))) (pa_cons (pe_cal C__law_draw hr (by omega) rfl (pa_cons (pv 0) (pa_cons pe_int pa_nil))) pa_nil))))) (pv 3)) pa_nil))))
      (pss_one (ps_expr (pe_bm PySem.F.plainAttrs_list PySem.F.slot_list_append PySem.F.type_list_append mt_append (pv 3) (pa_cons (pe_callB (cr_max2 rfl) (by rfl) T.max_ (by decide +kernel) (pa_cons pe_int (pa_cons (pe_callB (cr_min2 rfl) (by rfl) T.min_ (by decide +kernel) (pa_cons pe_int (pa_cons (pe_op op_sub (pe_op op_add (pv 5) (pe_cal C__law_draw hr (by omega) rfl (pa_cons (pv 0) (pa_cons pe_int pa_nil)))) pe_int) pa_nil))) pa_nil))) pa_nil))))))
      (pss_one (ps_ret (pv 3))))), ?_⟩
  have e0 : start ["source", "top", "most", "made", "k", "base"] [.ref p, .int top, .int most] = [some (.ref p), some (.int top), some (.int most), none, none, none] := rfl
  rw [e0]
  walk_at "ev"
  refine ⟨by show 0 ≤ sizeLine; decide, fun l hl => ?_⟩
  walk_at "ev"
  have hlp := hs.ne hl
  have fw0 : Fw [p] H (upd H l (.lst [])) := Fw.new hl
  refine ⟨p, most, B, rfl, hs.fw (Fw.new (M := []) hl) (by simp), by omega, by omega, by omega, fun r H1 r0 r1 hs1 fw1 => ?_⟩
  have hl1 : H1 l = some (.lst []) := fw1.lst upd_same (by simpa using hlp)
  walk_at "ev"
  refine ⟨_, rfl, by omega, by omega, for_range (lo := 0) (n := (1 + r).toNat) (fun i σ H' => ∃ (ns : List Int) (k b : Option V), σ = [some (.ref p), some (.int top), some (.int most), some (.ref l), k, b] ∧ ns.length = i ∧ (∀ n ∈ ns, 0 ≤ n ∧ n ≤ 999) ∧ H' l = some (.lst (ns.map V.int)) ∧ Src H' p (B + 1 + 20 * i) ∧ Fw [p] H H') ?_ ?_ ?_⟩
  · exact ⟨[], none, none, rfl, rfl, by simp, hl1, hs1.mono (by omega), fw0.trans fw1⟩
  · rintro i σ H2 hi ⟨ns, k, b, rfl, en, hns, hl2, hs2, fw2⟩
    walk_at "ev"
    refine ⟨p, _, _, rfl, hs2, by omega, by omega, by omega, fun r1 H3 u0 u1 hs3 fw3 => ?_⟩
    walk_at "ev"
    refine ⟨p, _, _, rfl, hs3, by omega, by omega, by omega, fun r2 H4 v0 v1 hs4 fw4 => ?_⟩
    walk_at "ev"
    refine ⟨by show 4 ≤ sizeLine; decide, fun d hd => ?_⟩
    walk_at "ev"
    have hl4 : H4 l = some (.lst (ns.map V.int)) := (fw3.trans fw4).lst hl2 (by simpa using hlp)
    have hdl : d ≠ l := (ne_of_none hl4 hd).symm
    refine g_cat upd_same ((upd_ne hdl.symm).trans hl4) (big (by simp; omega)) fun e he => ?_
    walk_at "ev"
    have hdp := hs4.ne hd
    have hep : e ≠ p := fun z => by
      rw [z] at he
      rw [upd_ne hdp.symm] at he
      obtain ⟨_, y⟩ := hs4.lst
      rw [y] at he
      cases he
    have hs5 : Src (upd (upd H4 d (.lst [V.int 0, V.int top, V.int r1, V.int r2])) e (.lst ([V.int 0, V.int top, V.int r1, V.int r2] ++ ns.map V.int))) p (B + 1 + 20 * i + 1 + 1) :=
      hs4.fw ((Fw.new (M := []) hd).trans (Fw.new he)) (by simp)
    have hel : e ≠ l := fun z => by
      rw [z, upd_ne hdl.symm, hl4] at he
      cases he
    refine ⟨p, e, [0, top, r1, r2].map V.int ++ ns.map V.int, _, rfl, hs5, SqL.of upd_same, hep, by simp, by simp; omega, by omega, fun x H5 hx hs6 fw6 => ?_⟩
    rw [← List.map_append] at hx
    obtain ⟨b0, hb0, rfl⟩ := List.mem_map.mp hx
    have hbb : 0 ≤ b0 ∧ b0 ≤ 999 := by
      rcases List.mem_append.mp hb0 with z | z
      · simp at z; omega
      · exact hns _ z
    walk_at "ev"
    have hl5 : H5 l = some (.lst (ns.map V.int)) := fw6.lst (((upd_ne hel.symm).trans (upd_ne hdl.symm)).trans hl4) (by simpa using hlp)
    refine g_tyL (SqL.of hl5) ?_
    walk_at "ev"
    refine ⟨p, _, _, rfl, hs6, by omega, by omega, by omega, fun r3 H6 w0 w1 hs7 fw7 => ?_⟩
    walk_at "ev"
    have hl6 : H6 l = some (.lst (ns.map V.int)) := fw7.lst hl5 (by simpa using hlp)
    refine g_app hl6 (bigl (by simp; omega)) ?_
    walk_at "ev"
    have fw8 : Fw [p] H H6 := fw2.trans (fw3.trans (fw4.trans (((Fw.new hd).trans (Fw.new he)).trans (fw6.trans fw7))))
    refine ⟨ns ++ [if (if b0 + r3 - 1 < 999 then b0 + r3 - 1 else 999) > 0 then (if b0 + r3 - 1 < 999 then b0 + r3 - 1 else 999) else 0], _, _, rfl, by simp [en], fun n hn => ?_, ?_, ?_, ?_⟩
    · rcases List.mem_append.mp hn with z | z
      · exact hns n z
      · rw [List.mem_singleton] at z
        subst z
        constructor <;> (split <;> (try split) <;> omega)
    · rw [upd_same, List.map_append]
      rfl
    · exact (hs7.mono (by omega)).fw ((Fw.refl [l] H6).write hl6 (.inl (by simp))) (by simpa using hlp.symm)
    · exact fw8.write hl6 (.inr hl)
  · rintro σ H2 ⟨ns, k, b, rfl, en, hns, hl2, hs2, fw2⟩
    walk_at "ev"
    refine q l ns H2 (fun e => ?_) (by omega) hns hl2 hl (hs2.mono (by omega)) fw2
    rw [e] at en
    simp at en
    omega
end
end K50

set_option Elab.async false
set_option maxRecDepth 100000
set_option maxHeartbeats 1000000
set_option pp.deepTerms false
set_option pp.deepTerms.threshold 12
namespace K50
open PySem L2 My
local macro_rules | `(tactic| walk_at "ne") => `(tactic| first | assumption | (refine Ne.symm ?_; assumption) | exact ne_of_none (by assumption) (by assumption) | exact (ne_of_none (by assumption) (by assumption)).symm)
local macro_rules | `(tactic| walk_at "hp") => `(tactic| first | assumption | exact upd_same | ((refine (upd_ne ?_).trans ?_); (walk_at "ne"); (walk_at "hp")))
local macro_rules | `(tactic| walk_at "sq") => `(tactic| first | assumption | exact SqL.of (by walk_at "hp") | exact SqT.of (by walk_at "hp"))
local macro_rules | `(tactic| walk_at "side") => `(tactic| first
  | ((with_reducible show CDivN _ _); exact ⟨by omega, by omega⟩)
  | ((with_reducible show CPow _ _); exact ⟨by decide, by decide, by decide⟩)
  | ((with_reducible show CMul _ _); first | exact .inl ⟨by omega, by omega⟩ | exact .inr ⟨by omega, by omega⟩)
  | ((show (0 : Int) < _); first | decide | omega))
local macro_rules | `(tactic| walk_at "ev1") => `(tactic| first
  | ((with_reducible refine' g_var ?h ?_); case h => rfl)
  | with_reducible refine' g_c ?_
  | with_reducible refine' g_op ?_
  | with_reducible refine' g_test ?_
  | with_reducible refine' g_blI ?_
  | with_reducible refine' g_B ?_
  | with_reducible refine' g_cons ?_
  | with_reducible refine' g_nil ?_
  | with_reducible refine' g_cb ?_
  | with_reducible refine' g_cal ?_
  | with_reducible refine' g_I0 ?_
  | ((with_reducible refine' g_I ?c ?_); case c => walk_at "side")
  | ((with_reducible refine' g_eq ?h ?_); case h => rfl)
  | ((with_reducible refine' g_ne ?h ?_); case h => rfl)
  | ((with_reducible refine' g_ixL ?h ?e ?_); (case h => walk_at "sq"); (case e => first | exact at0 | exact at1 | exact at2 | assumption | rfl))
  | ((with_reducible refine' g_ixT ?h ?e ?_); (case h => walk_at "sq"); (case e => first | exact at0 | exact at1 | exact at2 | assumption | rfl))
  | with_reducible refine' g_int1 ?_
  | with_reducible refine' g_int1b ?_
  | with_reducible refine' g_seq ?_
  | with_reducible refine' g_asg ?_
  | with_reducible refine' g_asgS ?_
  | ((with_reducible refine' g_setL ?h ?e ?_); (case h => walk_at "hp"); (case e => first | exact at0 | exact at1 | exact at2 | assumption | rfl))
  | with_reducible refine' g_drop ?_
  | with_reducible refine' g_ret ?_
  | with_reducible refine' g_ifS ?_
  | with_reducible refine' g_next ?_
  | with_reducible refine' g_un ?_
  | with_reducible refine' g_U ?_
  | with_reducible refine' g_tup ?_
  | with_reducible refine' g_lst ?_
  | with_reducible refine' g_if ?_
  | with_reducible refine' g_and ?_
  | with_reducible refine' g_or ?_
  | with_reducible refine' g_not ?_
  | with_reducible refine' g_andV ?_
  | with_reducible refine' g_orV ?_
  | with_reducible refine' g_notV ?_
  | with_reducible refine' g_bm ?_
  | with_reducible refine' g_bm0 ?_
  | with_reducible refine' g_isNo ?_
  | with_reducible refine' g_notNo ?_
  | with_reducible refine' g_abs ?_
  | with_reducible refine' g_max ?_
  | with_reducible refine' g_min ?_
  | with_reducible refine' g_sl ?_
  | with_reducible refine' g_noPart ?_
  | with_reducible refine' g_sc2 ?_
  | ((with_reducible refine' g_isi (b := false) ?h ?e ?_); (case h => assumption); (case e => decide +kernel))
  | ((with_reducible refine' g_isi (b := true) ?h ?e ?_); (case h => assumption); (case e => decide +kernel))
  | with_reducible refine' g_yes ?_
  | with_reducible refine' g_part ?_
  | with_reducible refine' g_someI ?_
  | with_reducible refine' g_lc ?_
  | with_reducible refine' g_lstRg ?_
  | with_reducible refine' g_rg1 ?_
  | with_reducible refine' g_asgG ?_
  | ((with_reducible refine' g_gTup ?h ?e ?_); (case h => walk_at "sq"); (case e => first | rfl | assumption))
  | with_reducible refine' g_gCons ?_
  | with_reducible refine' g_gNil ?_
  | with_reducible refine' g_trN ?_
  | with_reducible refine' g_trB ?_
  | with_reducible refine' g_disp ?_
  | with_reducible refine' g_pair ?_
  | with_reducible refine' g_pairN ?_
  | with_reducible refine' g_dget ?_
  | with_reducible refine' iteF ?_
  | with_reducible refine' iteT ?_
  | with_reducible refine' iteNF ?_
  | with_reducible refine' iteNT ?_
  | with_reducible refine' g_brk ?_
  | with_reducible refine' g_cont ?_
  | with_reducible refine' g_for ?_
  | with_reducible refine' g_rng1 ?_
  | with_reducible refine' g_iL ?_
  | with_reducible refine' g_iT ?_
  | with_reducible refine' g_gName ?_
  | ((with_reducible refine' g_lenL ?h ?_); case h => walk_at "sq")
  | ((with_reducible refine' g_lenT ?h ?_); case h => walk_at "sq")
  | ((with_reducible refine' g_tyL ?h ?_); case h => walk_at "sq"))
local macro_rules | `(tactic| walk_at "ev") => `(tactic| repeat walk_at "ev1")
local macro_rules | `(tactic| walk_at "ev2") => `(tactic| first
  | walk_at "ev1"
  | with_reducible refine' g_isOb ?_
  | with_reducible refine' g_isOn ?_
  | with_reducible refine' g_lc2 ?_
  | ((with_reducible refine' g_callC ?hR ?_); (case hR => first | exact True.intro | rfl))
  | ((with_reducible refine' g_callH ?h0 ?hf ?_); (case h0 => rfl); (case hf => first | assumption | walk_at "hp")))
local macro_rules | `(tactic| walk_at "evx") => `(tactic| repeat walk_at "ev2")

variable [Tbs]
section
variable {P : Program} {w : World} {K : PySem.W.Frag} {mg : Str → Option Value} {base : Heap}
def spOperand (K : PySem.W.Frag) : Sp := fun vs H Q _ => ∃ (p l : Addr) (m : Nat) (ns : List Int) (B : Int), vs = [.ref p, .int m, .ref l] ∧ Src H p B ∧ m ≤ 3 ∧ H l = some (.lst (ns.map V.int)) ∧ l ≠ p ∧ ns ≠ [] ∧ ns.length ≤ 1000 ∧ B < 100000 ∧
  ∀ (x : V) (o : Opd) (H' : Hp), o.Ok m ns → Rep K H' x o.d → Src H' p (B + 3) → Fw [p] H H' → Q x H'
theorem ok_operand {f : Addr} {fd : FuncData} {k : Nat} (F : Fun K "_law_operand" "_law_operand" s__law_operand f fd) (T : Txt mg) (C__law_draw : Cal P w K mg base "_law_draw" k ["source", "many"] spDraw)
    (C__law_pick : Cal P w K mg base "_law_pick" k ["source", "row"] (spPick K)) : FnOk P w K mg base CX0 (k + 1) f fd ["source", "many", "constants"] (spOperand K) := by
  refine F.ok sc__law_operand (fun vs H Q E h => ?_) (fun cdv A outer s H vs Q E hr h => ?_)
  · obtain ⟨p, l, m, ns, B, rfl, _⟩ := h
    rfl
  obtain ⟨p, l, m, ns, B, rfl, hs, hm, hl, hlp, hn, hn2, hB, q⟩ := h
  refine ⟨_, (pss_cons (ps_if (PW.pt (pw_and (pt_cmpR op_gt (pv 1) pe_int (nomark _)) (pw_and1 (pt_cmpR op_gt (pe_cal C__law_draw hr (by omega) rfl (pa_cons (pv 0) (pa_cons pe_int pa_nil))) pe_int (nomark _))))) (pss_one (ps_ret (pe_tup (pa_cons pe_str (pa_cons (pe_cal C__law_draw hr (by omega) rfl (pa_cons (pv 0) (pa_cons (pv 1) pa_nil))) pa_nil))))) pss_nil)
      (pss_one (ps_ret (pe_tup (pa_cons pe_str (pa_cons (pe_cal C__law_pick hr (by omega) rfl (pa_cons (pv 0) (pa_cons (pv 2) pa_nil))) pa_nil)))))), ?_⟩
  have e0 : start ["source", "many", "constants"] [.ref p, .int m, .ref l] = [some (.ref p), some (.int m), some (.ref l)] := rfl
  rw [e0]
  have last : ∀ (H1 : Hp) (B' : Int), Src H1 p B' → B' ≤ B + 1 → Fw [p] H H1 → spPick K [.ref p, .ref l] H1 (fun y H2 => ∀ c, H2 c = none → Q (.ref c) (upd H2 c (.tup [.str "is", y]))) E0 := fun H1 B' hs1 hB' fw1 =>
    ⟨p, l, ns.map V.int, B', rfl, hs1, SqL.of (fw1.lst hl (by simpa using hlp)), hlp, by simpa using hn, by simpa using hn2, by omega, fun x H2 hx hs2 fw2 c hc => by
      obtain ⟨n, hn, rfl⟩ := List.mem_map.mp hx
      exact q _ (.is n) _ hn (.tup (SqT.of upd_same) (.cons (.str _) (.cons (.int _) .nil))) ((hs2.mono (by omega)).fw (Fw.new (M := []) hc) (by simp)) ((fw1.trans fw2).snoc hc)⟩
  walk_at "ev"
  refine iteD (fun c => ?_) (fun c => ?_)
  · walk_at "ev"
    refine ⟨p, _, _, rfl, hs, by omega, by omega, by omega, fun r H1 r0 r1 hs1 fw1 => ?_⟩
    walk_at "ev"
    refine iteD (fun c => ?_) (fun c => ?_)
    · walk_at "ev"
      refine ⟨p, _, _, rfl, hs1, by omega, by omega, by omega, fun r2 H2 u0 u1 hs2 fw2 => ?_⟩
      walk_at "ev"
      refine ⟨by show 2 ≤ sizeLine; decide, fun c hc => ?_⟩
      refine q _ (.at r2.toNat) _ (by show r2.toNat < m; omega) ?_ ((hs2.mono (by omega)).fw (Fw.new (M := []) hc) (by simp)) ((fw1.trans fw2).snoc hc)
      have e : (Int.ofNat r2.toNat) = r2 := by show ((r2.toNat : Nat) : Int) = r2; omega
      show Rep K _ _ (.tuple [.str "at", .int ((r2.toNat : Nat) : Int)])
      rw [show ((r2.toNat : Nat) : Int) = r2 from e]
      exact .tup (SqT.of upd_same) (.cons (.str _) (.cons (.int _) .nil))
    · walk_at "ev"
      obtain ⟨p', l', xs, B', e1, h1, h2, h3, h4, h5, h6, h7⟩ := last H1 _ hs1 (by omega) fw1
      exact ⟨p', l', xs, B', e1, h1, h2, h3, h4, h5, h6, fun x H2 hx hs2 fw2 => ⟨by show 2 ≤ sizeLine; decide, fun c hc => h7 x H2 hx hs2 fw2 c hc⟩⟩
  · walk_at "ev"
    obtain ⟨p', l', xs, B', e1, h1, h2, h3, h4, h5, h6, h7⟩ := last H _ hs (by omega) (Fw.refl _ _)
    exact ⟨p', l', xs, B', e1, h1, h2, h3, h4, h5, h6, fun x H2 hx hs2 fw2 => ⟨by show 2 ≤ sizeLine; decide, fun c hc => h7 x H2 hx hs2 fw2 c hc⟩⟩

def spComparisons (K : PySem.W.Frag) : Sp := fun vs H Q _ => ∃ (p l : Addr) (m n : Nat) (ns : List Int) (B : Int), vs = [.ref p, .int m, .ref l, .int n] ∧ Src H p B ∧ m ≤ 3 ∧ H l = some (.lst (ns.map V.int)) ∧ l ≠ p ∧ ns ≠ [] ∧ ns.length ≤ 1000 ∧ n ≤ 20 ∧ B < 90000 ∧
  ∀ (x : V) (cs : List Cm) (H' : Hp), cs.length = n → (∀ c ∈ cs, c.Ok m ns) → Rep K H' x (rowD cs) → Src H' p (B + 200) → Fw [p] H H' → Q x H'
theorem ok_comparisons {f : Addr} {fd : FuncData} {k : Nat} (F : Fun K "_law_comparisons" "_law_comparisons" s__law_comparisons f fd) (T : Txt mg) (C__law_pick : Cal P w K mg base "_law_pick" k ["source", "row"] (spPick K))
    (C__law_operand : Cal P w K mg base "_law_operand" k ["source", "many", "constants"] (spOperand K)) : FnOk P w K mg base CX0 (k + 1) f fd ["source", "many", "constants", "size"] (spComparisons K) := by
  refine F.ok sc__law_comparisons (fun vs H Q E h => ?_) (fun cdv A outer s H vs Q E hr h => ?_)
  · obtain ⟨p, l, m, n, ns, B, rfl, _⟩ := h
    rfl
  obtain ⟨p, l, m, n, ns, B, rfl, hs, hm, hl, hlp, hn, hn2, hn3, hB, q⟩ := h
  refine ⟨_, (pss_cons (ps_set (i := 4) sc__law_comparisons.nd rfl (Or.inl rfl) (pe_tup pa_nil))
      (pss_cons (ps_for PassesOwn.never rfl (pi_range1 (by rfl) T.range_ (pa_cons (pv 3) pa_nil)) (pg_name (i := 5) sc__law_comparisons.nd rfl (Or.inl rfl)) (pss_cons (ps_set (i := 6) sc__law_comparisons.nd rfl (Or.inl rfl) (pe_cal C__law_operand hr (by omega) rfl (pa_cons (pv 0) (pa_cons (pv 1) (pa_cons (pv 2) pa_nil)))))
      (pss_cons (ps_set (i := 7) sc__law_comparisons.nd rfl (Or.inl rfl) (pe_cal C__law_pick hr (by omega) rfl (pa_cons (pv 0) (pa_cons (pe_lst (pa_cons pe_str (pa_cons pe_str (pa_cons pe_str (pa_cons pe_str pa_nil))))) pa_nil))))
      (pss_one (ps_set (i := 4) sc__law_comparisons.nd rfl (Or.inl rfl) (pe_op op_catA (pv 4) (pe_tup (pa_cons (pe_tup (pa_cons (pv 6) (pa_cons (pv 7) (pa_cons (pe_cal C__law_operand hr (by omega) rfl (pa_cons (pv 0) (pa_cons (pv 1) (pa_cons (pv 2) pa_nil)))) pa_nil)))) pa_nil))))))))
      (pss_one (ps_ret (pv 4))))), ?_⟩
  have e0 : start ["source", "many", "constants", "size", "made", "k", "left", "sign"] [.ref p, .int m, .ref l, .int n] = [some (.ref p), some (.int m), some (.ref l), some (.int n), none, none, none, none] := rfl
  rw [e0]
  walk_at "ev"
  refine ⟨by show 0 ≤ sizeLine; decide, fun c hc => ?_⟩
  walk_at "ev"
  refine ⟨_, rfl, by omega, by omega, for_range (lo := 0) (n := ((n : Int)).toNat) (fun i σ H' => ∃ (a : Addr) (cs : List Cm) (k b e : Option V), σ = [some (.ref p), some (.int m), some (.ref l), some (.int n), some (.ref a), k, b, e] ∧ cs.length = i ∧ (∀ c ∈ cs, c.Ok m ns) ∧
    Rep K H' (.ref a) (rowD cs) ∧ Src H' p (B + 10 * i) ∧ Fw [p] H H') ?_ ?_ ?_⟩
  · exact ⟨c, [], none, none, none, rfl, rfl, by simp, .tup (SqT.of upd_same) .nil, (hs.fw (Fw.new (M := []) hc) (by simp)).mono (by omega), Fw.new hc⟩
  · rintro i σ H2 hi ⟨a, cs, k, b, e, rfl, en, hcs, hR, hs2, fw2⟩
    walk_at "ev"
    refine ⟨p, l, m, ns, _, rfl, hs2, hm, fw2.lst hl (by simpa using hlp), hlp, hn, hn2, by omega, fun x o H3 ok1 hx hs3 fw3 => ?_⟩
    walk_at "ev"
    refine ⟨by show 4 ≤ sizeLine; decide, fun d hd => ?_⟩
    walk_at "ev"
    refine ⟨p, d, [.str "<", .str "<=", .str "=", .str "!="], _, rfl, hs3.fw (Fw.new (M := []) hd) (by simp), SqL.of upd_same, hs3.ne hd, by simp, by simp, by omega, fun y H4 hy hs4 fw4 => ?_⟩
    obtain ⟨sg, rfl⟩ : ∃ sg : Sg, y = .str sg.txt := by
      simp only [List.mem_cons, List.not_mem_nil, or_false] at hy
      rcases hy with rfl | rfl | rfl | rfl
      · exact ⟨.lt, rfl⟩
      · exact ⟨.le, rfl⟩
      · exact ⟨.eq, rfl⟩
      · exact ⟨.ne, rfl⟩
    walk_at "ev"
    have fw5 : Fw [p] H H4 := fw2.trans (fw3.trans ((Fw.new hd).trans fw4))
    refine ⟨p, l, m, ns, _, rfl, hs4, hm, fw5.lst hl (by simpa using hlp), hlp, hn, hn2, by omega, fun z o2 H5 ok2 hz hs5 fw6 => ?_⟩
    walk_at "ev"
    refine ⟨by show 3 ≤ sizeLine; decide, fun u hu => ?_⟩
    walk_at "ev"
    refine ⟨by show 1 ≤ sizeLine; decide, fun v hv => ?_⟩
    have fwa : Fw [p] H2 H5 := fw3.trans ((Fw.new hd).trans (fw4.trans fw6))
    have fwb : Fw [p] H3 H5 := (Fw.new hd).trans (fw4.trans fw6)
    have fwn : Fw [p] H5 (upd (upd H5 u (.tup [x, .str sg.txt, z])) v (.tup [.ref u])) := (Fw.new hu).trans (Fw.new hv)
    cases hR with
    | @tup _ xs _ h r =>
      have hxs : xs.length = cs.length := by rw [r.length, List.length_map]
      refine g_catR (fwn.sqt (fwa.sqt h)) (SqT.of upd_same) (big (by simp; omega)) (by simp) fun b' H6 hb' eH => ?_
      have fwl : Fw [p] (upd (upd H5 u (.tup [x, .str sg.txt, z])) v (.tup [.ref u])) H6 := by
        rcases eH with rfl | ⟨hb, rfl⟩
        · exact Fw.refl _ _
        · exact Fw.new hb
      have fwN : Fw [] (upd (upd H5 u (.tup [x, .str sg.txt, z])) v (.tup [.ref u])) H6 := by
        rcases eH with rfl | ⟨hb, rfl⟩
        · exact Fw.refl _ _
        · exact Fw.new hb
      have hu2 : (upd (upd H5 u (.tup [x, .str sg.txt, z])) v (.tup [.ref u])) u = some (.tup [x, .str sg.txt, z]) := by
        rw [upd_ne (ne_of_none upd_same hv)]
        exact upd_same
      refine ⟨b', cs ++ [⟨o, sg, o2⟩], _, _, _, rfl, by simp [en], fun c hc => ?_, ?_, ?_, ?_⟩
      · rcases List.mem_append.mp hc with t | t
        · exact hcs c t
        · rw [List.mem_singleton] at t
          subst t
          exact ⟨ok1, ok2⟩
      · refine .tup hb' ?_
        rw [List.map_append]
        refine RepAll.append (RepAll.keep ((fwa.trans (fwn.trans fwl)).tk) r) (.cons ?_ .nil)
        refine .tup (fwl.sqt (SqT.of hu2)) (.cons (Rep.keep (fwb.trans (fwn.trans fwl)).tk hx) (.cons (.str _) (.cons (Rep.keep (fwn.trans fwl).tk hz) .nil)))
      · exact ((hs5.fw ((Fw.new (M := []) hu).trans (Fw.new hv)) (by simp)).fw fwN (by simp)).mono (by omega)
      · exact fw5.trans (fw6.trans (fwn.trans fwl))
  · rintro σ H2 ⟨a, cs, k, b, e, rfl, en, hcs, hR, hs2, fw2⟩
    walk_at "ev"
    exact q _ cs H2 (by omega) hcs hR (hs2.mono (by omega)) fw2
end
end K50

set_option Elab.async false
set_option maxRecDepth 100000
set_option maxHeartbeats 1000000
set_option pp.deepTerms false
set_option pp.deepTerms.threshold 12
namespace K50
open PySem L2 My
local macro_rules | `(tactic| walk_at "ne") => `(tactic| first | assumption | (refine Ne.symm ?_; assumption) | exact ne_of_none (by assumption) (by assumption) | exact (ne_of_none (by assumption) (by assumption)).symm)
local macro_rules | `(tactic| walk_at "hp") => `(tactic| first | assumption | exact upd_same | ((refine (upd_ne ?_).trans ?_); (walk_at "ne"); (walk_at "hp")))
local macro_rules | `(tactic| walk_at "sq") => `(tactic| first | assumption | exact SqL.of (by walk_at "hp") | exact SqT.of (by walk_at "hp"))
local macro_rules | `(tactic| walk_at "side") => `(tactic| first
  | ((with_reducible show CDivN _ _); exact ⟨by omega, by omega⟩)
  | ((with_reducible show CPow _ _); exact ⟨by decide, by decide, by decide⟩)
  | ((with_reducible show CMul _ _); first | exact .inl ⟨by omega, by omega⟩ | exact .inr ⟨by omega, by omega⟩)
  | ((show (0 : Int) < _); first | decide | omega))
local macro_rules | `(tactic| walk_at "ev1") => `(tactic| first
  | ((with_reducible refine' g_var ?h ?_); case h => rfl)
  | with_reducible refine' g_c ?_
  | with_reducible refine' g_op ?_
  | with_reducible refine' g_test ?_
  | with_reducible refine' g_blI ?_
  | with_reducible refine' g_B ?_
  | with_reducible refine' g_cons ?_
  | with_reducible refine' g_nil ?_
  | with_reducible refine' g_cb ?_
  | with_reducible refine' g_cal ?_
  | with_reducible refine' g_I0 ?_
  | ((with_reducible refine' g_I ?c ?_); case c => walk_at "side")
  | ((with_reducible refine' g_eq ?h ?_); case h => rfl)
  | ((with_reducible refine' g_ne ?h ?_); case h => rfl)
  | ((with_reducible refine' g_ixL ?h ?e ?_); (case h => walk_at "sq"); (case e => first | exact at0 | exact at1 | exact at2 | assumption | rfl))
  | ((with_reducible refine' g_ixT ?h ?e ?_); (case h => walk_at "sq"); (case e => first | exact at0 | exact at1 | exact at2 | assumption | rfl))
  | with_reducible refine' g_int1 ?_
  | with_reducible refine' g_int1b ?_
  | with_reducible refine' g_seq ?_
  | with_reducible refine' g_asg ?_
  | with_reducible refine' g_asgS ?_
  | ((with_reducible refine' g_setL ?h ?e ?_); (case h => walk_at "hp"); (case e => first | exact at0 | exact at1 | exact at2 | assumption | rfl))
  | with_reducible refine' g_drop ?_
  | with_reducible refine' g_ret ?_
  | with_reducible refine' g_ifS ?_
  | with_reducible refine' g_next ?_
  | with_reducible refine' g_un ?_
  | with_reducible refine' g_U ?_
  | with_reducible refine' g_tup ?_
  | with_reducible refine' g_lst ?_
  | with_reducible refine' g_if ?_
  | with_reducible refine' g_and ?_
  | with_reducible refine' g_or ?_
  | with_reducible refine' g_not ?_
  | with_reducible refine' g_andV ?_
  | with_reducible refine' g_orV ?_
  | with_reducible refine' g_notV ?_
  | with_reducible refine' g_bm ?_
  | with_reducible refine' g_bm0 ?_
  | with_reducible refine' g_isNo ?_
  | with_reducible refine' g_notNo ?_
  | with_reducible refine' g_abs ?_
  | with_reducible refine' g_max ?_
  | with_reducible refine' g_min ?_
  | with_reducible refine' g_sl ?_
  | with_reducible refine' g_noPart ?_
  | with_reducible refine' g_sc2 ?_
  | ((with_reducible refine' g_isi (b := false) ?h ?e ?_); (case h => assumption); (case e => decide +kernel))
  | ((with_reducible refine' g_isi (b := true) ?h ?e ?_); (case h => assumption); (case e => decide +kernel))
  | with_reducible refine' g_yes ?_
  | with_reducible refine' g_part ?_
  | with_reducible refine' g_someI ?_
  | with_reducible refine' g_lc ?_
  | with_reducible refine' g_lstRg ?_
  | with_reducible refine' g_rg1 ?_
  | with_reducible refine' g_asgG ?_
  | ((with_reducible refine' g_gTup ?h ?e ?_); (case h => walk_at "sq"); (case e => first | rfl | assumption))
  | with_reducible refine' g_gCons ?_
  | with_reducible refine' g_gNil ?_
  | with_reducible refine' g_trN ?_
  | with_reducible refine' g_trB ?_
  | with_reducible refine' g_disp ?_
  | with_reducible refine' g_pair ?_
  | with_reducible refine' g_pairN ?_
  | with_reducible refine' g_dget ?_
  | with_reducible refine' iteF ?_
  | with_reducible refine' iteT ?_
  | with_reducible refine' iteNF ?_
  | with_reducible refine' iteNT ?_
  | with_reducible refine' g_brk ?_
  | with_reducible refine' g_cont ?_
  | with_reducible refine' g_for ?_
  | with_reducible refine' g_rng1 ?_
  | with_reducible refine' g_iL ?_
  | with_reducible refine' g_iT ?_
  | with_reducible refine' g_gName ?_
  | ((with_reducible refine' g_lenL ?h ?_); case h => walk_at "sq")
  | ((with_reducible refine' g_lenT ?h ?_); case h => walk_at "sq")
  | ((with_reducible refine' g_tyL ?h ?_); case h => walk_at "sq"))
local macro_rules | `(tactic| walk_at "ev") => `(tactic| repeat walk_at "ev1")
local macro_rules | `(tactic| walk_at "ev2") => `(tactic| first
  | walk_at "ev1"
  | with_reducible refine' g_isOb ?_
  | with_reducible refine' g_isOn ?_
  | with_reducible refine' g_lc2 ?_
  | ((with_reducible refine' g_callC ?hR ?_); (case hR => first | exact True.intro | rfl))
  | ((with_reducible refine' g_callH ?h0 ?hf ?_); (case h0 => rfl); (case hf => first | assumption | walk_at "hp")))
local macro_rules | `(tactic| walk_at "evx") => `(tactic| repeat walk_at "ev2")

variable [Tbs]
def O : Option Int → V
  | some a => .int a
  | none => .non
def OB : Option Bool → V
  | some a => .bl a
  | none => .non
section
variable {P : Program} {w : World} {K : PySem.W.Frag} {mg : Str → Option Value} {base : Heap}
def spOperandAt (K : PySem.W.Frag) : Sp := fun vs H Q _ => ∃ (x : V) (r : Addr) (o : Opd) (row : List Int), vs = [x, .ref r] ∧ Rep K H x o.d ∧ SqT K H r (row.map V.int) ∧ Q (O (o.val row)) H
theorem ok_operand_at {f : Addr} {fd : FuncData} {k : Nat} (F : Fun K "operand_at" "operand_at" s_operand_at f fd) (T : Txt mg) : FnOk P w K mg base CX0 (k + 1) f fd ["operand", "row"] (spOperandAt K) := by
  refine F.ok sc_operand_at (fun vs H Q E h => ?_) (fun cdv A outer s H vs Q E hr h => ?_)
  · obtain ⟨x, r, o, row, rfl, _⟩ := h
    rfl
  obtain ⟨x, r, o, row, rfl, hx, hR, q⟩ := h
  refine ⟨_, (pss_cons (ps_if (pt_cmpR op_eq (pe_ix ix_tup (pv 0) pe_int (fun _ _ => rfl)) pe_str (nomark _)) (pss_one (ps_ret (pe_ix ix_tup (pv 0) pe_int (fun _ _ => rfl)))) pss_nil)
      (pss_cons (ps_if (pt_cmpR op_lt (pe_ix ix_tup (pv 0) pe_int (fun _ _ => rfl)) (pe_callB cr_len (by rfl) T.len_ PySem.boot_len (pa_cons (pv 1) pa_nil)) (nomark _)) (pss_one (ps_ret (pe_ix ix_tup (pv 1) (pe_ix ix_tup (pv 0) pe_int (fun _ _ => rfl)) (fun _ _ => rfl)))) pss_nil)
      (pss_one (ps_ret pe_non)))), ?_⟩
  have e0 : start ["operand", "row"] [x, .ref r] = [some x, some (.ref r)] := rfl
  rw [e0]
  cases o with
  | is c =>
    obtain ⟨a, u, v, rfl, h, h1, h2⟩ := Rep.inv2 hx
    obtain rfl := h1.invS
    obtain rfl := h2.invI
    walk_at "ev"
    refine iteD (fun _ => ?_) (fun n => absurd rfl n)
    walk_at "ev"
    exact q
  | «at» i =>
    obtain ⟨a, u, v, rfl, h, h1, h2⟩ := Rep.inv2 hx
    obtain rfl := h1.invS
    obtain rfl := h2.invI
    walk_at "ev"
    refine iteD (fun n => ?_) (fun _ => ?_)
    · exact absurd n (by decide)
    walk_at "ev"
    rw [List.length_map]
    refine iteD (fun c => ?_) (fun c => ?_)
    · walk_at "ev"
      have hi : i < row.length := by omega
      refine g_ixT hR (v := .int row[i]) (atI_nat (by rw [List.getElem?_map, List.getElem?_eq_getElem hi]; rfl)) ?_
      have e : (Opd.at i).val row = some row[i] := List.getElem?_eq_getElem hi
      rw [e] at q
      exact q
    · walk_at "ev"
      have e : (Opd.at i).val row = none := List.getElem?_eq_none (by omega)
      rw [e] at q
      exact q
def spIsTrue (K : PySem.W.Frag) : Sp := fun vs H Q _ => ∃ (x : V) (r : Addr) (c : Cm) (row : List Int), vs = [x, .ref r] ∧ Rep K H x c.d ∧ SqT K H r (row.map V.int) ∧ Q (OB (c.tell row)) H
theorem ok_is_true {f : Addr} {fd : FuncData} {k : Nat} (F : Fun K "is_true" "is_true" s_is_true f fd) (C_operand_at : Cal P w K mg base "operand_at" k ["operand", "row"] (spOperandAt K)) : FnOk P w K mg base CX0 (k + 1) f fd ["comparison", "row"] (spIsTrue K) := by
  refine F.ok sc_is_true (fun vs H Q E h => ?_) (fun cdv A outer s H vs Q E hr h => ?_)
  · obtain ⟨x, r, o, row, rfl, _⟩ := h
    rfl
  obtain ⟨x, r, c, row, rfl, hx, hR, q⟩ := h
  refine ⟨_, (pss_cons (ps_asg (pv 0) (pg_tup (by rfl) (pgs_cons (pg_name (i := 2) sc_is_true.nd rfl (Or.inl rfl)) (pgs_cons (pg_name (i := 3) sc_is_true.nd rfl (Or.inl rfl)) (pgs_cons (pg_name (i := 4) sc_is_true.nd rfl (Or.inl rfl)) pgs_nil)))))
      (pss_cons (ps_set (i := 5) sc_is_true.nd rfl (Or.inl rfl) (pe_cal C_operand_at hr (by omega) rfl (pa_cons (pv 2) (pa_cons (pv 1) pa_nil))))
      (pss_cons (ps_set (i := 6) sc_is_true.nd rfl (Or.inl rfl) (pe_cal C_operand_at hr (by omega) rfl (pa_cons (pv 4) (pa_cons (pv 1) pa_nil))))
      (pss_cons (ps_if (PW.pt (pw_or (pt_cmpR or_isN (pv 5) pe_non (nomark _)) (pw_or1 (pt_cmpR or_isN (pv 6) pe_non (nomark _))))) (pss_one (ps_ret pe_non)) pss_nil)
      (pss_cons (ps_if (pt_cmpR op_eq (pv 3) pe_str (nomark _)) (pss_one (ps_ret (pe_cmpR op_lt (pv 5) (pv 6) (nomark _)))) pss_nil)
      (pss_cons (ps_if (pt_cmpR op_eq (pv 3) pe_str (nomark _)) (pss_one (ps_ret (pe_cmpR op_le (pv 5) (pv 6) (nomark _)))) pss_nil)
      (pss_cons (ps_if (pt_cmpR op_eq (pv 3) pe_str (nomark _)) (pss_one (ps_ret (pe_cmpR op_eq (pv 5) (pv 6) (nomark _)))) pss_nil)
      (pss_one (ps_ret (pe_cmpR op_ne (pv 5) (pv 6) (nomark _))))))))))), ?_⟩
  have e0 : start ["comparison", "row", "left", "sign", "right", "one", "other"] [x, .ref r] = [some x, some (.ref r), none, none, none, none, none] := rfl
  rw [e0]
  obtain ⟨l, sg, r'⟩ := c
  obtain ⟨a, u, v, z, rfl, h, h1, h2, h3⟩ := Rep.inv3 hx
  replace h2 : Rep K H v (.str sg.txt) := h2
  obtain rfl := h2.invS
  walk_at "ev"
  refine ⟨_, _, _, row, rfl, h1, hR, ?_⟩
  walk_at "ev"
  refine ⟨_, _, _, row, rfl, h3, hR, ?_⟩
  unfold Cm.tell at q
  cases e1 : l.val row with
  | none =>
    simp only [e1] at q
    dsimp only [O]
    walk_at "ev"
    refine iteD (fun _ => ?_) (fun n => absurd rfl n)
    walk_at "ev"
    exact q
  | some a1 =>
    cases e2 : r'.val row with
    | none =>
      simp only [e1, e2] at q
      dsimp only [O]
      walk_at "ev"
      refine iteD (fun n => ?_) (fun _ => ?_)
      · cases n
      walk_at "ev"
      refine iteD (fun _ => ?_) (fun n => absurd rfl n)
      walk_at "ev"
      exact q
    | some a2 =>
      simp only [e1, e2] at q
      dsimp only [O]
      walk_at "ev"
      refine iteD (fun n => ?_) (fun _ => ?_)
      · cases n
      walk_at "ev"
      refine iteD (fun n => ?_) (fun _ => ?_)
      · cases n
      cases sg with
      | lt =>
        walk_at "ev"
        refine iteD (fun _ => ?_) (fun n => absurd rfl n)
        walk_at "ev"
        exact q
      | le =>
        walk_at "ev"
        refine iteD (fun n => absurd n (by decide)) (fun _ => ?_)
        walk_at "ev"
        refine iteD (fun _ => ?_) (fun n => absurd rfl n)
        walk_at "ev"
        exact q
      | eq =>
        walk_at "ev"
        refine iteD (fun n => absurd n (by decide)) (fun _ => ?_)
        walk_at "ev"
        refine iteD (fun n => absurd n (by decide)) (fun _ => ?_)
        walk_at "ev"
        refine iteD (fun _ => ?_) (fun n => absurd rfl n)
        walk_at "ev"
        have e : decide (V.int a1 = V.int a2) = decide (a1 = a2) := decide_eq_decide.mpr ⟨V.int.inj, congrArg _⟩
        rw [e]
        exact q
      | ne =>
        walk_at "ev"
        refine iteD (fun n => absurd n (by decide)) (fun _ => ?_)
        walk_at "ev"
        refine iteD (fun n => absurd n (by decide)) (fun _ => ?_)
        walk_at "ev"
        refine iteD (fun n => absurd n (by decide)) (fun _ => ?_)
        walk_at "ev"
        have e : decide (V.int a1 = V.int a2) = decide (a1 = a2) := decide_eq_decide.mpr ⟨V.int.inj, congrArg _⟩
        rw [e]
        exact q
def spAllTrue (K : PySem.W.Frag) : Sp := fun vs H Q _ => ∃ (x : V) (r : Addr) (cs : List Cm) (row : List Int), vs = [x, .ref r] ∧ Rep K H x (rowD cs) ∧ SqT K H r (row.map V.int) ∧ Q (.bl (meets cs row)) H
theorem meets_no {cs : List Cm} {row : List Int} {c : Cm} {i : Nat} (h : cs[i]? = some c) (e : c.yes row = false) : meets cs row = false := by
  unfold meets
  rw [List.all_eq_false]
  exact ⟨c, List.mem_of_getElem? h, by rw [e]; decide⟩
theorem meets_yes {cs : List Cm} {row : List Int} (h : ∀ j, j < cs.length → ∃ c, cs[j]? = some c ∧ c.yes row = true) : meets cs row = true := by
  unfold meets
  rw [List.all_eq_true]
  intro c hc
  obtain ⟨j, hj, e⟩ := List.getElem_of_mem hc
  obtain ⟨c', h1, h2⟩ := h j hj
  rw [List.getElem?_eq_getElem hj, e] at h1
  cases h1
  exact h2
theorem ok_all_true {f : Addr} {fd : FuncData} {k : Nat} (F : Fun K "all_true" "all_true" s_all_true f fd) (C_is_true : Cal P w K mg base "is_true" k ["comparison", "row"] (spIsTrue K)) : FnOk P w K mg base CX0 (k + 1) f fd ["comparisons", "row"] (spAllTrue K) := by
  refine F.ok sc_all_true (fun vs H Q E h => ?_) (fun cdv A outer s H vs Q E hr h => ?_)
  · obtain ⟨x, r, o, row, rfl, _⟩ := h
    rfl
  obtain ⟨x, r, cs, row, rfl, hx, hR, q⟩ := h
  refine ⟨_, (pss_cons (ps_for PassesOwn.never rfl (pi_tup (pv 0)) (pg_name (i := 2) sc_all_true.nd rfl (Or.inl rfl)) (pss_one (ps_if (pt_not (pt_truth (pe_cal C_is_true hr (by omega) rfl (pa_cons (pv 2) (pa_cons (pv 1) pa_nil))) (by intro _; rfl))) (pss_one (ps_ret pe_bl)) pss_nil)))
      (pss_one (ps_ret pe_bl))), ?_⟩
  have e0 : start ["comparisons", "row", "one"] [x, .ref r] = [some x, some (.ref r), none] := rfl
  rw [e0]
  obtain ⟨a, xs, rfl, h, hall⟩ := hx.invT
  walk_at "ev"
  refine ⟨a, rfl, ⟨_, h⟩, for_tup (xs := xs) (fun i σ H' => ∃ (b : Option V), σ = [some (.ref a), some (.ref r), b] ∧ H' = H ∧ ∀ j, j < i → ∃ c, cs[j]? = some c ∧ c.yes row = true) ?_ ?_ ?_ ?_⟩
  · exact ⟨_, rfl, rfl, fun j hj => by omega⟩
  · rintro i σ H' _ ⟨b, rfl, rfl, _⟩
    exact h
  · rintro i x σ H' hi ⟨b, rfl, rfl, hj⟩
    obtain ⟨d, hd, hr'⟩ := hall.at hi
    rw [List.getElem?_map] at hd
    cases ec : cs[i]? with
    | none => rw [ec] at hd; cases hd
    | some c =>
      rw [ec] at hd
      cases hd
      walk_at "ev"
      refine ⟨_, _, c, row, rfl, hr', hR, ?_⟩
      have nx : c.yes row = true → ∀ j, j < i + 1 → ∃ c, cs[j]? = some c ∧ c.yes row = true := fun hy j hj' => by
        by_cases e : j = i
        · subst e; exact ⟨c, ec, hy⟩
        · exact hj j (by omega)
      cases et : c.tell row with
      | none =>
        dsimp only [OB]
        walk_at "ev"
        have e : c.yes row = false := by unfold Cm.yes; rw [et]; rfl
        rw [meets_no ec e] at q
        exact q
      | some y =>
        dsimp only [OB]
        cases y with
        | true =>
          walk_at "ev"
          have e : c.yes row = true := by unfold Cm.yes; rw [et]; rfl
          exact ⟨_, rfl, rfl, nx e⟩
        | false =>
          walk_at "ev"
          have e : c.yes row = false := by unfold Cm.yes; rw [et]; rfl
          rw [meets_no ec e] at q
          exact q
  · rintro σ H' ⟨b, rfl, rfl, hj⟩
    walk_at "ev"
    have hl := hall.length
    rw [List.length_map] at hl
    rw [meets_yes (fun j hj' => hj j (by omega))] at q
    exact q
end
end K50

set_option Elab.async false
set_option maxRecDepth 100000
set_option maxHeartbeats 1000000
set_option pp.deepTerms false
set_option pp.deepTerms.threshold 12
namespace K50
open PySem L2 My
local macro_rules | `(tactic| walk_at "ne") => `(tactic| first | assumption | (refine Ne.symm ?_; assumption) | exact ne_of_none (by assumption) (by assumption) | exact (ne_of_none (by assumption) (by assumption)).symm)
local macro_rules | `(tactic| walk_at "hp") => `(tactic| first | assumption | exact upd_same | ((refine (upd_ne ?_).trans ?_); (walk_at "ne"); (walk_at "hp")))
local macro_rules | `(tactic| walk_at "sq") => `(tactic| first | assumption | exact SqL.of (by walk_at "hp") | exact SqT.of (by walk_at "hp"))
local macro_rules | `(tactic| walk_at "side") => `(tactic| first
  | ((with_reducible show CDivN _ _); exact ⟨by omega, by omega⟩)
  | ((with_reducible show CPow _ _); exact ⟨by decide, by decide, by decide⟩)
  | ((with_reducible show CMul _ _); first | exact .inl ⟨by omega, by omega⟩ | exact .inr ⟨by omega, by omega⟩)
  | ((show (0 : Int) < _); first | decide | omega))
local macro_rules | `(tactic| walk_at "ev1") => `(tactic| first
  | ((with_reducible refine' g_var ?h ?_); case h => rfl)
  | with_reducible refine' g_c ?_
  | with_reducible refine' g_op ?_
  | with_reducible refine' g_test ?_
  | with_reducible refine' g_blI ?_
  | with_reducible refine' g_B ?_
  | with_reducible refine' g_cons ?_
  | with_reducible refine' g_nil ?_
  | with_reducible refine' g_cb ?_
  | with_reducible refine' g_cal ?_
  | with_reducible refine' g_I0 ?_
  | ((with_reducible refine' g_I ?c ?_); case c => walk_at "side")
  | ((with_reducible refine' g_eq ?h ?_); case h => rfl)
  | ((with_reducible refine' g_ne ?h ?_); case h => rfl)
  | ((with_reducible refine' g_ixL ?h ?e ?_); (case h => walk_at "sq"); (case e => first | exact at0 | exact at1 | exact at2 | assumption | rfl))
  | ((with_reducible refine' g_ixT ?h ?e ?_); (case h => walk_at "sq"); (case e => first | exact at0 | exact at1 | exact at2 | assumption | rfl))
  | with_reducible refine' g_int1 ?_
  | with_reducible refine' g_int1b ?_
  | with_reducible refine' g_seq ?_
  | with_reducible refine' g_asg ?_
  | with_reducible refine' g_asgS ?_
  | ((with_reducible refine' g_setL ?h ?e ?_); (case h => walk_at "hp"); (case e => first | exact at0 | exact at1 | exact at2 | assumption | rfl))
  | with_reducible refine' g_drop ?_
  | with_reducible refine' g_ret ?_
  | with_reducible refine' g_ifS ?_
  | with_reducible refine' g_next ?_
  | with_reducible refine' g_un ?_
  | with_reducible refine' g_U ?_
  | with_reducible refine' g_tup ?_
  | with_reducible refine' g_lst ?_
  | with_reducible refine' g_if ?_
  | with_reducible refine' g_and ?_
  | with_reducible refine' g_or ?_
  | with_reducible refine' g_not ?_
  | with_reducible refine' g_andV ?_
  | with_reducible refine' g_orV ?_
  | with_reducible refine' g_notV ?_
  | with_reducible refine' g_bm ?_
  | with_reducible refine' g_bm0 ?_
  | with_reducible refine' g_isNo ?_
  | with_reducible refine' g_notNo ?_
  | with_reducible refine' g_abs ?_
  | with_reducible refine' g_max ?_
  | with_reducible refine' g_min ?_
  | with_reducible refine' g_sl ?_
  | with_reducible refine' g_noPart ?_
  | with_reducible refine' g_sc2 ?_
  | ((with_reducible refine' g_isi (b := false) ?h ?e ?_); (case h => assumption); (case e => decide +kernel))
  | ((with_reducible refine' g_isi (b := true) ?h ?e ?_); (case h => assumption); (case e => decide +kernel))
  | with_reducible refine' g_yes ?_
  | with_reducible refine' g_part ?_
  | with_reducible refine' g_someI ?_
  | with_reducible refine' g_lc ?_
  | with_reducible refine' g_lstRg ?_
  | with_reducible refine' g_rg1 ?_
  | with_reducible refine' g_asgG ?_
  | ((with_reducible refine' g_gTup ?h ?e ?_); (case h => walk_at "sq"); (case e => first | rfl | assumption))
  | with_reducible refine' g_gCons ?_
  | with_reducible refine' g_gNil ?_
  | with_reducible refine' g_trN ?_
  | with_reducible refine' g_trB ?_
  | with_reducible refine' g_disp ?_
  | with_reducible refine' g_pair ?_
  | with_reducible refine' g_pairN ?_
  | with_reducible refine' g_dget ?_
  | with_reducible refine' iteF ?_
  | with_reducible refine' iteT ?_
  | with_reducible refine' iteNF ?_
  | with_reducible refine' iteNT ?_
  | with_reducible refine' g_brk ?_
  | with_reducible refine' g_cont ?_
  | with_reducible refine' g_for ?_
  | with_reducible refine' g_rng1 ?_
  | with_reducible refine' g_iL ?_
  | with_reducible refine' g_iT ?_
  | with_reducible refine' g_gName ?_
  | ((with_reducible refine' g_lenL ?h ?_); case h => walk_at "sq")
  | ((with_reducible refine' g_lenT ?h ?_); case h => walk_at "sq")
  | ((with_reducible refine' g_tyL ?h ?_); case h => walk_at "sq"))
local macro_rules | `(tactic| walk_at "ev") => `(tactic| repeat walk_at "ev1")
local macro_rules | `(tactic| walk_at "ev2") => `(tactic| first
  | walk_at "ev1"
  | with_reducible refine' g_isOb ?_
  | with_reducible refine' g_isOn ?_
  | with_reducible refine' g_lc2 ?_
  | ((with_reducible refine' g_callC ?hR ?_); (case hR => first | exact True.intro | rfl))
  | ((with_reducible refine' g_callH ?h0 ?hf ?_); (case h0 => rfl); (case hf => first | assumption | walk_at "hp")))
local macro_rules | `(tactic| walk_at "evx") => `(tactic| repeat walk_at "ev2")

variable [Tbs]
section
variable {P : Program} {w : World} {K : PySem.W.Frag} {mg : Str → Option Value} {base : Heap}
def spTrue (K : PySem.W.Frag) : Sp := fun vs H Q _ => ∃ (x : V) (r : Addr) (c : Cm) (row : List Int) (C : List Int), vs = [x, .ref r] ∧ Rep K H x c.d ∧ SqT K H r (row.map V.int) ∧ c.Ok row.length C ∧ ∀ H', Fw [] H H' → Q (.bl (c.yes row)) H'
theorem ok_true {f : Addr} {fd : FuncData} {k : Nat} (F : Fun K "_law_true" "_law_true" s__law_true f fd) : FnOk P w K mg base CX0 (k + 1) f fd ["one", "row"] (spTrue K) := by
  refine F.ok sc__law_true (fun vs H Q E h => ?_) (fun cdv A outer s H vs Q E hr h => ?_)
  · obtain ⟨x, r, c, row, C, rfl, _⟩ := h
    rfl
  obtain ⟨x, r, c, row, C, rfl, hx, hR, hok, q⟩ := h
  refine ⟨_, (pss_cons (ps_set (i := 2) sc__law_true.nd rfl (Or.inl rfl) (pe_lst pa_nil))
      (pss_cons (ps_for PassesOwn.never rfl (pi_list (pe_lst (pa_cons (pe_ix ix_tup (pv 0) pe_int (fun _ _ => rfl)) (pa_cons (pe_ix ix_tup (pv 0) pe_int (fun _ _ => rfl)) pa_nil)))) (pg_name (i := 3) sc__law_true.nd rfl (Or.inl rfl)) (pss_one (ps_if (pt_cmpR op_eq (pe_ix ix_tup (pv 3) pe_int (fun _ _ => rfl)) pe_str (nomark _)) (pss_one (ps_expr (pe_bm PySem.F.plainAttrs_list PySem.F.slot_list_append PySem.F.type_list_append mt_append (pv 2) (pa_cons (pe_ix ix_tup (pv 1) (pe_ix ix_tup (pv 3) pe_int (fun _ _ => rfl)) (fun _ _ => rfl)) pa_nil)))) (pss_one (ps_expr (pe_bm PySem.F.plainAttrs_list PySem.F.slot_list_append PySem.F.type_list_append mt_append (pv 2) (pa_cons (pe_ix ix_tup (pv 3) pe_int (fun _ _ => rfl)) pa_nil)))))))
      (pss_cons (ps_if (pt_cmpR op_eq (pe_ix ix_tup (pv 0) pe_int (fun _ _ => rfl)) pe_str (nomark _)) (pss_one (ps_ret (pe_cmpR op_lt (pe_ix ix_list (pv 2) pe_int (fun _ _ => rfl)) (pe_ix ix_list (pv 2) pe_int (fun _ _ => rfl)) (nomark _)))) pss_nil)
      (pss_cons (ps_if (pt_cmpR op_eq (pe_ix ix_tup (pv 0) pe_int (fun _ _ => rfl)) pe_str (nomark _)) (pss_one (ps_ret (pe_cmpR op_le (pe_ix ix_list (pv 2) pe_int (fun _ _ => rfl)) (pe_ix ix_list (pv 2) pe_int (fun _ _ => rfl)) (nomark _)))) pss_nil)
      (pss_one (ps_ret (pe_cmpR op_eq (pe_cmpR op_eq (pe_ix ix_list (pv 2) pe_int (fun _ _ => rfl)) (pe_ix ix_list (pv 2) pe_int (fun _ _ => rfl)) (nomark _)) (pe_cmpR op_eq (pe_ix ix_tup (pv 0) pe_int (fun _ _ => rfl)) pe_str (nomark _)) (nomark _)))))))), ?_⟩
  have e0 : start ["one", "row", "pair", "part"] [x, .ref r] = [some x, some (.ref r), none, none] := rfl
  rw [e0]
  obtain ⟨l, sg, r'⟩ := c
  obtain ⟨a1, ea1⟩ := hok.1.val (row := row) rfl
  obtain ⟨a2, ea2⟩ := hok.2.val (row := row) rfl
  have ey : (Cm.mk l sg r').yes row = sg.tell a1 a2 := by
    unfold Cm.yes Cm.tell
    rw [ea1, ea2]
    show (some (sg.tell a1 a2) == some true) = sg.tell a1 a2
    cases sg.tell a1 a2 <;> rfl
  rw [ey] at q
  obtain ⟨a, u, v, z, rfl, h, h1, h2, h3⟩ := Rep.inv3 hx
  replace h2 : Rep K H v (.str sg.txt) := h2
  obtain rfl := h2.invS
  walk_at "ev"
  refine ⟨by show 0 ≤ sizeLine; decide, fun p hp => ?_⟩
  have fw0 : Fw [] H (upd H p (.lst [])) := Fw.new hp
  have h' := fw0.sqt h
  walk_at "ev"
  refine ⟨by show 2 ≤ sizeLine; decide, fun d hd => ?_⟩
  have hdp : d ≠ p := (ne_of_none upd_same hd).symm
  refine ⟨d, rfl, ⟨_, SqL.of upd_same⟩, for_list (xs := [u, z]) (fun i σ H' => ∃ (b : Option V), σ = [some (.ref a), some (.ref r), some (.ref p), b] ∧ H' p = some (.lst (([a1, a2].take i).map V.int)) ∧ H' d = some (.lst [u, z]) ∧ Fw [] H H') ?_ ?_ ?_ ?_⟩
  · exact ⟨_, rfl, (upd_ne hdp.symm).trans upd_same, upd_same, fw0.snoc hd⟩
  · rintro i σ H' _ ⟨b, rfl, _, hd', _⟩
    exact SqL.of hd'
  · rintro i x σ H' hi ⟨b, rfl, hp', hd', fw⟩
    obtain ⟨o, va, ho, hxo, htk⟩ : ∃ (o : Opd) (va : Int), o.val row = some va ∧ Rep K H x o.d ∧ ([a1, a2].take i).map V.int ++ [V.int va] = ([a1, a2].take (i + 1)).map V.int ∧ True := by
      match i, hi with
      | 0, hi => exact ⟨l, a1, ea1, by cases hi; exact h1, rfl, trivial⟩
      | 1, hi => exact ⟨r', a2, ea2, by cases hi; exact h3, rfl, trivial⟩
      | n + 2, hi => simp at hi
    obtain ⟨htk, _⟩ := htk
    have fin : Fw [] H (upd H' p (.lst (([a1, a2].take i).map V.int ++ [V.int va]))) := fw.write hp' (.inr hp)
    have hz : (([a1, a2].take i).map V.int).length < sizeLine := bigl (by simp; omega)
    have hdn : d ≠ p := hdp
    cases o with
    | is c =>
      obtain ⟨b', s', n', rfl, g0, g1, g2⟩ := Rep.inv2 hxo
      obtain rfl := g1.invS
      obtain rfl := g2.invI
      cases ho
      have g0' := fw.sqt g0
      walk_at "ev"
      refine iteD (fun n => absurd n (by decide)) (fun _ => ?_)
      walk_at "ev"
      refine g_app hp' hz ?_
      walk_at "ev"
      exact ⟨_, rfl, by rw [upd_same, htk], (upd_ne hdn).trans hd', fin⟩
    | «at» j =>
      obtain ⟨b', s', n', rfl, g0, g1, g2⟩ := Rep.inv2 hxo
      obtain rfl := g1.invS
      obtain rfl := g2.invI
      have ho : row[j]? = some va := ho
      have g0' := fw.sqt g0
      walk_at "ev"
      refine iteD (fun _ => ?_) (fun n => absurd rfl n)
      walk_at "ev"
      refine g_ixT (fw.sqt hR) (v := .int va) (atI_nat (by rw [List.getElem?_map, ho]; rfl)) ?_
      walk_at "ev"
      refine g_app hp' hz ?_
      walk_at "ev"
      exact ⟨_, rfl, by rw [upd_same, htk], (upd_ne hdn).trans hd', fin⟩
  · rintro σ H' ⟨b, rfl, hp', hd', fw⟩
    have hp' : H' p = some (.lst [V.int a1, V.int a2]) := hp'
    have g' := fw.sqt h
    cases sg with
    | lt =>
      walk_at "ev"
      refine iteD (fun _ => ?_) (fun n => absurd rfl n)
      walk_at "ev"
      exact q _ fw
    | le =>
      walk_at "ev"
      refine iteD (fun n => absurd n (by decide)) (fun _ => ?_)
      walk_at "ev"
      refine iteD (fun _ => ?_) (fun n => absurd rfl n)
      walk_at "ev"
      exact q _ fw
    | eq =>
      walk_at "ev"
      refine iteD (fun n => absurd n (by decide)) (fun _ => ?_)
      walk_at "ev"
      refine iteD (fun n => absurd n (by decide)) (fun _ => ?_)
      walk_at "ev"
      have e : decide (V.bl (decide (V.int a1 = V.int a2)) = V.bl (decide (V.str Sg.eq.txt = V.str "="))) = Sg.eq.tell a1 a2 := by
        rw [show decide (V.str Sg.eq.txt = V.str "=") = true from by decide, show decide (V.int a1 = V.int a2) = decide (a1 = a2) from decide_eq_decide.mpr ⟨V.int.inj, congrArg _⟩]
        show _ = decide (a1 = a2)
        cases decide (a1 = a2) <;> rfl
      rw [e]
      exact q _ fw
    | ne =>
      walk_at "ev"
      refine iteD (fun n => absurd n (by decide)) (fun _ => ?_)
      walk_at "ev"
      refine iteD (fun n => absurd n (by decide)) (fun _ => ?_)
      walk_at "ev"
      have e : decide (V.bl (decide (V.int a1 = V.int a2)) = V.bl (decide (V.str Sg.ne.txt = V.str "="))) = Sg.ne.tell a1 a2 := by
        rw [show decide (V.str Sg.ne.txt = V.str "=") = false from by decide, show decide (V.int a1 = V.int a2) = decide (a1 = a2) from decide_eq_decide.mpr ⟨V.int.inj, congrArg _⟩]
        show _ = !decide (a1 = a2)
        cases decide (a1 = a2) <;> rfl
      rw [e]
      exact q _ fw
def spMeets (K : PySem.W.Frag) : Sp := fun vs H Q _ => ∃ (x : V) (r : Addr) (cs : List Cm) (row : List Int) (C : List Int), vs = [x, .ref r] ∧ Rep K H x (rowD cs) ∧ SqT K H r (row.map V.int) ∧ (∀ c ∈ cs, c.Ok row.length C) ∧ ∀ H', Fw [] H H' → Q (.bl (meets cs row)) H'
theorem ok_meets {f : Addr} {fd : FuncData} {k : Nat} (F : Fun K "_law_meets" "_law_meets" s__law_meets f fd) (C__law_true : Cal P w K mg base "_law_true" k ["one", "row"] (spTrue K)) : FnOk P w K mg base CX0 (k + 1) f fd ["comparisons", "row"] (spMeets K) := by
  refine F.ok sc__law_meets (fun vs H Q E h => ?_) (fun cdv A outer s H vs Q E hr h => ?_)
  · obtain ⟨x, r, o, row, C, rfl, _⟩ := h
    rfl
  obtain ⟨x, r, cs, row, C, rfl, hx, hR, hok, q⟩ := h
  refine ⟨_, (pss_cons (ps_for PassesOwn.never rfl (pi_tup (pv 0)) (pg_name (i := 2) sc__law_meets.nd rfl (Or.inl rfl)) (pss_one (ps_if (pt_not (pt_val (pe_cal C__law_true hr (by omega) rfl (pa_cons (pv 2) (pa_cons (pv 1) pa_nil))))) (pss_one (ps_ret pe_bl)) pss_nil)))
      (pss_one (ps_ret pe_bl))), ?_⟩
  have e0 : start ["comparisons", "row", "one"] [x, .ref r] = [some x, some (.ref r), none] := rfl
  rw [e0]
  obtain ⟨a, xs, rfl, h, hall⟩ := hx.invT
  walk_at "ev"
  refine ⟨a, rfl, ⟨_, h⟩, for_tup (xs := xs) (fun i σ H' => ∃ (b : Option V), σ = [some (.ref a), some (.ref r), b] ∧ Fw [] H H' ∧ ∀ j, j < i → ∃ c, cs[j]? = some c ∧ c.yes row = true) ?_ ?_ ?_ ?_⟩
  · exact ⟨_, rfl, Fw.refl _ _, fun j hj => by omega⟩
  · rintro i σ H' _ ⟨b, rfl, fw, _⟩
    exact fw.sqt h
  · rintro i x σ H' hi ⟨b, rfl, fw, hj⟩
    obtain ⟨d, hd, hr'⟩ := hall.at hi
    rw [List.getElem?_map] at hd
    cases ec : cs[i]? with
    | none => rw [ec] at hd; cases hd
    | some c =>
      rw [ec] at hd
      cases hd
      walk_at "ev"
      refine ⟨_, _, c, row, C, rfl, hr'.keep fw.tk, fw.sqt hR, hok c (List.mem_of_getElem? ec), fun H2 fw2 => ?_⟩
      walk_at "ev"
      cases et : c.yes row with
      | true =>
        walk_at "ev"
        refine ⟨_, rfl, fw.trans fw2, fun j hj' => ?_⟩
        by_cases e : j = i
        · subst e; exact ⟨c, ec, et⟩
        · exact hj j (by omega)
      | false =>
        walk_at "ev"
        rw [meets_no ec et] at q
        exact q _ (fw.trans fw2)
  · rintro σ H' ⟨b, rfl, fw, hj⟩
    walk_at "ev"
    have hl := hall.length
    rw [List.length_map] at hl
    rw [meets_yes (fun j hj' => hj j (by omega))] at q
    exact q _ fw
def spFails (K : PySem.W.Frag) : Sp := fun vs H Q _ => ∃ (l r : Addr) (xs : List V) (rules : List (List Cm)) (row : List Int) (C : List Int), vs = [.ref l, .ref r] ∧ H l = some (.lst xs) ∧ RepAll K H xs (rules.map rowD) ∧ SqT K H r (row.map V.int) ∧ (∀ cs ∈ rules, ∀ c ∈ cs, c.Ok row.length C) ∧ ∀ H', Fw [] H H' → Q (.bl (fails rules row)) H'
theorem ok_fails {f : Addr} {fd : FuncData} {k : Nat} (F : Fun K "_law_fails" "_law_fails" s__law_fails f fd) (C__law_meets : Cal P w K mg base "_law_meets" k ["comparisons", "row"] (spMeets K)) : FnOk P w K mg base CX0 (k + 1) f fd ["rules", "row"] (spFails K) := by
  refine F.ok sc__law_fails (fun vs H Q E h => ?_) (fun cdv A outer s H vs Q E hr h => ?_)
  · obtain ⟨x, r, xs, o, row, C, rfl, _⟩ := h
    rfl
  obtain ⟨l, r, xs, rules, row, C, rfl, h, hall, hR, hok, q⟩ := h
  refine ⟨_, (pss_cons (ps_for PassesOwn.never rfl (pi_list (pv 0)) (pg_name (i := 2) sc__law_fails.nd rfl (Or.inl rfl)) (pss_one (ps_if (pt_val (pe_cal C__law_meets hr (by omega) rfl (pa_cons (pv 2) (pa_cons (pv 1) pa_nil)))) (pss_one (ps_ret pe_bl)) pss_nil)))
      (pss_one (ps_ret pe_bl))), ?_⟩
  have e0 : start ["rules", "row", "rule"] [.ref l, .ref r] = [some (.ref l), some (.ref r), none] := rfl
  rw [e0]
  walk_at "ev"
  refine ⟨l, rfl, ⟨_, SqL.of h⟩, for_list (xs := xs) (fun i σ H' => ∃ (b : Option V), σ = [some (.ref l), some (.ref r), b] ∧ Fw [] H H' ∧ ∀ j, j < i → ∃ c, rules[j]? = some c ∧ meets c row = false) ?_ ?_ ?_ ?_⟩
  · exact ⟨_, rfl, Fw.refl _ _, fun j hj => by omega⟩
  · rintro i σ H' _ ⟨b, rfl, fw, _⟩
    exact SqL.of (fw.lst h (by simp))
  · rintro i x σ H' hi ⟨b, rfl, fw, hj⟩
    obtain ⟨d, hd, hr'⟩ := hall.at hi
    rw [List.getElem?_map] at hd
    cases ec : rules[i]? with
    | none => rw [ec] at hd; cases hd
    | some c =>
      rw [ec] at hd
      cases hd
      walk_at "ev"
      refine ⟨_, _, c, row, C, rfl, hr'.keep fw.tk, fw.sqt hR, hok c (List.mem_of_getElem? ec), fun H2 fw2 => ?_⟩
      walk_at "ev"
      cases et : meets c row with
      | true =>
        walk_at "ev"
        have e : fails rules row = false := by
          unfold fails
          rw [List.all_eq_false]
          exact ⟨c, List.mem_of_getElem? ec, by rw [et]; decide⟩
        rw [e] at q
        exact q _ (fw.trans fw2)
      | false =>
        walk_at "ev"
        refine ⟨_, rfl, fw.trans fw2, fun j hj' => ?_⟩
        by_cases e : j = i
        · subst e; exact ⟨c, ec, et⟩
        · exact hj j (by omega)
  · rintro σ H' ⟨b, rfl, fw, hj⟩
    walk_at "ev"
    have hl := hall.length
    rw [List.length_map] at hl
    have e : fails rules row = true := by
      unfold fails
      rw [List.all_eq_true]
      intro c hc
      obtain ⟨j, hj', e⟩ := List.getElem_of_mem hc
      obtain ⟨c', h1, h2⟩ := hj j (by omega)
      rw [List.getElem?_eq_getElem hj', e] at h1
      cases h1
      rw [h2]
      rfl
    rw [e] at q
    exact q _ fw
def spOpposite (K : PySem.W.Frag) : Sp := fun vs H Q _ => ∃ (x : V) (c : Cm) (k : Nat) (C : List Int), vs = [x] ∧ Rep K H x c.d ∧ c.Ok k C ∧ ∀ (y : V) (c' : Cm) (H' : Hp), c'.Ok k C → Rep K H' y c'.d → Fw [] H H' → Q y H'
theorem ok_opposite {f : Addr} {fd : FuncData} {k : Nat} (F : Fun K "_law_opposite" "_law_opposite" s__law_opposite f fd) : FnOk P w K mg base CX0 (k + 1) f fd ["one"] (spOpposite K) := by
  refine F.ok sc__law_opposite (fun vs H Q E h => ?_) (fun cdv A outer s H vs Q E hr h => ?_)
  · obtain ⟨x, c, k, C, rfl, _⟩ := h
    rfl
  have hu := hu_of hr
  obtain ⟨x, c, kk, C, rfl, hx, hok, q⟩ := h
  refine ⟨_, (pss_cons (ps_set (i := 1) sc__law_opposite.nd rfl (Or.inl rfl) (pe_dget hu (pe_disp (pps_cons pe_str pe_str (pps_cons pe_str pe_str (pps_cons pe_str pe_str (pps_cons pe_str pe_str pps_nil)))) (by rfl) (by rfl) (fun z => by cases z) (by decide)) (pe_ix ix_tup (pv 0) pe_int (fun _ _ => rfl)) (fun _ _ => rfl)))
      (pss_cons (ps_if (pt_cmpR op_in_seq (pe_ix ix_tup (pv 0) pe_int (fun _ _ => rfl)) (pe_lst (pa_cons pe_str (pa_cons pe_str pa_nil))) (by rfl)) (pss_one (ps_ret (pe_tup (pa_cons (pe_ix ix_tup (pv 0) pe_int (fun _ _ => rfl)) (pa_cons (pv 1) (pa_cons (pe_ix ix_tup (pv 0) pe_int (fun _ _ => rfl)) pa_nil)))))) pss_nil)
      (pss_one (ps_ret (pe_tup (pa_cons (pe_ix ix_tup (pv 0) pe_int (fun _ _ => rfl)) (pa_cons (pv 1) (pa_cons (pe_ix ix_tup (pv 0) pe_int (fun _ _ => rfl)) pa_nil)))))))), ?_⟩
  have e0 : start ["one", "sign"] [x] = [some x, none] := rfl
  rw [e0]
  obtain ⟨l, sg, r'⟩ := c
  obtain ⟨a, u, v, z, rfl, h, h1, h2, h3⟩ := Rep.inv3 hx
  replace h2 : Rep K H v (.str sg.txt) := h2
  obtain rfl := h2.invS
  walk_at "ev"
  intro p hp
  walk_at "ev"
  refine ⟨upd_same, [(Sum.inr "<", .str "<="), (Sum.inr "<=", .str "<"), (Sum.inr "=", .str "!="), (Sum.inr "!=", .str "=")], rfl, by decide, ?_⟩
  have fw0 : Fw [] H (upd (upd H p (.dK [])) p (.dK (mergeK [] [(Sum.inr "<", .str "<="), (Sum.inr "<=", .str "<"), (Sum.inr "=", .str "!="), (Sum.inr "!=", .str "=")]))) := by
    rw [upd_upd]
    exact Fw.new hp
  have h' := fw0.sqt h
  have last : ∀ (s2 : Sg) (H2 : Hp), Fw [] H H2 → ∀ p, H2 p = none → Q (.ref p) (upd H2 p (.tup [u, .str s2.txt, z])) := fun s2 H2 fw2 p hp =>
    q _ ⟨l, s2, r'⟩ _ hok (.tup (SqT.of upd_same) (.cons (h1.keep (fw2.snoc hp).tk) (.cons (.str _) (.cons (h3.keep (fw2.snoc hp).tk) .nil)))) (fw2.snoc hp)
  have last2 : ∀ (s2 : Sg) (H2 : Hp), Fw [] H H2 → ∀ p, H2 p = none → Q (.ref p) (upd H2 p (.tup [z, .str s2.txt, u])) := fun s2 H2 fw2 p hp =>
    q _ ⟨r', s2, l⟩ _ ⟨hok.2, hok.1⟩ (.tup (SqT.of upd_same) (.cons (h3.keep (fw2.snoc hp).tk) (.cons (.str _) (.cons (h1.keep (fw2.snoc hp).tk) .nil)))) (fw2.snoc hp)
  walk_at "ev"
  cases sg with
  | lt =>
    refine g_dgetK upd_same (v := .str Sg.le.txt) (by decide +kernel) ?_
    walk_at "ev"
    refine ⟨by show 2 ≤ sizeLine; decide, fun b hb => ?_⟩
    refine g_in (SqL.of upd_same) rfl rfl ?_
    rw [show inV (V.str Sg.lt.txt) [V.str "<", V.str "<="] = true from by decide +kernel]
    have h'' := (fw0.snoc (o := .lst [V.str "<", V.str "<="]) hb).sqt h
    walk_at "ev"
    exact ⟨by show 3 ≤ sizeLine; decide, fun c hc => last2 .le _ (fw0.snoc hb) c hc⟩
  | le =>
    refine g_dgetK upd_same (v := .str Sg.lt.txt) (by decide +kernel) ?_
    walk_at "ev"
    refine ⟨by show 2 ≤ sizeLine; decide, fun b hb => ?_⟩
    refine g_in (SqL.of upd_same) rfl rfl ?_
    rw [show inV (V.str Sg.le.txt) [V.str "<", V.str "<="] = true from by decide +kernel]
    have h'' := (fw0.snoc (o := .lst [V.str "<", V.str "<="]) hb).sqt h
    walk_at "ev"
    exact ⟨by show 3 ≤ sizeLine; decide, fun c hc => last2 .lt _ (fw0.snoc hb) c hc⟩
  | eq =>
    refine g_dgetK upd_same (v := .str Sg.ne.txt) (by decide +kernel) ?_
    walk_at "ev"
    refine ⟨by show 2 ≤ sizeLine; decide, fun b hb => ?_⟩
    refine g_in (SqL.of upd_same) rfl rfl ?_
    rw [show inV (V.str Sg.eq.txt) [V.str "<", V.str "<="] = false from by decide +kernel]
    have h'' := (fw0.snoc (o := .lst [V.str "<", V.str "<="]) hb).sqt h
    walk_at "ev"
    exact ⟨by show 3 ≤ sizeLine; decide, fun c hc => last .ne _ (fw0.snoc hb) c hc⟩
  | ne =>
    refine g_dgetK upd_same (v := .str Sg.eq.txt) (by decide +kernel) ?_
    walk_at "ev"
    refine ⟨by show 2 ≤ sizeLine; decide, fun b hb => ?_⟩
    refine g_in (SqL.of upd_same) rfl rfl ?_
    rw [show inV (V.str Sg.ne.txt) [V.str "<", V.str "<="] = false from by decide +kernel]
    have h'' := (fw0.snoc (o := .lst [V.str "<", V.str "<="]) hb).sqt h
    walk_at "ev"
    exact ⟨by show 3 ≤ sizeLine; decide, fun c hc => last .eq _ (fw0.snoc hb) c hc⟩
end
end K50

set_option Elab.async false
set_option maxRecDepth 100000
set_option maxHeartbeats 1000000
set_option pp.deepTerms false
set_option pp.deepTerms.threshold 12
namespace K50
open PySem L2 My
local macro_rules | `(tactic| walk_at "ne") => `(tactic| first | assumption | (refine Ne.symm ?_; assumption) | exact ne_of_none (by assumption) (by assumption) | exact (ne_of_none (by assumption) (by assumption)).symm)
local macro_rules | `(tactic| walk_at "hp") => `(tactic| first | assumption | exact upd_same | ((refine (upd_ne ?_).trans ?_); (walk_at "ne"); (walk_at "hp")))
local macro_rules | `(tactic| walk_at "sq") => `(tactic| first | assumption | exact SqL.of (by walk_at "hp") | exact SqT.of (by walk_at "hp"))
local macro_rules | `(tactic| walk_at "side") => `(tactic| first
  | ((with_reducible show CDivN _ _); exact ⟨by omega, by omega⟩)
  | ((with_reducible show CPow _ _); exact ⟨by decide, by decide, by decide⟩)
  | ((with_reducible show CMul _ _); first | exact .inl ⟨by omega, by omega⟩ | exact .inr ⟨by omega, by omega⟩)
  | ((show (0 : Int) < _); first | decide | omega))
local macro_rules | `(tactic| walk_at "ev1") => `(tactic| first
  | ((with_reducible refine' g_var ?h ?_); case h => rfl)
  | with_reducible refine' g_c ?_
  | with_reducible refine' g_op ?_
  | with_reducible refine' g_test ?_
  | with_reducible refine' g_blI ?_
  | with_reducible refine' g_B ?_
  | with_reducible refine' g_cons ?_
  | with_reducible refine' g_nil ?_
  | with_reducible refine' g_cb ?_
  | with_reducible refine' g_cal ?_
  | with_reducible refine' g_I0 ?_
  | ((with_reducible refine' g_I ?c ?_); case c => walk_at "side")
  | ((with_reducible refine' g_eq ?h ?_); case h => rfl)
  | ((with_reducible refine' g_ne ?h ?_); case h => rfl)
  | ((with_reducible refine' g_ixL ?h ?e ?_); (case h => walk_at "sq"); (case e => first | exact at0 | exact at1 | exact at2 | assumption | rfl))
  | ((with_reducible refine' g_ixT ?h ?e ?_); (case h => walk_at "sq"); (case e => first | exact at0 | exact at1 | exact at2 | assumption | rfl))
  | with_reducible refine' g_int1 ?_
  | with_reducible refine' g_int1b ?_
  | with_reducible refine' g_seq ?_
  | with_reducible refine' g_asg ?_
  | with_reducible refine' g_asgS ?_
  | ((with_reducible refine' g_setL ?h ?e ?_); (case h => walk_at "hp"); (case e => first | exact at0 | exact at1 | exact at2 | assumption | rfl))
  | with_reducible refine' g_drop ?_
  | with_reducible refine' g_ret ?_
  | with_reducible refine' g_ifS ?_
  | with_reducible refine' g_next ?_
  | with_reducible refine' g_un ?_
  | with_reducible refine' g_U ?_
  | with_reducible refine' g_tup ?_
  | with_reducible refine' g_lst ?_
  | with_reducible refine' g_if ?_
  | with_reducible refine' g_and ?_
  | with_reducible refine' g_or ?_
  | with_reducible refine' g_not ?_
  | with_reducible refine' g_andV ?_
  | with_reducible refine' g_orV ?_
  | with_reducible refine' g_notV ?_
  | with_reducible refine' g_bm ?_
  | with_reducible refine' g_bm0 ?_
  | with_reducible refine' g_isNo ?_
  | with_reducible refine' g_notNo ?_
  | with_reducible refine' g_abs ?_
  | with_reducible refine' g_max ?_
  | with_reducible refine' g_min ?_
  | with_reducible refine' g_sl ?_
  | with_reducible refine' g_noPart ?_
  | with_reducible refine' g_sc2 ?_
  | ((with_reducible refine' g_isi (b := false) ?h ?e ?_); (case h => assumption); (case e => decide +kernel))
  | ((with_reducible refine' g_isi (b := true) ?h ?e ?_); (case h => assumption); (case e => decide +kernel))
  | with_reducible refine' g_yes ?_
  | with_reducible refine' g_part ?_
  | with_reducible refine' g_someI ?_
  | with_reducible refine' g_lc ?_
  | with_reducible refine' g_lstRg ?_
  | with_reducible refine' g_rg1 ?_
  | with_reducible refine' g_asgG ?_
  | ((with_reducible refine' g_gTup ?h ?e ?_); (case h => walk_at "sq"); (case e => first | rfl | assumption))
  | with_reducible refine' g_gCons ?_
  | with_reducible refine' g_gNil ?_
  | with_reducible refine' g_trN ?_
  | with_reducible refine' g_trB ?_
  | with_reducible refine' g_disp ?_
  | with_reducible refine' g_pair ?_
  | with_reducible refine' g_pairN ?_
  | with_reducible refine' g_dget ?_
  | with_reducible refine' iteF ?_
  | with_reducible refine' iteT ?_
  | with_reducible refine' iteNF ?_
  | with_reducible refine' iteNT ?_
  | with_reducible refine' g_brk ?_
  | with_reducible refine' g_cont ?_
  | with_reducible refine' g_for ?_
  | with_reducible refine' g_rng1 ?_
  | with_reducible refine' g_iL ?_
  | with_reducible refine' g_iT ?_
  | with_reducible refine' g_gName ?_
  | ((with_reducible refine' g_lenL ?h ?_); case h => walk_at "sq")
  | ((with_reducible refine' g_lenT ?h ?_); case h => walk_at "sq")
  | ((with_reducible refine' g_tyL ?h ?_); case h => walk_at "sq"))
local macro_rules | `(tactic| walk_at "ev") => `(tactic| repeat walk_at "ev1")
local macro_rules | `(tactic| walk_at "ev2") => `(tactic| first
  | walk_at "ev1"
  | with_reducible refine' g_isOb ?_
  | with_reducible refine' g_isOn ?_
  | with_reducible refine' g_lc2 ?_
  | with_reducible refine' g_ndefM ?_
  | ((with_reducible refine' g_callC ?hR ?_); (case hR => first | exact True.intro | rfl))
  | ((with_reducible refine' g_callH ?h0 ?hf ?_); (case h0 => rfl); (case hf => first | assumption | walk_at "hp")))
local macro_rules | `(tactic| walk_at "evx") => `(tactic| repeat walk_at "ev2")

variable [Tbs]
section
variable {P : Program} {w : World} {K : PySem.W.Frag} {mg : Str → Option Value} {base : Heap}
theorem cut_to (xs : List V) (k : Nat) : cutV xs none (some (k : Int)) = xs.take k := by
  unfold cutV
  rw [HT.sIx_none, HT.sIx_nat, List.drop_zero, Nat.sub_zero]
  by_cases h : k ≤ xs.length
  · rw [Nat.min_eq_left h]
  · rw [Nat.min_eq_right (by omega), List.take_length, List.take_of_length_le (by omega)]
def RulesOk (m : Nat) (C : List Int) (rules : List (List Cm)) : Prop := ∀ cs ∈ rules, (∀ c ∈ cs, c.Ok m C) ∧ cs.length ≤ 20
def spParted (K : PySem.W.Frag) : Sp := fun vs H Q _ => ∃ (x : V) (cs : List Cm) (k : Nat) (C : List Int), vs = [x] ∧ Rep K H x (rowD cs) ∧ (∀ c ∈ cs, c.Ok k C) ∧ cs.length ≤ 20 ∧
  ∀ (l : Addr) (xs : List V) (rules : List (List Cm)) (H' : Hp), H l = none → H' l = some (.lst xs) → RepAll K H' xs (rules.map rowD) → rules.length = cs.length + 1 → RulesOk k C rules → Fw [] H H' → Q (.ref l) H'
theorem ok_parted {f : Addr} {fd : FuncData} {k : Nat} (F : Fun K "_law_parted" "_law_parted" s__law_parted f fd) (T : Txt mg) (C__law_opposite : Cal P w K mg base "_law_opposite" k ["one"] (spOpposite K)) : FnOk P w K mg base CX0 (k + 1) f fd ["row"] (spParted K) := by
  refine F.ok sc__law_parted (fun vs H Q E h => ?_) (fun cdv A outer s H vs Q E hr h => ?_)
  · obtain ⟨x, c, k, C, rfl, _⟩ := h
    rfl
  obtain ⟨x, cs, kk, C, rfl, hx, hok, hl, q⟩ := h
  refine ⟨_, (pss_cons (ps_set (i := 1) sc__law_parted.nd rfl (Or.inl rfl) (pe_lst (pa_cons (pv 0) pa_nil)))
      (pss_cons (ps_for PassesOwn.never rfl (pi_range1 (by rfl) T.range_ (pa_cons (pe_callB cr_len (by rfl) T.len_ PySem.boot_len (pa_cons (pv 0) pa_nil)) pa_nil)) (pg_name (i := 2) sc__law_parted.nd rfl (Or.inl rfl)) (pss_one (ps_expr (pe_bm PySem.F.plainAttrs_list PySem.F.slot_list_append PySem.F.type_list_append mt_append (pv 1) (pa_cons (pe_op op_catA (pe_slice sl_tupA (pv 0) po_none (po_some (pv 2))) (pe_tup (pa_cons (pe_cal C__law_opposite hr (by omega) rfl (pa_cons (pe_ix ix_tup (pv 0) (pv 2) (fun _ _ => rfl)) pa_nil)) pa_nil))) pa_nil)))))
      (pss_one (ps_ret (pv 1))))), ?_⟩
  have e0 : start ["row", "made", "k"] [x] = [some x, none, none] := rfl
  rw [e0]
  obtain ⟨a, xs, rfl, h, hall⟩ := hx.invT
  have hlen := hall.length
  rw [List.length_map] at hlen
  walk_at "ev"
  refine ⟨by show 1 ≤ sizeLine; decide, fun l hl0 => ?_⟩
  have fw0 : Fw [] H (upd H l (.lst [.ref a])) := Fw.new hl0
  have h' := fw0.sqt h
  walk_at "ev"
  refine ⟨_, rfl, by omega, by omega, for_range (lo := 0) (n := ((xs.length : Nat) : Int).toNat) (fun i σ H' => ∃ (ys : List V) (rules : List (List Cm)) (b : Option V), σ = [some (.ref a), some (.ref l), b] ∧ H' l = some (.lst ys) ∧ RepAll K H' ys (rules.map rowD) ∧ rules.length = i + 1 ∧ RulesOk kk C rules ∧ Fw [] H H') ?_ ?_ ?_⟩
  · refine ⟨_, [cs], none, rfl, upd_same, .cons (hx.keep fw0.tk) .nil, rfl, fun cs' h1 => ?_, fw0⟩
    rw [List.mem_singleton] at h1
    subst h1
    exact ⟨hok, hl⟩
  · rintro i σ H2 hi ⟨ys, rules, b, rfl, hl2, hall2, en, hok2, fw2⟩
    have h2 := fw2.sqt h
    have hi' : i < cs.length := by omega
    walk_at "ev"
    refine g_slA h2 fun p1 H3 hp1 e3 => ?_
    have fw3 : Fw [] H2 H3 := by
      rcases e3 with rfl | ⟨hb, rfl⟩
      · exact Fw.refl _ _
      · exact Fw.new hb
    have e1 : (0 : Int) + (i : Int) = ((i : Nat) : Int) := Int.zero_add _
    rw [e1] at hp1
    rw [cut_to] at hp1
    have hc : hall.length = hall.length := rfl
    obtain ⟨v, hv, hRv⟩ := hall.nth (i := i) (by rw [List.length_map]; exact hi')
    rw [List.getElem_map] at hRv
    have hat : atI xs (0 + (i : Int)) = some v := by rw [e1]; exact atI_nat hv
    have h3 := fw3.sqt h2
    walk_at "ev"
    refine ⟨v, cs[i], kk, C, rfl, hRv.keep (fw2.trans fw3).tk, hok _ (List.getElem_mem hi'), fun y c' H4 ok' hy fw4 => ?_⟩
    walk_at "ev"
    refine ⟨by show 1 ≤ sizeLine; decide, fun u hu => ?_⟩
    have fw5 : Fw [] H4 (upd H4 u (.tup [y])) := Fw.new hu
    refine g_catR ((fw4.trans fw5).sqt hp1) (SqT.of upd_same) (big (by simp; omega)) (by simp) fun p2 H6 hp2 e6 => ?_
    have fw6 : Fw [] (upd H4 u (.tup [y])) H6 := by
      rcases e6 with rfl | ⟨hb, rfl⟩
      · exact Fw.refl _ _
      · exact Fw.new hb
    have fwa : Fw [] H2 H6 := fw3.trans (fw4.trans (fw5.trans fw6))
    have hl6 : H6 l = some (.lst ys) := fwa.lst hl2 (by simp)
    have hy2 : ys.length = rules.length := by rw [hall2.length, List.length_map]
    walk_at "ev"
    refine g_app hl6 (bigl (by omega)) ?_
    walk_at "ev"
    have fwN : Fw [] H (upd H6 l (.lst (ys ++ [.ref p2]))) := (fw2.trans fwa).write hl6 (.inr hl0)
    have fwM : Fw [l] H6 (upd H6 l (.lst (ys ++ [.ref p2]))) := (Fw.refl _ _).write hl6 (.inl (by simp))
    refine ⟨_, rules ++ [cs.take i ++ [c']], _, rfl, upd_same, ?_, by simp [en], fun cs' h1 => ?_, fwN⟩
    · rw [List.map_append]
      refine (hall2.keep (fwa.tk.trans fwM.tk)).append (.cons (.tup (fwM.sqt hp2) ?_) .nil)
      rw [List.map_append, List.map_take]
      exact ((hall.take i).keep fwN.tk).append (.cons (hy.keep (fw5.tk.trans (fw6.tk.trans fwM.tk))) .nil)
    · rcases List.mem_append.mp h1 with t | t
      · exact hok2 cs' t
      · rw [List.mem_singleton] at t
        subst t
        refine ⟨fun c hc => ?_, by simp; omega⟩
        rcases List.mem_append.mp hc with t | t
        · exact hok c (List.mem_of_mem_take t)
        · rw [List.mem_singleton] at t
          subst t
          exact ok'
  · rintro σ H2 ⟨ys, rules, b, rfl, hl2, hall2, en, hok2, fw2⟩
    walk_at "ev"
    exact q l ys rules H2 hl0 hl2 hall2 (by omega) hok2 fw2
end
end K50

set_option Elab.async false
set_option maxRecDepth 100000
set_option maxHeartbeats 2000000
set_option pp.deepTerms false
set_option pp.deepTerms.threshold 12
namespace K50
open PySem L2 My
local macro_rules | `(tactic| walk_at "ne") => `(tactic| first | assumption | (refine Ne.symm ?_; assumption) | exact ne_of_none (by assumption) (by assumption) | exact (ne_of_none (by assumption) (by assumption)).symm)
local macro_rules | `(tactic| walk_at "hp") => `(tactic| first | assumption | exact upd_same | ((refine (upd_ne ?_).trans ?_); (walk_at "ne"); (walk_at "hp")))
local macro_rules | `(tactic| walk_at "sq") => `(tactic| first | assumption | exact SqL.of (by walk_at "hp") | exact SqT.of (by walk_at "hp"))
local macro_rules | `(tactic| walk_at "side") => `(tactic| first
  | ((with_reducible show CDivN _ _); exact ⟨by omega, by omega⟩)
  | ((with_reducible show CPow _ _); exact ⟨by decide, by decide, by decide⟩)
  | ((with_reducible show CMul _ _); first | exact .inl ⟨by omega, by omega⟩ | exact .inr ⟨by omega, by omega⟩)
  | ((show (0 : Int) < _); first | decide | omega))
local macro_rules | `(tactic| walk_at "ev1") => `(tactic| first
  | ((with_reducible refine' g_var ?h ?_); case h => rfl)
  | with_reducible refine' g_c ?_
  | with_reducible refine' g_op ?_
  | with_reducible refine' g_test ?_
  | with_reducible refine' g_blI ?_
  | with_reducible refine' g_B ?_
  | with_reducible refine' g_cons ?_
  | with_reducible refine' g_nil ?_
  | with_reducible refine' g_cb ?_
  | with_reducible refine' g_cal ?_
  | with_reducible refine' g_I0 ?_
  | ((with_reducible refine' g_I ?c ?_); case c => walk_at "side")
  | ((with_reducible refine' g_eq ?h ?_); case h => rfl)
  | ((with_reducible refine' g_ne ?h ?_); case h => rfl)
  | ((with_reducible refine' g_ixL ?h ?e ?_); (case h => walk_at "sq"); (case e => first | exact at0 | exact at1 | exact at2 | assumption | rfl))
  | ((with_reducible refine' g_ixT ?h ?e ?_); (case h => walk_at "sq"); (case e => first | exact at0 | exact at1 | exact at2 | assumption | rfl))
  | with_reducible refine' g_int1 ?_
  | with_reducible refine' g_int1b ?_
  | with_reducible refine' g_seq ?_
  | with_reducible refine' g_asg ?_
  | with_reducible refine' g_asgS ?_
  | ((with_reducible refine' g_setL ?h ?e ?_); (case h => walk_at "hp"); (case e => first | exact at0 | exact at1 | exact at2 | assumption | rfl))
  | with_reducible refine' g_drop ?_
  | with_reducible refine' g_ret ?_
  | with_reducible refine' g_ifS ?_
  | with_reducible refine' g_next ?_
  | with_reducible refine' g_un ?_
  | with_reducible refine' g_U ?_
  | with_reducible refine' g_tup ?_
  | with_reducible refine' g_lst ?_
  | with_reducible refine' g_if ?_
  | with_reducible refine' g_and ?_
  | with_reducible refine' g_or ?_
  | with_reducible refine' g_not ?_
  | with_reducible refine' g_andV ?_
  | with_reducible refine' g_orV ?_
  | with_reducible refine' g_notV ?_
  | with_reducible refine' g_bm ?_
  | with_reducible refine' g_bm0 ?_
  | with_reducible refine' g_isNo ?_
  | with_reducible refine' g_notNo ?_
  | with_reducible refine' g_abs ?_
  | with_reducible refine' g_max ?_
  | with_reducible refine' g_min ?_
  | with_reducible refine' g_sl ?_
  | with_reducible refine' g_noPart ?_
  | with_reducible refine' g_sc2 ?_
  | ((with_reducible refine' g_isi (b := false) ?h ?e ?_); (case h => assumption); (case e => decide +kernel))
  | ((with_reducible refine' g_isi (b := true) ?h ?e ?_); (case h => assumption); (case e => decide +kernel))
  | with_reducible refine' g_yes ?_
  | with_reducible refine' g_part ?_
  | with_reducible refine' g_someI ?_
  | with_reducible refine' g_lc ?_
  | with_reducible refine' g_lstRg ?_
  | with_reducible refine' g_rg1 ?_
  | with_reducible refine' g_asgG ?_
  | ((with_reducible refine' g_gTup ?h ?e ?_); (case h => walk_at "sq"); (case e => first | rfl | assumption))
  | with_reducible refine' g_gCons ?_
  | with_reducible refine' g_gNil ?_
  | with_reducible refine' g_trN ?_
  | with_reducible refine' g_trB ?_
  | with_reducible refine' g_disp ?_
  | with_reducible refine' g_pair ?_
  | with_reducible refine' g_pairN ?_
  | with_reducible refine' g_dget ?_
  | with_reducible refine' iteF ?_
  | with_reducible refine' iteT ?_
  | with_reducible refine' iteNF ?_
  | with_reducible refine' iteNT ?_
  | with_reducible refine' g_brk ?_
  | with_reducible refine' g_cont ?_
  | with_reducible refine' g_for ?_
  | with_reducible refine' g_rng1 ?_
  | with_reducible refine' g_iL ?_
  | with_reducible refine' g_iT ?_
  | with_reducible refine' g_gName ?_
  | ((with_reducible refine' g_lenL ?h ?_); case h => walk_at "sq")
  | ((with_reducible refine' g_lenT ?h ?_); case h => walk_at "sq")
  | ((with_reducible refine' g_tyL ?h ?_); case h => walk_at "sq"))
local macro_rules | `(tactic| walk_at "ev") => `(tactic| repeat walk_at "ev1")
local macro_rules | `(tactic| walk_at "ev2") => `(tactic| first
  | walk_at "ev1"
  | with_reducible refine' g_isOb ?_
  | with_reducible refine' g_isOn ?_
  | with_reducible refine' g_lc2 ?_
  | with_reducible refine' g_ndefM ?_
  | ((with_reducible refine' g_callC ?hR ?_); (case hR => first | exact True.intro | rfl))
  | ((with_reducible refine' g_callH ?h0 ?hf ?_); (case h0 => rfl); (case hf => first | assumption | walk_at "hp")))
local macro_rules | `(tactic| walk_at "evx") => `(tactic| repeat walk_at "ev2")

variable [Tbs]
def rowT (r : List Int) : PyData := .tuple (r.map .int)
theorem flatMap_len {V : List Int} (R : List (List Int)) : (R.flatMap fun row => V.map fun v => row ++ [v]).length = R.length * V.length := by
  induction R with
  | nil => simp
  | cons a R ih => rw [List.flatMap_cons, List.length_append, ih, List.length_map, List.length_cons, Nat.succ_mul, Nat.add_comm]
theorem rowsIt_len (V : List Int) : ∀ k, (rowsIt V k).length = V.length ^ k
  | 0 => rfl
  | k + 1 => by
    show ((rowsIt V k).flatMap fun row => V.map fun v => row ++ [v]).length = _
    rw [flatMap_len, rowsIt_len V k, Nat.pow_succ]
theorem rowsIt_le {V : List Int} {k : Nat} (hV : V.length ≤ 20) (hk : k ≤ 2) : (rowsIt V k).length ≤ 400 := by
  rw [rowsIt_len]
  match k, hk with
  | 0, _ => simp
  | 1, _ => simpa using Nat.le_trans hV (by decide)
  | 2, _ =>
    rw [Nat.pow_two]
    exact Nat.le_trans (Nat.mul_le_mul hV hV) (by decide)
theorem flat_snoc {α β : Type} (f : α → List β) {R : List α} {i : Nat} {a : α} (h : R[i]? = some a) : (R.take (i + 1)).flatMap f = (R.take i).flatMap f ++ f a := by
  rw [List.take_add_one, h, Option.toList_some, List.flatMap_append, List.flatMap_cons, List.flatMap_nil, List.append_nil]
section
variable {P : Program} {w : World} {K : PySem.W.Frag} {mg : Str → Option Value} {base : Heap}
def spRows (K : PySem.W.Frag) : Sp := fun vs H Q _ => ∃ (lc : Addr) (bound : Int) (many : Nat) (C : List Int), vs = [.int bound, .int many, .ref lc] ∧ 0 ≤ bound ∧ bound ≤ 999 ∧ many ≤ 3 ∧ H lc = some (.lst (C.map V.int)) ∧ (∀ c ∈ C, 0 ≤ c) ∧ C.length ≤ 4 ∧
  ∀ (l : Addr) (xs : List V) (W : List Int) (H' : Hp), H l = none → Up W → (∀ v ∈ W, 0 ≤ v ∧ v ≤ bound) → (∀ b ∈ 0 :: C, ∀ j : Nat, j ≤ many → b + j ≤ bound → b + j ∈ W) → H' l = some (.lst xs) → RepAll K H' xs ((rowsIt W many).map rowT) → Fw [] H H' → Q (.ref l) H'
theorem ok_rows {f : Addr} {fd : FuncData} {k : Nat} (F : Fun K "_law_rows" "_law_rows" s__law_rows f fd) (T : Txt mg) : FnOk P w K mg base CX0 (k + 1) f fd ["bound", "many", "constants"] (spRows K) := by
  refine F.ok sc__law_rows (fun vs H Q E h => ?_) (fun cdv A outer s H vs Q E hr h => ?_)
  · obtain ⟨x, c, k, C, rfl, _⟩ := h
    rfl
  obtain ⟨lc, bound, many, C, rfl, b0, b1, hm, hC, hpos, hlen, q⟩ := h
  refine ⟨_, (pss_cons (ps_set (i := 3) sc__law_rows.nd rfl (Or.inl rfl) (pe_listRg rfl (by rfl) T.list_ (prg_1 (by rfl) T.range_ (pe_op op_add (pv 0) pe_int))))
      (pss_cut (ps_if (pt_cmpR op_gt (pv 0) pe_int (nomark _)) (pss_cons (ps_set (i := 3) sc__law_rows.nd rfl (Or.inl rfl) (pe_lst pa_nil))
      (pss_cons (ps_for PassesOwn.never rfl (pi_list (pe_op op_cat (pe_lst (pa_cons pe_int pa_nil)) (pv 2))) (pg_name (i := 4) sc__law_rows.nd rfl (Or.inl rfl)) (pss_one (ps_for PassesOwn.never rfl (pi_range1 (by rfl) T.range_ (pa_cons (pe_op op_add (pv 1) pe_int) pa_nil)) (pg_name (i := 5) sc__law_rows.nd rfl (Or.inl rfl)) (pss_one (ps_if (PW.pt (pw_and (pt_cmpR op_le (pe_op op_add (pv 4) (pv 5)) (pv 0) (nomark _)) (pw_and1 (pt_cmpR op_notIn_seq (pe_op op_add (pv 4) (pv 5)) (pv 3) (by rfl))))) (pss_one (ps_expr (pe_bm PySem.F.plainAttrs_list PySem.F.slot_list_append PySem.F.type_list_append mt_append (pv 3) (pa_cons (pe_op op_add (pv 4) (pv 5)) pa_nil)))) pss_nil)))))
      (pss_one (ps_set (i := 3) sc__law_rows.nd rfl (Or.inl rfl) (pe_callB cr_sortedI (by rfl) T.sorted_ (by decide +kernel) (pa_cons (pv 3) pa_nil)))))) pss_nil)
      (pss_cons (ps_set (i := 6) sc__law_rows.nd rfl (Or.inl rfl) (pe_lst (pa_cons (pe_tup pa_nil) pa_nil)))
      (pss_cons (ps_for PassesOwn.never rfl (pi_range1 (by rfl) T.range_ (pa_cons (pv 1) pa_nil)) (pg_name (i := 5) sc__law_rows.nd rfl (Or.inl rfl)) (pss_cons (ps_set (i := 7) sc__law_rows.nd rfl (Or.inl rfl) (pe_lst pa_nil))
      (pss_cons (ps_for PassesOwn.never rfl (pi_list (pv 6)) (pg_name (i := 8) sc__law_rows.nd rfl (Or.inr rfl)) (pss_one (ps_expr (pe_bm PySem.F.plainAttrs_list PySem.F.slot_list_extend PySem.F.type_list_extend mt_extend (pv 7) (pa_cons (pe_lc (own := [("value", 9)]) (g := gName 9)  (tt := tYes) rfl sc__law_rows.nd (pi_list (pv 3)) (blkOk_by (N := ["bound", "many", "constants", "values", "base", "k", "rows", "longer", "row", "value"]) (sc := defScope s__law_rows) (by decide +kernel)) (fun _ _ _ _ _ => (pg_name (i := 9) sc__law_rows.nd rfl (Or.inl rfl))) (fun _ _ _ _ _ => pts_nil) (fun _ _ _ _ _ => (pe_op (k_op_catA (K := K) rfl) (pv 8) (pe_tup (pa_cons (pv 9) pa_nil))))) pa_nil)))))
      (pss_one (ps_set (i := 6) sc__law_rows.nd rfl (Or.inl rfl) (pv 7))))))
      (pss_one (ps_ret (pv 6))))))), ?_⟩
  have e0 : start ["bound", "many", "constants", "values", "base", "k", "rows", "longer", "row", "value"] [.int bound, .int many, .ref lc] = [some (.int bound), some (.int many), some (.ref lc), none, none, none, none, none, none, none] := rfl
  rw [e0]
  walk_at "ev"
  refine ⟨⟨by omega, by omega, by omega, by omega, by omega⟩, fun v hv => ?_⟩
  have fw0 : Fw [] H (upd H v (.lst (rgV 0 (bound + 1)))) := Fw.new hv
  refine g_cut (fun σ H1 => ∃ (v : Addr) (W : List Int) (o1 o2 : Option V), σ = [some (.int bound), some (.int many), some (.ref lc), some (.ref v), o1, o2, none, none, none, none] ∧ H1 v = some (.lst (W.map V.int)) ∧ Up W ∧ (∀ v ∈ W, 0 ≤ v ∧ v ≤ bound) ∧ (∀ b ∈ 0 :: C, ∀ j : Nat, j ≤ many → b + j ≤ bound → b + j ∈ W) ∧ W.length ≤ 20 ∧ Fw [] H H1) ?_ ?_
  · walk_at "ev"
    refine iteD (fun c => ?_) (fun c => ?_)
    · walk_at "ev"
      refine ⟨by show 0 ≤ sizeLine; decide, fun v2 hv2 => ?_⟩
      walk_at "ev"
      have fw1 : Fw [] H (upd (upd H v (.lst (rgV 0 (bound + 1)))) v2 (.lst [])) := fw0.snoc hv2
      refine ⟨by show 1 ≤ sizeLine; decide, fun z hz => ?_⟩
      walk_at "ev"
      have fw2 := fw1.snoc (o := .lst [V.int 0]) hz
      refine g_cat upd_same (fw2.lst hC (by simp)) (big (by simp; omega)) fun e he => ?_
      have fw3 := fw2.snoc (o := .lst ([V.int 0] ++ C.map V.int)) he
      have hv2e : v2 ≠ e := ne_of_none ((upd_ne (ne_of_none upd_same hz)).trans upd_same) he
      have hv2z : v2 ≠ z := ne_of_none upd_same hz
      have e1 : ([V.int 0] ++ C.map V.int) = (0 :: C).map V.int := rfl
      refine ⟨e, rfl, ⟨_, SqL.of upd_same⟩, for_list (xs := (0 :: C).map V.int) (fun i σ H' => ∃ (W : List Int) (o1 o2 : Option V), σ = [some (.int bound), some (.int many), some (.ref lc), some (.ref v2), o1, o2, none, none, none, none] ∧ H' v2 = some (.lst (W.map V.int)) ∧ H' e = some (.lst ((0 :: C).map V.int)) ∧
        W.Nodup ∧ (∀ v ∈ W, 0 ≤ v ∧ v ≤ bound) ∧ (∀ b ∈ (0 :: C).take i, ∀ j : Nat, j ≤ many → b + j ≤ bound → b + j ∈ W) ∧ W.length ≤ 4 * i ∧ Fw [] H H') ?_ ?_ ?_ ?_⟩
      · exact ⟨[], none, none, rfl, (upd_ne hv2e).trans ((upd_ne hv2z).trans upd_same), upd_same, List.nodup_nil, by simp, by simp, by simp, fw3⟩
      · rintro i σ H' _ ⟨W, o1, o2, rfl, _, he', _⟩
        exact SqL.of he'
      · rintro i x σ H' hi ⟨W, o1, o2, rfl, hW, he', nd, hb, hin, hWl, fw⟩
        rw [List.getElem?_map] at hi
        cases eb : (0 :: C)[i]? with
        | none => rw [eb] at hi; cases hi
        | some b =>
          rw [eb] at hi
          cases hi
          have b0' : 0 ≤ b := by
            rcases List.mem_cons.mp (List.mem_of_getElem? eb) with t | t
            · omega
            · exact hpos b t
          have hi5 : i < 5 := by
            have := (List.getElem?_eq_some_iff.mp eb).1
            simp at this
            omega
          walk_at "ev"
          refine ⟨_, rfl, by omega, by omega, for_range (lo := 0) (n := ((many : Int) + 1).toNat) (fun j σ H' => ∃ (W : List Int) (o2 : Option V), σ = [some (.int bound), some (.int many), some (.ref lc), some (.ref v2), some (.int b), o2, none, none, none, none] ∧ H' v2 = some (.lst (W.map V.int)) ∧ H' e = some (.lst ((0 :: C).map V.int)) ∧
            W.Nodup ∧ (∀ v ∈ W, 0 ≤ v ∧ v ≤ bound) ∧ (∀ b ∈ (0 :: C).take i, ∀ j : Nat, j ≤ many → b + j ≤ bound → b + j ∈ W) ∧ (∀ j' : Nat, j' < j → b + j' ≤ bound → b + j' ∈ W) ∧ W.length ≤ 4 * i + j ∧ Fw [] H H') ?_ ?_ ?_⟩
          · exact ⟨W, o2, rfl, hW, he', nd, hb, hin, fun j' h => by omega, by omega, fw⟩
          · rintro j σ H2 hj ⟨W, o2, rfl, hW, he', nd, hb, hin, hin2, hWl, fw⟩
            walk_at "ev"
            have ej : b + (0 + (j : Int)) = b + (j : Int) := by omega
            rw [ej]
            refine iteD (fun c1 => ?_) (fun c1 => ?_)
            · walk_at "ev"
              refine g_notIn (SqL.of hW) rfl (flat_ints _) ?_
              rw [ej, inV_ints]
              walk_at "ev"
              refine iteN (fun c2 => ?_) (fun c2 => ?_)
              · walk_at "ev"
                refine g_app hW (bigl (by simp; omega)) ?_
                walk_at "ev"
                rw [ej]
                refine ⟨W ++ [b + (j : Int)], _, rfl, ?_, (upd_ne hv2e.symm).trans he', ?_, ?_, ?_, ?_, ?_, fw.write hW ?_⟩
                · rw [upd_same, List.map_append]
                  rfl
                · exact List.nodup_append.mpr ⟨nd, by simp, fun a ha b' hb' => by
                    rw [List.mem_singleton] at hb'
                    subst hb'
                    exact fun z => c2 (z ▸ ha)⟩
                · intro u hu
                  rcases List.mem_append.mp hu with t | t
                  · exact hb u t
                  · rw [List.mem_singleton] at t
                    omega
                · exact fun b' h1 j' h2 h3 => List.mem_append_left _ (hin b' h1 j' h2 h3)
                · intro j' h1 h2
                  by_cases ee : j' = j
                  · subst ee; exact List.mem_append_right _ (by simp)
                  · exact List.mem_append_left _ (hin2 j' (by omega) h2)
                · simp; omega
                · right
                  exact fw0.free hv2 (by simp)
              · walk_at "ev"
                refine ⟨W, _, rfl, hW, he', nd, hb, hin, fun j' h1 h2 => ?_, by omega, fw⟩
                by_cases ee : j' = j
                · subst ee; exact c2
                · exact hin2 j' (by omega) h2
            · walk_at "ev"
              refine ⟨W, _, rfl, hW, he', nd, hb, hin, fun j' h1 h2 => ?_, by omega, fw⟩
              by_cases ee : j' = j
              · subst ee; exact absurd h2 c1
              · exact hin2 j' (by omega) h2
          · rintro σ H2 ⟨W, o2, rfl, hW, he', nd, hb, hin, hin2, hWl, fw⟩
            refine ⟨W, _, _, rfl, hW, he', nd, hb, fun b' h1 j h2 h3 => ?_, by omega, fw⟩
            rw [List.take_add_one, eb] at h1
            rcases List.mem_append.mp h1 with t | t
            · exact hin b' t j h2 h3
            · rw [Option.toList_some, List.mem_singleton] at t
              subst t
              exact hin2 j (by omega) h3
      · rintro σ H2 ⟨W, o1, o2, rfl, hW, he', nd, hb, hin, hWl, fw⟩
        have hall : (0 :: C).take ((0 :: C).map V.int).length = 0 :: C := List.take_of_length_le (by simp)
        rw [hall] at hin
        walk_at "ev"
        refine ⟨v2, W, rfl, SqL.of hW, fun ns p pm rising hp => ?_⟩
        have up : Up ns := by
          have nd2 := pm.nodup_iff.mpr nd
          refine (List.Pairwise.and rising nd2).imp fun h => ?_
          omega
        walk_at "ev"
        refine ⟨p, ns, _, _, rfl, upd_same, up, fun u hu => hb u (pm.mem_iff.mp hu), fun b' h1 j h2 h3 => pm.mem_iff.mpr (hin b' h1 j h2 h3), ?_, fw.snoc hp⟩
        rw [pm.length_eq]
        simp at hWl
        omega
    · walk_at "ev"
      refine ⟨v, (List.range (bound + 1).toNat).map fun i : Nat => (i : Int), none, none, rfl, ?_, ?_, ?_, ?_, ?_, fw0⟩
      · rw [upd_same, List.map_map]
        unfold rgV
        have : (bound + 1 - 0).toNat = (bound + 1).toNat := by omega
        rw [this]
        congr 2
        apply List.map_congr_left
        intro i _
        show V.int (0 + (i : Int)) = V.int (i : Int)
        rw [Int.zero_add]
      · exact List.Pairwise.map (R := fun a b : Nat => a < b) _ (fun a b h => by omega) List.pairwise_lt_range
      · intro u hu
        obtain ⟨i, hi, rfl⟩ := List.mem_map.mp hu
        have := List.mem_range.mp hi
        omega
      · intro b' h1 j h2 h3
        have h0 : 0 ≤ b' := by
          rcases List.mem_cons.mp h1 with t | t
          · omega
          · exact hpos b' t
        exact List.mem_map.mpr ⟨(b' + j).toNat, List.mem_range.mpr (by omega), by omega⟩
      · simp
        omega
  · rintro σ H1 ⟨v, W, o1, o2, rfl, hv1, up, hb, hin, hWl, fw1⟩
    walk_at "ev"
    refine ⟨by show 0 ≤ sizeLine; decide, fun t ht => ?_⟩
    walk_at "ev"
    refine ⟨by show 1 ≤ sizeLine; decide, fun r hr0 => ?_⟩
    have fw2 : Fw [] H1 (upd H1 t (.tup [])) := Fw.new ht
    have fw3 := fw2.snoc (o := .lst [V.ref t]) hr0
    walk_at "ev"
    refine ⟨_, rfl, by omega, by omega, for_range (lo := 0) (n := ((many : Int)).toNat) (fun i σ H' => ∃ (l : Addr) (xs : List V) (o2 o3 o4 : Option V), σ = [some (.int bound), some (.int many), some (.ref lc), some (.ref v), o1, o2, some (.ref l), o3, o4, none] ∧ H' l = some (.lst xs) ∧ H l = none ∧
      RepAll K H' xs ((rowsIt W i).map rowT) ∧ H' v = some (.lst (W.map V.int)) ∧ Fw [] H H') ?_ ?_ ?_⟩
    · exact ⟨r, _, _, _, _, rfl, upd_same, (fw1.trans fw2).free hr0 (by simp), .cons (.tup (SqT.of ((upd_ne (ne_of_none upd_same hr0)).trans upd_same)) .nil) .nil, fw3.lst hv1 (by simp), fw1.trans fw3⟩
    · rintro i σ H2 hi ⟨l, xs, p2, p3, p4, rfl, hl, hlH, hall, hv2, fwA⟩
      have hRl : (rowsIt W i).length ≤ 400 := rowsIt_le hWl (by omega)
      have hxl : xs.length = (rowsIt W i).length := by rw [hall.length, List.length_map]
      walk_at "ev"
      refine ⟨by show 0 ≤ sizeLine; decide, fun g hg => ?_⟩
      have fwg := Fw.new (M := []) (o := .lst []) hg
      have hgl : g ≠ l := (ne_of_none hl hg).symm
      have hgv : g ≠ v := (ne_of_none hv2 hg).symm
      walk_at "ev"
      refine ⟨l, rfl, ⟨_, SqL.of ((upd_ne hgl.symm).trans hl)⟩, for_list (xs := xs) (fun j σ H' => ∃ (zs : List V) (p4 : Option V), σ = [some (.int bound), some (.int many), some (.ref lc), some (.ref v), o1, some (.int (0 + i)), some (.ref l), some (.ref g), p4, none] ∧ H' l = some (.lst xs) ∧ H' g = some (.lst zs) ∧
        RepAll K H' zs ((((rowsIt W i).take j).flatMap fun row => W.map fun v => row ++ [v]).map rowT) ∧ H' v = some (.lst (W.map V.int)) ∧ Fw [] H2 H') ?_ ?_ ?_ ?_⟩
      · exact ⟨[], _, rfl, (upd_ne hgl.symm).trans hl, upd_same, .nil, (upd_ne hgv.symm).trans hv2, fwg⟩
      · rintro j σ H' _ ⟨zs, p4, rfl, hl', _⟩
        exact SqL.of hl'
      · rintro j x σ H3 hj ⟨zs, p4, rfl, hl3, hg3, hall3, hv3, fwB⟩
        obtain ⟨d, hd, hRx⟩ := hall.at hj
        rw [List.getElem?_map] at hd
        cases erow : (rowsIt W i)[j]? with
        | none => rw [erow] at hd; cases hd
        | some row =>
          rw [erow] at hd
          cases hd
          obtain ⟨a, ys, rfl, hT, hys⟩ := hRx.invT
          have hys' : ys = row.map V.int := RepAll.of_ints hys
          subst hys'
          have hrow : row.length = i := by
            rw [rowsIt_eq] at erow
            exact (mem_rowsOver.mp (List.mem_of_getElem? erow)).1
          walk_at "ev"
          refine ⟨v, rfl, ⟨_, SqL.of hv3⟩, fun D hD => lc_list (xs := W.map V.int) (fun n H' => ∃ us : List V, H' D = some (.lst us) ∧ RepAll K H' us (((W.take n).map fun v => row ++ [v]).map rowT) ∧ us.length = n ∧ Fw [] H3 H') ?_ ?_ ?_ ?_⟩
          · exact ⟨[], upd_same, .nil, rfl, Fw.new hD⟩
          · rintro n H' _ ⟨us, _, _, _, fw⟩
            exact SqL.of (fw.lst hv3 (by simp))
          · rintro n y H4 hn ⟨us, hus, hallu, hul, fwC⟩
            rw [List.getElem?_map] at hn
            cases en : W[n]? with
            | none => rw [en] at hn; cases hn
            | some wv =>
              rw [en] at hn
              cases hn
              have hn20 : n < 20 := by
                have := (List.getElem?_eq_some_iff.mp en).1
                omega
              walk_at "ev"
              refine ⟨rfl, ?_⟩
              walk_at "ev"
              refine ⟨by show 1 ≤ sizeLine; decide, fun b hb => ?_⟩
              have fwb : Fw [] H4 (upd H4 b (.tup [V.int wv])) := Fw.new hb
              refine g_catR ((fwB.trans (fwC.trans fwb)).sqt hT) (SqT.of upd_same) (big (by simp; omega)) (by simp) fun pp H6 hpp e6 => ?_
              have fw6 : Fw [] (upd H4 b (.tup [V.int wv])) H6 := by
                rcases e6 with rfl | ⟨hb, rfl⟩
                · exact Fw.refl _ _
                · exact Fw.new hb
              have hD6 : H6 D = some (.lst us) := (fwb.trans fw6).lst hus (by simp)
              have fwM : Fw [D] H6 (upd H6 D (.lst (us ++ [.ref pp]))) := (Fw.refl _ _).write hD6 (.inl (by simp))
              refine ⟨us, hD6, bigl (by omega), us ++ [.ref pp], upd_same, ?_, by simp [hul], (fwC.trans (fwb.trans fw6)).write hD6 (.inr hD)⟩
              rw [List.take_add_one, en, Option.toList_some, List.map_append, List.map_append]
              refine (hallu.keep (fwb.tk.trans (fw6.tk.trans fwM.tk))).append (.cons (.tup (fwM.sqt hpp) ?_) .nil)
              rw [List.map_append]
              exact (RepAll.ints row).append (.cons (.int _) .nil)
          · rintro H4 ⟨us, hus, hallu, hul, fwC⟩
            have hWt : W.take (W.map V.int).length = W := List.take_of_length_le (by simp)
            rw [hWt] at hallu
            have hg4 : H4 g = some (.lst zs) := fwC.lst hg3 (by simp)
            walk_at "ev"
            have hzl : zs.length ≤ 8000 := by
              rw [hall3.length, List.length_map, flatMap_len, List.length_take]
              exact Nat.le_trans (Nat.mul_le_mul (Nat.le_trans (Nat.min_le_right _ _) hRl) hWl) (by decide)
            refine g_ext hg4 hus (big (by rw [hul, List.length_map]; omega)) ?_
            walk_at "ev"
            have fwM : Fw [g] H4 (upd H4 g (.lst (zs ++ us))) := (Fw.refl _ _).write hg4 (.inl (by simp))
            refine ⟨zs ++ us, _, rfl, (upd_ne hgl.symm).trans (fwC.lst hl3 (by simp)), upd_same, ?_, (upd_ne hgv.symm).trans (fwC.lst hv3 (by simp)), (fwB.trans fwC).write hg4 (.inr hg)⟩
            rw [flat_snoc _ erow, List.map_append]
            exact (hall3.keep (fwC.tk.trans fwM.tk)).append (hallu.keep fwM.tk)
      · rintro σ H3 ⟨zs, p4, rfl, hl3, hg3, hall3, hv3, fwB⟩
        walk_at "ev"
        refine ⟨g, zs, _, _, _, rfl, hg3, fwA.free hg (by simp), ?_, hv3, fwA.trans fwB⟩
        rw [List.take_of_length_le (by omega)] at hall3
        exact hall3
    · rintro σ H2 ⟨l, xs, p2, p3, p4, rfl, hl, hlH, hall, hv2, fwA⟩
      walk_at "ev"
      rw [Int.toNat_natCast] at hall
      exact q l xs W H2 hlH up hb hin hl hall fwA
end
end K50

set_option Elab.async false
set_option maxRecDepth 100000
set_option maxHeartbeats 2000000
set_option pp.deepTerms false
set_option pp.deepTerms.threshold 12
namespace K50
open PySem L2 My
local macro_rules | `(tactic| walk_at "ne") => `(tactic| first | assumption | (refine Ne.symm ?_; assumption) | exact ne_of_none (by assumption) (by assumption) | exact (ne_of_none (by assumption) (by assumption)).symm)
local macro_rules | `(tactic| walk_at "hp") => `(tactic| first | assumption | exact upd_same | ((refine (upd_ne ?_).trans ?_); (walk_at "ne"); (walk_at "hp")))
local macro_rules | `(tactic| walk_at "sq") => `(tactic| first | assumption | exact SqL.of (by walk_at "hp") | exact SqT.of (by walk_at "hp"))
local macro_rules | `(tactic| walk_at "side") => `(tactic| first
  | ((with_reducible show CDivN _ _); exact ⟨by omega, by omega⟩)
  | ((with_reducible show CPow _ _); exact ⟨by decide, by decide, by decide⟩)
  | ((with_reducible show CMul _ _); first | exact .inl ⟨by omega, by omega⟩ | exact .inr ⟨by omega, by omega⟩)
  | ((show (0 : Int) < _); first | decide | omega))
local macro_rules | `(tactic| walk_at "ev1") => `(tactic| first
  | ((with_reducible refine' g_var ?h ?_); case h => rfl)
  | with_reducible refine' g_c ?_
  | with_reducible refine' g_op ?_
  | with_reducible refine' g_test ?_
  | with_reducible refine' g_blI ?_
  | with_reducible refine' g_B ?_
  | with_reducible refine' g_cons ?_
  | with_reducible refine' g_nil ?_
  | with_reducible refine' g_cb ?_
  | with_reducible refine' g_cal ?_
  | with_reducible refine' g_I0 ?_
  | ((with_reducible refine' g_I ?c ?_); case c => walk_at "side")
  | ((with_reducible refine' g_eq ?h ?_); case h => rfl)
  | ((with_reducible refine' g_ne ?h ?_); case h => rfl)
  | ((with_reducible refine' g_ixL ?h ?e ?_); (case h => walk_at "sq"); (case e => first | exact at0 | exact at1 | exact at2 | assumption | rfl))
  | ((with_reducible refine' g_ixT ?h ?e ?_); (case h => walk_at "sq"); (case e => first | exact at0 | exact at1 | exact at2 | assumption | rfl))
  | with_reducible refine' g_int1 ?_
  | with_reducible refine' g_int1b ?_
  | with_reducible refine' g_seq ?_
  | with_reducible refine' g_asg ?_
  | with_reducible refine' g_asgS ?_
  | ((with_reducible refine' g_setL ?h ?e ?_); (case h => walk_at "hp"); (case e => first | exact at0 | exact at1 | exact at2 | assumption | rfl))
  | with_reducible refine' g_drop ?_
  | with_reducible refine' g_ret ?_
  | with_reducible refine' g_ifS ?_
  | with_reducible refine' g_next ?_
  | with_reducible refine' g_un ?_
  | with_reducible refine' g_U ?_
  | with_reducible refine' g_tup ?_
  | with_reducible refine' g_lst ?_
  | with_reducible refine' g_if ?_
  | with_reducible refine' g_and ?_
  | with_reducible refine' g_or ?_
  | with_reducible refine' g_not ?_
  | with_reducible refine' g_andV ?_
  | with_reducible refine' g_orV ?_
  | with_reducible refine' g_notV ?_
  | with_reducible refine' g_bm ?_
  | with_reducible refine' g_bm0 ?_
  | with_reducible refine' g_isNo ?_
  | with_reducible refine' g_notNo ?_
  | with_reducible refine' g_abs ?_
  | with_reducible refine' g_max ?_
  | with_reducible refine' g_min ?_
  | with_reducible refine' g_sl ?_
  | with_reducible refine' g_noPart ?_
  | with_reducible refine' g_sc2 ?_
  | ((with_reducible refine' g_isi (b := false) ?h ?e ?_); (case h => assumption); (case e => decide +kernel))
  | ((with_reducible refine' g_isi (b := true) ?h ?e ?_); (case h => assumption); (case e => decide +kernel))
  | with_reducible refine' g_yes ?_
  | with_reducible refine' g_part ?_
  | with_reducible refine' g_someI ?_
  | with_reducible refine' g_lc ?_
  | with_reducible refine' g_lstRg ?_
  | with_reducible refine' g_rg1 ?_
  | with_reducible refine' g_asgG ?_
  | ((with_reducible refine' g_gTup ?h ?e ?_); (case h => walk_at "sq"); (case e => first | rfl | assumption))
  | with_reducible refine' g_gCons ?_
  | with_reducible refine' g_gNil ?_
  | with_reducible refine' g_trN ?_
  | with_reducible refine' g_trB ?_
  | with_reducible refine' g_disp ?_
  | with_reducible refine' g_pair ?_
  | with_reducible refine' g_pairN ?_
  | with_reducible refine' g_dget ?_
  | with_reducible refine' iteF ?_
  | with_reducible refine' iteT ?_
  | with_reducible refine' iteNF ?_
  | with_reducible refine' iteNT ?_
  | with_reducible refine' g_brk ?_
  | with_reducible refine' g_cont ?_
  | with_reducible refine' g_for ?_
  | with_reducible refine' g_rng1 ?_
  | with_reducible refine' g_iL ?_
  | with_reducible refine' g_iT ?_
  | with_reducible refine' g_gName ?_
  | ((with_reducible refine' g_lenL ?h ?_); case h => walk_at "sq")
  | ((with_reducible refine' g_lenT ?h ?_); case h => walk_at "sq")
  | ((with_reducible refine' g_tyL ?h ?_); case h => walk_at "sq"))
local macro_rules | `(tactic| walk_at "ev") => `(tactic| repeat walk_at "ev1")
local macro_rules | `(tactic| walk_at "ev2") => `(tactic| first
  | walk_at "ev1"
  | with_reducible refine' g_isOb ?_
  | with_reducible refine' g_isOn ?_
  | with_reducible refine' g_lc2 ?_
  | with_reducible refine' g_ndefM ?_
  | ((with_reducible refine' g_callC ?hR ?_); (case hR => first | exact True.intro | rfl))
  | ((with_reducible refine' g_callH ?h0 ?hf ?_); (case h0 => rfl); (case hf => first | assumption | walk_at "hp")))
local macro_rules | `(tactic| walk_at "evx") => `(tactic| repeat walk_at "ev2")

variable [Tbs]
/-- data of tuples at most n deep -/
inductive Dl : Nat → PyData → Prop
  | non {n : Nat} : Dl n .none
  | bl {n : Nat} (b : Bool) : Dl n (.bool b)
  | int {n : Nat} (i : Int) : Dl n (.int i)
  | str {n : Nat} (x : Str) : Dl n (.str x)
  | tup {n : Nat} {ds : List PyData} (hl : ds.length ≤ 100000) (h : ∀ d ∈ ds, Dl n d) : Dl (n + 1) (.tuple ds)
def spSame (K : PySem.W.Frag) : Nat → Sp
  | 0 => fun _ _ _ _ => False
  | n + 1 => fun vs H Q _ => ∃ (x y : V) (d : PyData), vs = [x, y] ∧ Rep K H x d ∧ Rep K H y d ∧ Dl n d ∧ ∀ H', Fw [] H H' → Q (.bl true) H'
section
variable {P : Program} {w : World} {K : PySem.W.Frag} {mg : Str → Option Value} {base : Heap}
theorem same_len {n : Nat} : ∀ vs H Q E, spSame K n vs H Q E → vs.length = 2 := by
  intro vs H Q E h
  cases n with
  | zero => exact h.elim
  | succ n => obtain ⟨x, y, d, rfl, _⟩ := h; rfl
theorem ok_same {f : Addr} {fd : FuncData} {n : Nat} (F : Fun K "_law_same" "_law_same" s__law_same f fd) (T : Txt mg) (C__law_same : Cal P w K mg base "_law_same" n ["told", "due"] (spSame K n)) : FnOk P w K mg base CX0 (n + 1) f fd ["told", "due"] (spSame K (n + 1)) := by
  refine F.ok sc__law_same same_len (fun cdv A outer s H vs Q E hr h => ?_)
  obtain ⟨x, y, d, rfl, hx, hy, hd, q⟩ := h
  refine ⟨_, (pss_cons (ps_if (pt_val (pe_callB call_isi (by rfl) T.isinstance_ (by decide +kernel) (pa_cons (pv 1) (pa_cons (pe_bltn (v := .ty "tuple") (u := .type "tuple") (by rfl) T.tuple_ (by decide +kernel) rfl) pa_nil)))) (pss_cons (ps_if (PW.pt (pw_or (pt_not (pt_val (pe_callB call_isi (by rfl) T.isinstance_ (by decide +kernel) (pa_cons (pv 0) (pa_cons (pe_bltn (v := .ty "tuple") (u := .type "tuple") (by rfl) T.tuple_ (by decide +kernel) rfl) pa_nil))))) (pw_or1 (pt_cmpR op_ne (pe_callB cr_len (by rfl) T.len_ PySem.boot_len (pa_cons (pv 0) pa_nil)) (pe_callB cr_len (by rfl) T.len_ PySem.boot_len (pa_cons (pv 1) pa_nil)) (nomark _))))) (pss_one (ps_ret pe_bl)) pss_nil)
      (pss_cons (ps_for PassesOwn.never rfl (pi_range1 (by rfl) T.range_ (pa_cons (pe_callB cr_len (by rfl) T.len_ PySem.boot_len (pa_cons (pv 1) pa_nil)) pa_nil)) (pg_name (i := 2) sc__law_same.nd rfl (Or.inl rfl)) (pss_one (ps_if (pt_not (pt_val (pe_cal C__law_same hr (by omega) rfl (pa_cons (pe_ix ix_tup (pv 0) (pv 2) (fun _ _ => rfl)) (pa_cons (pe_ix ix_tup (pv 1) (pv 2) (fun _ _ => rfl)) pa_nil))))) (pss_one (ps_ret pe_bl)) pss_nil)))
      (pss_one (ps_ret pe_bl)))) pss_nil)
      (pss_cons (ps_if (pt_cmpR or_isN (pv 1) pe_non (nomark _)) (pss_one (ps_ret (pe_cmpR or_isN (pv 0) pe_non (nomark _)))) pss_nil)
      (pss_cons (ps_if (pt_val (pe_callB call_isi (by rfl) T.isinstance_ (by decide +kernel) (pa_cons (pv 1) (pa_cons (pe_bltn (v := .ty "bool") (u := .type "bool") (by rfl) T.bool_ (by decide +kernel) rfl) pa_nil)))) (pss_one (ps_ret (pe_and (pe_callB call_isi (by rfl) T.isinstance_ (by decide +kernel) (pa_cons (pv 0) (pa_cons (pe_bltn (v := .ty "bool") (u := .type "bool") (by rfl) T.bool_ (by decide +kernel) rfl) pa_nil))) (pe_one (pe_cmpR op_eq (pv 0) (pv 1) (nomark _)))))) pss_nil)
      (pss_cons (ps_if (pt_val (pe_callB call_isi (by rfl) T.isinstance_ (by decide +kernel) (pa_cons (pv 1) (pa_cons (pe_bltn (v := .ty "str") (u := .type "str") (by rfl) T.str_ (by decide +kernel) rfl) pa_nil)))) (pss_one (ps_ret (pe_and (pe_callB call_isi (by rfl) T.isinstance_ (by decide +kernel) (pa_cons (pv 0) (pa_cons (pe_bltn (v := .ty "str") (u := .type "str") (by rfl) T.str_ (by decide +kernel) rfl) pa_nil))) (pe_one (pe_cmpR op_eq (pv 0) (pv 1) (nomark _)))))) pss_nil)
      (pss_one (ps_ret (pe_and (pe_callB call_isi (by rfl) T.isinstance_ (by decide +kernel) (pa_cons (pv 0) (pa_cons (pe_bltn (v := .ty "int") (u := .type "int") (by rfl) T.int_ (by decide +kernel) rfl) pa_nil))) (pe_and (pe_not (pe_callB call_isi (by rfl) T.isinstance_ (by decide +kernel) (pa_cons (pv 0) (pa_cons (pe_bltn (v := .ty "bool") (u := .type "bool") (by rfl) T.bool_ (by decide +kernel) rfl) pa_nil)))) (pe_one (pe_cmpR op_eq (pv 0) (pv 1) (nomark _))))))))))), ?_⟩
  have e0 : start ["told", "due", "k"] [x, y] = [some x, some y, none] := rfl
  rw [e0]
  cases hx with
  | non =>
    cases hy with
    | non =>
      have ty : TyX K H .non (.type "NoneType") := .base .non
      walk_at "ev"
      refine iteD (fun _ => ?_) (fun n => absurd rfl n)
      walk_at "ev"
      exact q H (Fw.refl _ _)
  | bl b =>
    cases hy with
    | bl =>
      have ty : TyX K H (.bl b) (.type "bool") := .base (.bl b)
      walk_at "ev"
      refine iteD (fun n => by cases n) (fun _ => ?_)
      walk_at "ev"
      rw [decide_eq_true rfl]
      exact q H (Fw.refl _ _)
  | int i =>
    cases hy with
    | int =>
      have ty : TyX K H (.int i) (.type "int") := .base (.int i)
      walk_at "ev"
      refine iteD (fun n => by cases n) (fun _ => ?_)
      walk_at "ev"
      rw [decide_eq_true rfl]
      exact q H (Fw.refl _ _)
  | str i =>
    cases hy with
    | str =>
      have ty : TyX K H (.str i) (.type "str") := .base (.str i)
      walk_at "ev"
      refine iteD (fun n => by cases n) (fun _ => ?_)
      walk_at "ev"
      rw [decide_eq_true rfl]
      exact q H (Fw.refl _ _)
  | @tup a xs ds h r =>
    cases hy with
    | @tup b ys _ h2 r2 =>
      cases hd with
      | tup hl hd =>
      have ty : TyX K H (.ref a) (.type "tuple") := sqt_ty h
      have ty2 : TyX K H (.ref b) (.type "tuple") := sqt_ty h2
      have el : xs.length = ys.length := by rw [r.length, r2.length]
      have el2 := r2.length
      walk_at "ev"
      rw [el]
      refine iteN (fun n => absurd rfl n) (fun _ => ?_)
      walk_at "ev"
      refine ⟨_, rfl, by omega, by omega, for_range (lo := 0) (n := ((ys.length : Nat) : Int).toNat) (fun i σ H' => ∃ k, σ = [some (.ref a), some (.ref b), k] ∧ Fw [] H H') ⟨_, rfl, Fw.refl _ _⟩ ?_ ?_⟩
      · rintro i σ H' hi ⟨k, rfl, fw⟩
        have hi' : i < ds.length := by omega
        obtain ⟨u, hu, hRu⟩ := r.nth hi'
        obtain ⟨v, hv, hRv⟩ := r2.nth hi'
        have e1 : (0 : Int) + (i : Int) = ((i : Nat) : Int) := Int.zero_add _
        have at1 : atI xs (0 + (i : Int)) = some u := by rw [e1]; exact atI_nat hu
        have at2 : atI ys (0 + (i : Int)) = some v := by rw [e1]; exact atI_nat hv
        have h' := fw.sqt h
        have h2' := fw.sqt h2
        walk_at "ev"
        refine ⟨u, v, ds[i], rfl, hRu.keep fw.tk, hRv.keep fw.tk, hd _ (List.getElem_mem hi'), fun H2 fw2 => ?_⟩
        walk_at "ev"
        exact ⟨_, rfl, fw.trans fw2⟩
      · rintro σ H' ⟨k, rfl, fw⟩
        walk_at "ev"
        exact q H' fw
theorem same_none {f : Addr} {fd : FuncData} : FnOk P w K mg base CX0 0 f fd ["told", "due"] (spSame K 0) := ⟨fun vs H Q E h => h.elim, fun A outer s H args us vs Q E _ _ _ _ h => h.elim⟩
theorem ok_same_all {f : Addr} {fd : FuncData} (F : Fun K "_law_same" "_law_same" s__law_same f fd) (T : Txt mg) (b : Binds K fd ["told", "due"] []) (m : mg "_law_same" = some (.ref f)) : ∀ n, FnOk P w K mg base CX0 n f fd ["told", "due"] (spSame K n)
  | 0 => same_none
  | n + 1 => ok_same F T (Fun.cal F b m (ok_same_all F T b m n))
end
end K50

set_option Elab.async false
set_option maxRecDepth 100000
set_option maxHeartbeats 2000000
set_option pp.deepTerms false
set_option pp.deepTerms.threshold 12
namespace K50
open PySem L2 My
local macro_rules | `(tactic| walk_at "ne") => `(tactic| first | assumption | (refine Ne.symm ?_; assumption) | exact ne_of_none (by assumption) (by assumption) | exact (ne_of_none (by assumption) (by assumption)).symm)
local macro_rules | `(tactic| walk_at "hp") => `(tactic| first | assumption | exact upd_same | ((refine (upd_ne ?_).trans ?_); (walk_at "ne"); (walk_at "hp")))
local macro_rules | `(tactic| walk_at "sq") => `(tactic| first | assumption | exact SqL.of (by walk_at "hp") | exact SqT.of (by walk_at "hp"))
local macro_rules | `(tactic| walk_at "side") => `(tactic| first
  | ((with_reducible show CDivN _ _); exact ⟨by omega, by omega⟩)
  | ((with_reducible show CPow _ _); exact ⟨by decide, by decide, by decide⟩)
  | ((with_reducible show CMul _ _); first | exact .inl ⟨by omega, by omega⟩ | exact .inr ⟨by omega, by omega⟩)
  | ((show (0 : Int) < _); first | decide | omega))
local macro_rules | `(tactic| walk_at "ev1") => `(tactic| first
  | ((with_reducible refine' g_var ?h ?_); case h => rfl)
  | with_reducible refine' g_c ?_
  | with_reducible refine' g_op ?_
  | with_reducible refine' g_test ?_
  | with_reducible refine' g_blI ?_
  | with_reducible refine' g_B ?_
  | with_reducible refine' g_cons ?_
  | with_reducible refine' g_nil ?_
  | with_reducible refine' g_cb ?_
  | with_reducible refine' g_cal ?_
  | with_reducible refine' g_I0 ?_
  | ((with_reducible refine' g_I ?c ?_); case c => walk_at "side")
  | ((with_reducible refine' g_eq ?h ?_); case h => rfl)
  | ((with_reducible refine' g_ne ?h ?_); case h => rfl)
  | ((with_reducible refine' g_ixL ?h ?e ?_); (case h => walk_at "sq"); (case e => first | exact at0 | exact at1 | exact at2 | assumption | rfl))
  | ((with_reducible refine' g_ixT ?h ?e ?_); (case h => walk_at "sq"); (case e => first | exact at0 | exact at1 | exact at2 | assumption | rfl))
  | with_reducible refine' g_int1 ?_
  | with_reducible refine' g_int1b ?_
  | with_reducible refine' g_seq ?_
  | with_reducible refine' g_asg ?_
  | with_reducible refine' g_asgS ?_
  | ((with_reducible refine' g_setL ?h ?e ?_); (case h => walk_at "hp"); (case e => first | exact at0 | exact at1 | exact at2 | assumption | rfl))
  | with_reducible refine' g_drop ?_
  | with_reducible refine' g_ret ?_
  | with_reducible refine' g_ifS ?_
  | with_reducible refine' g_next ?_
  | with_reducible refine' g_un ?_
  | with_reducible refine' g_U ?_
  | with_reducible refine' g_tup ?_
  | with_reducible refine' g_lst ?_
  | with_reducible refine' g_if ?_
  | with_reducible refine' g_and ?_
  | with_reducible refine' g_or ?_
  | with_reducible refine' g_not ?_
  | with_reducible refine' g_andV ?_
  | with_reducible refine' g_orV ?_
  | with_reducible refine' g_notV ?_
  | with_reducible refine' g_bm ?_
  | with_reducible refine' g_bm0 ?_
  | with_reducible refine' g_isNo ?_
  | with_reducible refine' g_notNo ?_
  | with_reducible refine' g_abs ?_
  | with_reducible refine' g_max ?_
  | with_reducible refine' g_min ?_
  | with_reducible refine' g_sl ?_
  | with_reducible refine' g_noPart ?_
  | with_reducible refine' g_sc2 ?_
  | ((with_reducible refine' g_isi (b := false) ?h ?e ?_); (case h => assumption); (case e => decide +kernel))
  | ((with_reducible refine' g_isi (b := true) ?h ?e ?_); (case h => assumption); (case e => decide +kernel))
  | with_reducible refine' g_yes ?_
  | with_reducible refine' g_part ?_
  | with_reducible refine' g_someI ?_
  | with_reducible refine' g_lc ?_
  | with_reducible refine' g_lstRg ?_
  | with_reducible refine' g_rg1 ?_
  | with_reducible refine' g_asgG ?_
  | ((with_reducible refine' g_gTup ?h ?e ?_); (case h => walk_at "sq"); (case e => first | rfl | assumption))
  | with_reducible refine' g_gCons ?_
  | with_reducible refine' g_gNil ?_
  | with_reducible refine' g_trN ?_
  | with_reducible refine' g_trB ?_
  | with_reducible refine' g_disp ?_
  | with_reducible refine' g_pair ?_
  | with_reducible refine' g_pairN ?_
  | with_reducible refine' g_dget ?_
  | with_reducible refine' iteF ?_
  | with_reducible refine' iteT ?_
  | with_reducible refine' iteNF ?_
  | with_reducible refine' iteNT ?_
  | with_reducible refine' g_brk ?_
  | with_reducible refine' g_cont ?_
  | with_reducible refine' g_for ?_
  | with_reducible refine' g_rng1 ?_
  | with_reducible refine' g_iL ?_
  | with_reducible refine' g_iT ?_
  | with_reducible refine' g_gName ?_
  | ((with_reducible refine' g_lenL ?h ?_); case h => walk_at "sq")
  | ((with_reducible refine' g_lenT ?h ?_); case h => walk_at "sq")
  | ((with_reducible refine' g_tyL ?h ?_); case h => walk_at "sq"))
local macro_rules | `(tactic| walk_at "ev") => `(tactic| repeat walk_at "ev1")
local macro_rules | `(tactic| walk_at "ev2") => `(tactic| first
  | walk_at "ev1"
  | with_reducible refine' g_isOb ?_
  | with_reducible refine' g_isOn ?_
  | with_reducible refine' g_lc2 ?_
  | with_reducible refine' g_ndefM ?_
  | ((with_reducible refine' g_callC ?hR ?_); (case hR => first | exact True.intro | rfl))
  | ((with_reducible refine' g_callH ?h0 ?hf ?_); (case h0 => rfl); (case hf => first | assumption | walk_at "hp")))
local macro_rules | `(tactic| walk_at "evx") => `(tactic| repeat walk_at "ev2")

variable [Tbs]
/-- the numbers of which the first row of a search consists -/
structure Tried (top : Int) (k : Nat) (cs : List Cm) (S : List Int) : Prop where
  up : Up S
  mem : ∀ x, x ∈ S ↔ ∃ b ∈ 0 :: consts cs, ∃ j : Nat, j ≤ k ∧ x = b + j ∧ b + j ≤ top
def sums (k : Nat) (C : List Int) : List Int := C.flatMap fun b => (List.range (k + 1)).map fun j : Nat => b + (j : Int)
theorem sums_len (k : Nat) (C : List Int) : (sums k C).length = C.length * (k + 1) := by
  unfold sums
  induction C with
  | nil => simp
  | cons a C ih => rw [List.flatMap_cons, List.length_append, ih, List.length_map, List.length_range, List.length_cons, Nat.succ_mul, Nat.add_comm]
theorem mem_sums {k : Nat} {C : List Int} {x : Int} : x ∈ sums k C ↔ ∃ b ∈ C, ∃ j : Nat, j ≤ k ∧ x = b + j := by
  unfold sums
  simp only [List.mem_flatMap, List.mem_map, List.mem_range]
  constructor
  · rintro ⟨b, hb, j, hj, rfl⟩; exact ⟨b, hb, j, by omega, rfl⟩
  · rintro ⟨b, hb, j, hj, rfl⟩; exact ⟨b, hb, j, by omega, rfl⟩
theorem consts_snoc {cs : List Cm} {i : Nat} {c : Cm} (h : cs[i]? = some c) : consts (cs.take (i + 1)) = consts (cs.take i) ++ c.consts := by
  unfold consts
  exact flat_snoc _ h
section
variable {P : Program} {w : World} {K : PySem.W.Frag} {mg : Str → Option Value} {base : Heap}
def spTriedT (K : PySem.W.Frag) : Sp := fun vs H Q _ => ∃ (l : Addr) (xs : List V) (top : Int) (many : Nat) (cs : List Cm) (C : List Int), vs = [.int top, .int many, .ref l] ∧ SqT K H l xs ∧ RepAll K H xs (cs.map Cm.d) ∧ 0 ≤ top ∧ top ≤ 999 ∧ many ≤ 3 ∧ (∀ c ∈ cs, c.Ok many C) ∧ C.length ≤ 4 ∧ cs.length ≤ 10000 ∧
  ∀ (p : Addr) (S : List Int) (H' : Hp), H p = none → Tried top many cs S → H' p = some (.lst (S.map V.int)) → Fw [] H H' → Q (.ref p) H'
theorem ok_triedT {f : Addr} {fd : FuncData} {k : Nat} (F : Fun K "tried_numbers" "tried_numbers" s_tried_numbers f fd) (T : Txt mg) : FnOk P w K mg base CX0 (k + 1) f fd ["top", "many", "comparisons"] (spTriedT K) := by
  refine F.ok sc_tried_numbers (fun vs H Q E h => ?_) (fun cdv A outer s H vs Q E hr h => ?_)
  · obtain ⟨l, xs, top, many, cs, C, rfl, _⟩ := h
    rfl
  obtain ⟨l, xs, top, many, cs, C, rfl, hl, hall, t0, t1, hm, hok, hC, hcs, q⟩ := h
  refine ⟨_, (pss_cons (ps_set (i := 3) sc_tried_numbers.nd rfl (Or.inl rfl) (pe_lst (pa_cons pe_int pa_nil)))
      (pss_cons (ps_for PassesOwn.never rfl (pi_tup (pv 2)) (pg_tup (by rfl) (pgs_cons (pg_name (i := 4) sc_tried_numbers.nd rfl (Or.inl rfl)) (pgs_cons (pg_name (i := 5) sc_tried_numbers.nd rfl (Or.inl rfl)) (pgs_cons (pg_name (i := 6) sc_tried_numbers.nd rfl (Or.inl rfl)) pgs_nil)))) (pss_one (ps_for PassesOwn.never rfl (pi_tup (pe_tup (pa_cons (pv 4) (pa_cons (pv 6) pa_nil)))) (pg_name (i := 7) sc_tried_numbers.nd rfl (Or.inl rfl)) (pss_one (ps_if (pt_cmpR op_eq (pe_ix ix_tup (pv 7) pe_int (fun _ _ => rfl)) pe_str (nomark _)) (pss_one (ps_expr (pe_bm PySem.F.plainAttrs_list PySem.F.slot_list_append PySem.F.type_list_append mt_append (pv 3) (pa_cons (pe_ix ix_tup (pv 7) pe_int (fun _ _ => rfl)) pa_nil)))) pss_nil)))))
      (pss_one (ps_ret (pe_callB (cr_sortedSet rfl) (by rfl) T.sorted_ (by decide +kernel) (pa_cons (pe_sc2 (own := [("base", 8), ("step", 9)]) (vs1 := [9]) (g := gName 8) (tt := tYes) (g1 := gName 9) rfl sc_tried_numbers.nd (pi_list (pv 3)) (blkOk_by (N := ["top", "many", "comparisons", "bases", "left", "_", "right", "operand", "base", "step"]) (sc := defScope s_tried_numbers) (by decide +kernel)) (by decide) (fun _ _ _ _ _ => (pg_name (i := 8) sc_tried_numbers.nd rfl (Or.inl rfl))) (fun _ _ _ _ _ => pts_nil) (fun _ _ _ _ _ => (pi_range1 (by rfl) T.range_ (pa_cons (pe_op op_add (pv 1) pe_int) pa_nil))) (fun _ _ _ _ _ => (pg_name (i := 9) sc_tried_numbers.nd rfl (Or.inl rfl))) (fun _ _ _ _ _ => (pts_one (pt_cmpR op_le (pe_op op_add (pv 8) (pv 9)) (pv 0) (nomark _)))) (fun _ _ _ _ _ => (pe_op op_add (pv 8) (pv 9)))) pa_nil)))))), ?_⟩
  have e0 : start ["top", "many", "comparisons", "bases", "left", "_", "right", "operand", "base", "step"] [.int top, .int many, .ref l] = [some (.int top), some (.int many), some (.ref l), none, none, none, none, none, none, none] := rfl
  rw [e0]
  have hxl := hall.length
  rw [List.length_map] at hxl
  have hcl : ∀ i, (consts (cs.take i)).length ≤ 2 * i := fun i => by
    unfold consts
    induction i with
    | zero => simp
    | succ i ih =>
      cases ec : cs[i]? with
      | none =>
        have : cs.take (i + 1) = cs.take i := by rw [List.take_add_one, ec]; simp
        rw [this]; omega
      | some c =>
        rw [flat_snoc _ ec, List.length_append]
        have : c.consts.length ≤ 2 := by
          unfold Cm.consts Opd.consts
          cases c.l <;> cases c.r <;> simp
        omega
  walk_at "ev"
  refine ⟨by show 1 ≤ sizeLine; decide, fun p hp => ?_⟩
  walk_at "ev"
  have fw0 : Fw [] H (upd H p (.lst [V.int 0])) := Fw.new hp
  refine ⟨l, rfl, ⟨xs, fw0.sqt hl⟩, for_tup (xs := xs) (fun i σ H' => ∃ (o4 o5 o6 o7 : Option V), σ = [some (.int top), some (.int many), some (.ref l), some (.ref p), o4, o5, o6, o7, none, none] ∧ H' p = some (.lst ((0 :: consts (cs.take i)).map V.int)) ∧ Fw [] H H') ?_ ?_ ?_ ?_⟩
  · exact ⟨_, _, _, _, rfl, upd_same, fw0⟩
  · rintro i σ H' _ ⟨o4, o5, o6, o7, rfl, _, fw⟩
    exact fw.sqt hl
  · rintro i x σ H2 hi ⟨o4, o5, o6, o7, rfl, hp2, fw2⟩
    obtain ⟨d, hd, hRx⟩ := hall.at hi
    rw [List.getElem?_map] at hd
    cases ec : cs[i]? with
    | none => rw [ec] at hd; cases hd
    | some c =>
      rw [ec] at hd
      cases hd
      have hi' : i < cs.length := (List.getElem?_eq_some_iff.mp ec).1
      obtain ⟨cl, sg, cr⟩ := c
      obtain ⟨a, u, v, z, rfl, h, h1, h2, h3⟩ := Rep.inv3 hRx
      have h' := fw2.sqt h
      walk_at "ev"
      refine ⟨by show 2 ≤ sizeLine; decide, fun t ht => ?_⟩
      have fwt : Fw [] H2 (upd H2 t (.tup [u, z])) := Fw.new ht
      refine ⟨t, rfl, ⟨[u, z], SqT.of upd_same⟩, for_tup (xs := [u, z]) (fun j σ H' => ∃ (o7 : Option V), σ = [some (.int top), some (.int many), some (.ref l), some (.ref p), some u, some v, some z, o7, none, none] ∧ H' p = some (.lst ((0 :: (consts (cs.take i) ++ ([cl, cr].take j).flatMap Opd.consts)).map V.int)) ∧ SqT K H' t [u, z] ∧ Fw [] H H') ?_ ?_ ?_ ?_⟩
      · refine ⟨_, rfl, ?_, SqT.of upd_same, fw2.trans fwt⟩
        rw [fwt.lst hp2 (by simp)]
        simp
      · rintro j σ H' _ ⟨o7, rfl, _, ht', _⟩
        exact ht'
      · rintro j y σ H3 hj ⟨o7, rfl, hp3, ht3, fw3⟩
        obtain ⟨o, ho, hRo⟩ : ∃ o, [cl, cr][j]? = some o ∧ Rep K H y o.d := by
          match j, hj with
          | 0, hj => cases hj; exact ⟨cl, rfl, h1⟩
          | 1, hj => cases hj; exact ⟨cr, rfl, h3⟩
          | n + 2, hj => simp at hj
        have hj2 : j < 2 := by
          have := (List.getElem?_eq_some_iff.mp ho).1
          simpa using this
        have es : ([cl, cr].take (j + 1)).flatMap Opd.consts = ([cl, cr].take j).flatMap Opd.consts ++ o.consts := flat_snoc _ ho
        cases o with
        | «at» n =>
          obtain ⟨b', s', n', rfl, g0, g1, g2⟩ := Rep.inv2 hRo
          obtain rfl := g1.invS
          obtain rfl := g2.invI
          have g0' := fw3.sqt g0
          walk_at "ev"
          refine iteD (fun n => absurd n (by decide)) (fun _ => ?_)
          walk_at "ev"
          refine ⟨_, rfl, ?_, ht3, fw3⟩
          rw [es]
          simpa [Opd.consts] using hp3
        | is n =>
          obtain ⟨b', s', n', rfl, g0, g1, g2⟩ := Rep.inv2 hRo
          obtain rfl := g1.invS
          obtain rfl := g2.invI
          have g0' := fw3.sqt g0
          walk_at "ev"
          refine iteD (fun _ => ?_) (fun n => absurd rfl n)
          walk_at "ev"
          have hlen : ((0 :: (consts (cs.take i) ++ ([cl, cr].take j).flatMap Opd.consts)).map V.int).length < sizeLine := by
            have h1 := hcl i
            have h2 : (([cl, cr].take j).flatMap Opd.consts).length ≤ 2 := by
              match j, hj2 with
              | 0, _ => simp
              | 1, _ => cases cl <;> simp [Opd.consts]
            refine bigl ?_
            simp only [List.length_map, List.length_cons, List.length_append]
            omega
          refine g_app hp3 hlen ?_
          walk_at "ev"
          have tk : Tk H3 (upd H3 p (.lst ((0 :: (consts (cs.take i) ++ ([cl, cr].take j).flatMap Opd.consts)).map V.int ++ [V.int n]))) := ((Fw.refl [p] H3).write hp3 (.inl (by simp))).tk
          refine ⟨_, rfl, ?_, tk.sq ht3, fw3.write hp3 (.inr hp)⟩
          rw [es, upd_same]
          simp [Opd.consts]
      · rintro σ H3 ⟨o7, rfl, hp3, ht3, fw3⟩
        refine ⟨_, _, _, _, rfl, ?_, fw3⟩
        rw [hp3, consts_snoc ec]
        simp [Cm.consts]
  · rintro σ H2 ⟨o4, o5, o6, o7, rfl, hp2, fw2⟩
    rw [hxl, List.take_length] at hp2
    have inC : ∀ b ∈ 0 :: consts cs, b ∈ 0 :: C := fun b hb => by
      rcases List.mem_cons.mp hb with t | t
      · exact t ▸ List.mem_cons_self
      · obtain ⟨c, hc, hbc⟩ := List.mem_flatMap.mp t
        exact List.mem_cons_of_mem _ ((hok c hc).consts b hbc)
    have nM : ∀ M : List Int, M.Nodup → (∀ x ∈ M, x ∈ sums many (0 :: C)) → M.length ≤ 20 := fun M nd hin => by
      have h1 := nodup_le M _ nd hin
      rw [sums_len] at h1
      have h2 : (0 :: C).length * (many + 1) ≤ 5 * 4 := Nat.mul_le_mul (by simp; omega) (by omega)
      omega
    walk_at "ev"
    refine ⟨p, rfl, ⟨_, SqL.of hp2⟩, fun D hD => lw_list (xs := (0 :: consts cs).map V.int) (fun i H' => ∃ (S : Int → Bool) (M : List Int), H' D = some (SetO w D S M.length) ∧ M.Nodup ∧ (∀ k, S k = true ↔ k ∈ M) ∧ (∀ x, x ∈ M ↔ x ∈ sums many ((0 :: consts cs).take i) ∧ x ≤ top) ∧ H' p = some (.lst ((0 :: consts cs).map V.int)) ∧ (∀ b o, H2 b = some o → H' b = some o)) ?_ ?_ ?_ ?_⟩
    · exact ⟨_, [], upd_same, List.nodup_nil, by simp, by simp [sums], (upd_ne (ne_of_none hp2 hD)).trans hp2, fun b o e => (upd_ne (ne_of_none e hD)).trans e⟩
    · rintro i H' _ ⟨S, M, _, _, _, _, hp', _⟩
      exact SqL.of hp'
    · rintro i x H3 hi ⟨S, M, hS, nd, hSM, hMs, hp3, kp⟩
      rw [List.getElem?_map] at hi
      cases eb : (0 :: consts cs)[i]? with
      | none => rw [eb] at hi; cases hi
      | some b =>
        rw [eb] at hi
        cases hi
        have hbC : b ∈ 0 :: C := inC b (List.mem_of_getElem? eb)
        walk_at "ev"
        refine ⟨rfl, ?_⟩
        walk_at "ev"
        refine ⟨_, rfl, by omega, by omega, lw_range (lo := 0) (n := ((many : Int) + 1).toNat) (fun j H' => ∃ (S : Int → Bool) (M : List Int), H' D = some (SetO w D S M.length) ∧ M.Nodup ∧ (∀ k, S k = true ↔ k ∈ M) ∧ (∀ x, x ∈ M ↔ (x ∈ sums many ((0 :: consts cs).take i) ∨ ∃ j' : Nat, j' < j ∧ x = b + j') ∧ x ≤ top) ∧ H' p = some (.lst ((0 :: consts cs).map V.int)) ∧ (∀ b o, H2 b = some o → H' b = some o)) ?_ ?_ ?_⟩
        · exact ⟨S, M, hS, nd, hSM, fun x => by rw [hMs x]; simp, hp3, kp⟩
        · rintro j H4 hj ⟨S, M, hS, nd, hSM, hMs, hp4, kp4⟩
          have ej : b + (0 + (j : Int)) = b + (j : Int) := by omega
          walk_at "ev"
          refine ⟨rfl, ?_⟩
          walk_at "ev"
          rw [ej]
          refine iteD (fun c1 => ?_) (fun c1 => ?_)
          · walk_at "ev"
            rw [ej]
            have inS : ∀ x ∈ M, x ∈ sums many (0 :: C) := fun x hx => by
              rcases ((hMs x).mp hx).1 with t | ⟨j', hj', rfl⟩
              · obtain ⟨b', hb', j'', h1, h2⟩ := mem_sums.mp t
                exact mem_sums.mpr ⟨b', inC b' (List.mem_of_mem_take hb'), j'', h1, h2⟩
              · exact mem_sums.mpr ⟨b, hbC, j', by omega, rfl⟩
            have hM20 := nM M nd inS
            refine ⟨_, S, M.length, rfl, hS, by show M.length + 1 < 4096; omega, ?_⟩
            have hDp : p ≠ D := ne_of_none hp2 hD
            have kp5 : ∀ (o' : HO) b o, H2 b = some o → (upd H4 D o') b = some o := fun o' b o e => (upd_ne (ne_of_none e hD)).trans (kp4 b o e)
            by_cases hin : b + (j : Int) ∈ M
            · have hSt : S (b + (j : Int)) = true := (hSM _).mpr hin
              rw [if_pos hSt]
              refine ⟨_, M, upd_same, nd, fun k => ?_, fun x => ?_, (upd_ne hDp).trans hp4, kp5 _⟩
              · rw [Bool.or_eq_true, decide_eq_true_eq, hSM]
                exact ⟨fun z => z.elim id fun e => e ▸ hin, .inl⟩
              · rw [hMs x]
                constructor
                · rintro ⟨t, ht⟩
                  exact ⟨t.imp id fun ⟨j', h1, h2⟩ => ⟨j', by omega, h2⟩, ht⟩
                · rintro ⟨t, ht⟩
                  rcases t with t | ⟨j', h1, h2⟩
                  · exact ⟨.inl t, ht⟩
                  · by_cases e : j' = j
                    · subst e
                      rw [← h2] at hin
                      exact (hMs x).mp hin
                    · exact ⟨.inr ⟨j', by omega, h2⟩, ht⟩
            · have hSf : ¬ S (b + (j : Int)) = true := fun z => hin ((hSM _).mp z)
              rw [if_neg hSf]
              refine ⟨_, M ++ [b + (j : Int)], by rw [List.length_append]; exact upd_same, List.nodup_append.mpr ⟨nd, by simp, fun a ha b' hb' => by
                  rw [List.mem_singleton] at hb'
                  subst hb'
                  exact fun z => hin (z ▸ ha)⟩, fun k => ?_, fun x => ?_, (upd_ne hDp).trans hp4, kp5 _⟩
              · rw [Bool.or_eq_true, decide_eq_true_eq, hSM, List.mem_append, List.mem_singleton]
              · rw [List.mem_append, List.mem_singleton, hMs x]
                constructor
                · rintro (⟨t, ht⟩ | rfl)
                  · exact ⟨t.imp id fun ⟨j', h1, h2⟩ => ⟨j', by omega, h2⟩, ht⟩
                  · exact ⟨.inr ⟨j, by omega, rfl⟩, c1⟩
                · rintro ⟨t, ht⟩
                  rcases t with t | ⟨j', h1, h2⟩
                  · exact .inl ⟨.inl t, ht⟩
                  · by_cases e : j' = j
                    · subst e; exact .inr h2
                    · exact .inl ⟨.inr ⟨j', by omega, h2⟩, ht⟩
          · refine ⟨S, M, hS, nd, hSM, fun x => ?_, hp4, kp4⟩
            rw [hMs x]
            constructor
            · rintro ⟨t, ht⟩
              exact ⟨t.imp id fun ⟨j', h1, h2⟩ => ⟨j', by omega, h2⟩, ht⟩
            · rintro ⟨t, ht⟩
              rcases t with t | ⟨j', h1, h2⟩
              · exact ⟨.inl t, ht⟩
              · by_cases e : j' = j
                · subst e; exact absurd (h2 ▸ ht) c1
                · exact ⟨.inr ⟨j', by omega, h2⟩, ht⟩
        · rintro H4 ⟨S, M, hS, nd, hSM, hMs, hp4, kp4⟩
          refine ⟨S, M, hS, nd, hSM, fun x => ?_, hp4, kp4⟩
          rw [hMs x]
          have e1 : sums many ((0 :: consts cs).take (i + 1)) = sums many ((0 :: consts cs).take i) ++ (List.range (many + 1)).map (fun j : Nat => b + (j : Int)) := flat_snoc _ eb
          rw [e1, List.mem_append, List.mem_map]
          have en : ((many : Int) + 1).toNat = many + 1 := by omega
          rw [en]
          constructor
          · rintro ⟨t, ht⟩
            exact ⟨t.imp id fun ⟨j', h1, h2⟩ => ⟨j', List.mem_range.mpr h1, h2.symm⟩, ht⟩
          · rintro ⟨t, ht⟩
            exact ⟨t.imp id fun ⟨j', h1, h2⟩ => ⟨j', List.mem_range.mp h1, h2.symm⟩, ht⟩
    · rintro H3 ⟨S, M, hS, nd, hSM, hMs, hp3, kp⟩
      rw [List.take_of_length_le (by simp)] at hMs
      have hM20 := nM M nd fun x hx => by
        obtain ⟨b', hb', j'', h1, h2⟩ := mem_sums.mp ((hMs x).mp hx).1
        exact mem_sums.mpr ⟨b', inC b' hb', j'', h1, h2⟩
      walk_at "ev"
      refine g_sortedSet hS (by omega) fun ns p' up hns hl' hp' => ?_
      walk_at "ev"
      have fwS : Fw [] H H3 := by
        exact fw2.trans (.same kp)
      refine q p' ns _ (fwS.free hp' (by simp)) ⟨up, fun x => ?_⟩ upd_same (fwS.snoc hp')
      rw [hns, hSM, hMs, mem_sums]
      constructor
      · rintro ⟨⟨b, hb, j, hj, rfl⟩, ht⟩
        exact ⟨b, hb, j, hj, rfl, ht⟩
      · rintro ⟨b, hb, j, hj, rfl, ht⟩
        exact ⟨⟨b, hb, j, hj, rfl⟩, ht⟩
def spTriedL (K : PySem.W.Frag) : Sp := fun vs H Q _ => ∃ (l : Addr) (xs : List V) (top : Int) (many : Nat) (cs : List Cm) (C : List Int), vs = [.int top, .int many, .ref l] ∧ SqL K H l xs ∧ RepAll K H xs (cs.map Cm.d) ∧ 0 ≤ top ∧ top ≤ 999 ∧ many ≤ 3 ∧ (∀ c ∈ cs, c.Ok many C) ∧ C.length ≤ 4 ∧ cs.length ≤ 10000 ∧
  ∀ (p : Addr) (S : List Int) (H' : Hp), H p = none → Tried top many cs S → H' p = some (.lst (S.map V.int)) → Fw [] H H' → Q (.ref p) H'
theorem ok_triedL {f : Addr} {fd : FuncData} {k : Nat} (F : Fun K "tried_numbers" "tried_numbers" s_tried_numbers f fd) (T : Txt mg) : FnOk P w K mg base CX0 (k + 1) f fd ["top", "many", "comparisons"] (spTriedL K) := by
  refine F.ok sc_tried_numbers (fun vs H Q E h => ?_) (fun cdv A outer s H vs Q E hr h => ?_)
  · obtain ⟨l, xs, top, many, cs, C, rfl, _⟩ := h
    rfl
  obtain ⟨l, xs, top, many, cs, C, rfl, hl, hall, t0, t1, hm, hok, hC, hcs, q⟩ := h
  refine ⟨_, (pss_cons (ps_set (i := 3) sc_tried_numbers.nd rfl (Or.inl rfl) (pe_lst (pa_cons pe_int pa_nil)))
      (pss_cons (ps_for PassesOwn.never rfl (pi_list (pv 2)) (pg_tup (by rfl) (pgs_cons (pg_name (i := 4) sc_tried_numbers.nd rfl (Or.inl rfl)) (pgs_cons (pg_name (i := 5) sc_tried_numbers.nd rfl (Or.inl rfl)) (pgs_cons (pg_name (i := 6) sc_tried_numbers.nd rfl (Or.inl rfl)) pgs_nil)))) (pss_one (ps_for PassesOwn.never rfl (pi_tup (pe_tup (pa_cons (pv 4) (pa_cons (pv 6) pa_nil)))) (pg_name (i := 7) sc_tried_numbers.nd rfl (Or.inl rfl)) (pss_one (ps_if (pt_cmpR op_eq (pe_ix ix_tup (pv 7) pe_int (fun _ _ => rfl)) pe_str (nomark _)) (pss_one (ps_expr (pe_bm PySem.F.plainAttrs_list PySem.F.slot_list_append PySem.F.type_list_append mt_append (pv 3) (pa_cons (pe_ix ix_tup (pv 7) pe_int (fun _ _ => rfl)) pa_nil)))) pss_nil)))))
      (pss_one (ps_ret (pe_callB (cr_sortedSet rfl) (by rfl) T.sorted_ (by decide +kernel) (pa_cons (pe_sc2 (own := [("base", 8), ("step", 9)]) (vs1 := [9]) (g := gName 8) (tt := tYes) (g1 := gName 9) rfl sc_tried_numbers.nd (pi_list (pv 3)) (blkOk_by (N := ["top", "many", "comparisons", "bases", "left", "_", "right", "operand", "base", "step"]) (sc := defScope s_tried_numbers) (by decide +kernel)) (by decide) (fun _ _ _ _ _ => (pg_name (i := 8) sc_tried_numbers.nd rfl (Or.inl rfl))) (fun _ _ _ _ _ => pts_nil) (fun _ _ _ _ _ => (pi_range1 (by rfl) T.range_ (pa_cons (pe_op op_add (pv 1) pe_int) pa_nil))) (fun _ _ _ _ _ => (pg_name (i := 9) sc_tried_numbers.nd rfl (Or.inl rfl))) (fun _ _ _ _ _ => (pts_one (pt_cmpR op_le (pe_op op_add (pv 8) (pv 9)) (pv 0) (nomark _)))) (fun _ _ _ _ _ => (pe_op op_add (pv 8) (pv 9)))) pa_nil)))))), ?_⟩
  have e0 : start ["top", "many", "comparisons", "bases", "left", "_", "right", "operand", "base", "step"] [.int top, .int many, .ref l] = [some (.int top), some (.int many), some (.ref l), none, none, none, none, none, none, none] := rfl
  rw [e0]
  have hxl := hall.length
  rw [List.length_map] at hxl
  have hcl : ∀ i, (consts (cs.take i)).length ≤ 2 * i := fun i => by
    unfold consts
    induction i with
    | zero => simp
    | succ i ih =>
      cases ec : cs[i]? with
      | none =>
        have : cs.take (i + 1) = cs.take i := by rw [List.take_add_one, ec]; simp
        rw [this]; omega
      | some c =>
        rw [flat_snoc _ ec, List.length_append]
        have : c.consts.length ≤ 2 := by
          unfold Cm.consts Opd.consts
          cases c.l <;> cases c.r <;> simp
        omega
  walk_at "ev"
  refine ⟨by show 1 ≤ sizeLine; decide, fun p hp => ?_⟩
  walk_at "ev"
  have fw0 : Fw [] H (upd H p (.lst [V.int 0])) := Fw.new hp
  refine ⟨l, rfl, ⟨xs, fw0.sql hl (by simp)⟩, for_list (xs := xs) (fun i σ H' => ∃ (o4 o5 o6 o7 : Option V), σ = [some (.int top), some (.int many), some (.ref l), some (.ref p), o4, o5, o6, o7, none, none] ∧ H' p = some (.lst ((0 :: consts (cs.take i)).map V.int)) ∧ Fw [] H H') ?_ ?_ ?_ ?_⟩
  · exact ⟨_, _, _, _, rfl, upd_same, fw0⟩
  · rintro i σ H' _ ⟨o4, o5, o6, o7, rfl, _, fw⟩
    exact fw.sql hl (by simp)
  · rintro i x σ H2 hi ⟨o4, o5, o6, o7, rfl, hp2, fw2⟩
    obtain ⟨d, hd, hRx⟩ := hall.at hi
    rw [List.getElem?_map] at hd
    cases ec : cs[i]? with
    | none => rw [ec] at hd; cases hd
    | some c =>
      rw [ec] at hd
      cases hd
      have hi' : i < cs.length := (List.getElem?_eq_some_iff.mp ec).1
      obtain ⟨cl, sg, cr⟩ := c
      obtain ⟨a, u, v, z, rfl, h, h1, h2, h3⟩ := Rep.inv3 hRx
      have h' := fw2.sqt h
      walk_at "ev"
      refine ⟨by show 2 ≤ sizeLine; decide, fun t ht => ?_⟩
      have fwt : Fw [] H2 (upd H2 t (.tup [u, z])) := Fw.new ht
      refine ⟨t, rfl, ⟨[u, z], SqT.of upd_same⟩, for_tup (xs := [u, z]) (fun j σ H' => ∃ (o7 : Option V), σ = [some (.int top), some (.int many), some (.ref l), some (.ref p), some u, some v, some z, o7, none, none] ∧ H' p = some (.lst ((0 :: (consts (cs.take i) ++ ([cl, cr].take j).flatMap Opd.consts)).map V.int)) ∧ SqT K H' t [u, z] ∧ Fw [] H H') ?_ ?_ ?_ ?_⟩
      · refine ⟨_, rfl, ?_, SqT.of upd_same, fw2.trans fwt⟩
        rw [fwt.lst hp2 (by simp)]
        simp
      · rintro j σ H' _ ⟨o7, rfl, _, ht', _⟩
        exact ht'
      · rintro j y σ H3 hj ⟨o7, rfl, hp3, ht3, fw3⟩
        obtain ⟨o, ho, hRo⟩ : ∃ o, [cl, cr][j]? = some o ∧ Rep K H y o.d := by
          match j, hj with
          | 0, hj => cases hj; exact ⟨cl, rfl, h1⟩
          | 1, hj => cases hj; exact ⟨cr, rfl, h3⟩
          | n + 2, hj => simp at hj
        have hj2 : j < 2 := by
          have := (List.getElem?_eq_some_iff.mp ho).1
          simpa using this
        have es : ([cl, cr].take (j + 1)).flatMap Opd.consts = ([cl, cr].take j).flatMap Opd.consts ++ o.consts := flat_snoc _ ho
        cases o with
        | «at» n =>
          obtain ⟨b', s', n', rfl, g0, g1, g2⟩ := Rep.inv2 hRo
          obtain rfl := g1.invS
          obtain rfl := g2.invI
          have g0' := fw3.sqt g0
          walk_at "ev"
          refine iteD (fun n => absurd n (by decide)) (fun _ => ?_)
          walk_at "ev"
          refine ⟨_, rfl, ?_, ht3, fw3⟩
          rw [es]
          simpa [Opd.consts] using hp3
        | is n =>
          obtain ⟨b', s', n', rfl, g0, g1, g2⟩ := Rep.inv2 hRo
          obtain rfl := g1.invS
          obtain rfl := g2.invI
          have g0' := fw3.sqt g0
          walk_at "ev"
          refine iteD (fun _ => ?_) (fun n => absurd rfl n)
          walk_at "ev"
          have hlen : ((0 :: (consts (cs.take i) ++ ([cl, cr].take j).flatMap Opd.consts)).map V.int).length < sizeLine := by
            have h1 := hcl i
            have h2 : (([cl, cr].take j).flatMap Opd.consts).length ≤ 2 := by
              match j, hj2 with
              | 0, _ => simp
              | 1, _ => cases cl <;> simp [Opd.consts]
            refine bigl ?_
            simp only [List.length_map, List.length_cons, List.length_append]
            omega
          refine g_app hp3 hlen ?_
          walk_at "ev"
          have tk : Tk H3 (upd H3 p (.lst ((0 :: (consts (cs.take i) ++ ([cl, cr].take j).flatMap Opd.consts)).map V.int ++ [V.int n]))) := ((Fw.refl [p] H3).write hp3 (.inl (by simp))).tk
          refine ⟨_, rfl, ?_, tk.sq ht3, fw3.write hp3 (.inr hp)⟩
          rw [es, upd_same]
          simp [Opd.consts]
      · rintro σ H3 ⟨o7, rfl, hp3, ht3, fw3⟩
        refine ⟨_, _, _, _, rfl, ?_, fw3⟩
        rw [hp3, consts_snoc ec]
        simp [Cm.consts]
  · rintro σ H2 ⟨o4, o5, o6, o7, rfl, hp2, fw2⟩
    rw [hxl, List.take_length] at hp2
    have inC : ∀ b ∈ 0 :: consts cs, b ∈ 0 :: C := fun b hb => by
      rcases List.mem_cons.mp hb with t | t
      · exact t ▸ List.mem_cons_self
      · obtain ⟨c, hc, hbc⟩ := List.mem_flatMap.mp t
        exact List.mem_cons_of_mem _ ((hok c hc).consts b hbc)
    have nM : ∀ M : List Int, M.Nodup → (∀ x ∈ M, x ∈ sums many (0 :: C)) → M.length ≤ 20 := fun M nd hin => by
      have h1 := nodup_le M _ nd hin
      rw [sums_len] at h1
      have h2 : (0 :: C).length * (many + 1) ≤ 5 * 4 := Nat.mul_le_mul (by simp; omega) (by omega)
      omega
    walk_at "ev"
    refine ⟨p, rfl, ⟨_, SqL.of hp2⟩, fun D hD => lw_list (xs := (0 :: consts cs).map V.int) (fun i H' => ∃ (S : Int → Bool) (M : List Int), H' D = some (SetO w D S M.length) ∧ M.Nodup ∧ (∀ k, S k = true ↔ k ∈ M) ∧ (∀ x, x ∈ M ↔ x ∈ sums many ((0 :: consts cs).take i) ∧ x ≤ top) ∧ H' p = some (.lst ((0 :: consts cs).map V.int)) ∧ (∀ b o, H2 b = some o → H' b = some o)) ?_ ?_ ?_ ?_⟩
    · exact ⟨_, [], upd_same, List.nodup_nil, by simp, by simp [sums], (upd_ne (ne_of_none hp2 hD)).trans hp2, fun b o e => (upd_ne (ne_of_none e hD)).trans e⟩
    · rintro i H' _ ⟨S, M, _, _, _, _, hp', _⟩
      exact SqL.of hp'
    · rintro i x H3 hi ⟨S, M, hS, nd, hSM, hMs, hp3, kp⟩
      rw [List.getElem?_map] at hi
      cases eb : (0 :: consts cs)[i]? with
      | none => rw [eb] at hi; cases hi
      | some b =>
        rw [eb] at hi
        cases hi
        have hbC : b ∈ 0 :: C := inC b (List.mem_of_getElem? eb)
        walk_at "ev"
        refine ⟨rfl, ?_⟩
        walk_at "ev"
        refine ⟨_, rfl, by omega, by omega, lw_range (lo := 0) (n := ((many : Int) + 1).toNat) (fun j H' => ∃ (S : Int → Bool) (M : List Int), H' D = some (SetO w D S M.length) ∧ M.Nodup ∧ (∀ k, S k = true ↔ k ∈ M) ∧ (∀ x, x ∈ M ↔ (x ∈ sums many ((0 :: consts cs).take i) ∨ ∃ j' : Nat, j' < j ∧ x = b + j') ∧ x ≤ top) ∧ H' p = some (.lst ((0 :: consts cs).map V.int)) ∧ (∀ b o, H2 b = some o → H' b = some o)) ?_ ?_ ?_⟩
        · exact ⟨S, M, hS, nd, hSM, fun x => by rw [hMs x]; simp, hp3, kp⟩
        · rintro j H4 hj ⟨S, M, hS, nd, hSM, hMs, hp4, kp4⟩
          have ej : b + (0 + (j : Int)) = b + (j : Int) := by omega
          walk_at "ev"
          refine ⟨rfl, ?_⟩
          walk_at "ev"
          rw [ej]
          refine iteD (fun c1 => ?_) (fun c1 => ?_)
          · walk_at "ev"
            rw [ej]
            have inS : ∀ x ∈ M, x ∈ sums many (0 :: C) := fun x hx => by
              rcases ((hMs x).mp hx).1 with t | ⟨j', hj', rfl⟩
              · obtain ⟨b', hb', j'', h1, h2⟩ := mem_sums.mp t
                exact mem_sums.mpr ⟨b', inC b' (List.mem_of_mem_take hb'), j'', h1, h2⟩
              · exact mem_sums.mpr ⟨b, hbC, j', by omega, rfl⟩
            have hM20 := nM M nd inS
            refine ⟨_, S, M.length, rfl, hS, by show M.length + 1 < 4096; omega, ?_⟩
            have hDp : p ≠ D := ne_of_none hp2 hD
            have kp5 : ∀ (o' : HO) b o, H2 b = some o → (upd H4 D o') b = some o := fun o' b o e => (upd_ne (ne_of_none e hD)).trans (kp4 b o e)
            by_cases hin : b + (j : Int) ∈ M
            · have hSt : S (b + (j : Int)) = true := (hSM _).mpr hin
              rw [if_pos hSt]
              refine ⟨_, M, upd_same, nd, fun k => ?_, fun x => ?_, (upd_ne hDp).trans hp4, kp5 _⟩
              · rw [Bool.or_eq_true, decide_eq_true_eq, hSM]
                exact ⟨fun z => z.elim id fun e => e ▸ hin, .inl⟩
              · rw [hMs x]
                constructor
                · rintro ⟨t, ht⟩
                  exact ⟨t.imp id fun ⟨j', h1, h2⟩ => ⟨j', by omega, h2⟩, ht⟩
                · rintro ⟨t, ht⟩
                  rcases t with t | ⟨j', h1, h2⟩
                  · exact ⟨.inl t, ht⟩
                  · by_cases e : j' = j
                    · subst e
                      rw [← h2] at hin
                      exact (hMs x).mp hin
                    · exact ⟨.inr ⟨j', by omega, h2⟩, ht⟩
            · have hSf : ¬ S (b + (j : Int)) = true := fun z => hin ((hSM _).mp z)
              rw [if_neg hSf]
              refine ⟨_, M ++ [b + (j : Int)], by rw [List.length_append]; exact upd_same, List.nodup_append.mpr ⟨nd, by simp, fun a ha b' hb' => by
                  rw [List.mem_singleton] at hb'
                  subst hb'
                  exact fun z => hin (z ▸ ha)⟩, fun k => ?_, fun x => ?_, (upd_ne hDp).trans hp4, kp5 _⟩
              · rw [Bool.or_eq_true, decide_eq_true_eq, hSM, List.mem_append, List.mem_singleton]
              · rw [List.mem_append, List.mem_singleton, hMs x]
                constructor
                · rintro (⟨t, ht⟩ | rfl)
                  · exact ⟨t.imp id fun ⟨j', h1, h2⟩ => ⟨j', by omega, h2⟩, ht⟩
                  · exact ⟨.inr ⟨j, by omega, rfl⟩, c1⟩
                · rintro ⟨t, ht⟩
                  rcases t with t | ⟨j', h1, h2⟩
                  · exact .inl ⟨.inl t, ht⟩
                  · by_cases e : j' = j
                    · subst e; exact .inr h2
                    · exact .inl ⟨.inr ⟨j', by omega, h2⟩, ht⟩
          · refine ⟨S, M, hS, nd, hSM, fun x => ?_, hp4, kp4⟩
            rw [hMs x]
            constructor
            · rintro ⟨t, ht⟩
              exact ⟨t.imp id fun ⟨j', h1, h2⟩ => ⟨j', by omega, h2⟩, ht⟩
            · rintro ⟨t, ht⟩
              rcases t with t | ⟨j', h1, h2⟩
              · exact ⟨.inl t, ht⟩
              · by_cases e : j' = j
                · subst e; exact absurd (h2 ▸ ht) c1
                · exact ⟨.inr ⟨j', by omega, h2⟩, ht⟩
        · rintro H4 ⟨S, M, hS, nd, hSM, hMs, hp4, kp4⟩
          refine ⟨S, M, hS, nd, hSM, fun x => ?_, hp4, kp4⟩
          rw [hMs x]
          have e1 : sums many ((0 :: consts cs).take (i + 1)) = sums many ((0 :: consts cs).take i) ++ (List.range (many + 1)).map (fun j : Nat => b + (j : Int)) := flat_snoc _ eb
          rw [e1, List.mem_append, List.mem_map]
          have en : ((many : Int) + 1).toNat = many + 1 := by omega
          rw [en]
          constructor
          · rintro ⟨t, ht⟩
            exact ⟨t.imp id fun ⟨j', h1, h2⟩ => ⟨j', List.mem_range.mpr h1, h2.symm⟩, ht⟩
          · rintro ⟨t, ht⟩
            exact ⟨t.imp id fun ⟨j', h1, h2⟩ => ⟨j', List.mem_range.mp h1, h2.symm⟩, ht⟩
    · rintro H3 ⟨S, M, hS, nd, hSM, hMs, hp3, kp⟩
      rw [List.take_of_length_le (by simp)] at hMs
      have hM20 := nM M nd fun x hx => by
        obtain ⟨b', hb', j'', h1, h2⟩ := mem_sums.mp ((hMs x).mp hx).1
        exact mem_sums.mpr ⟨b', inC b' hb', j'', h1, h2⟩
      walk_at "ev"
      refine g_sortedSet hS (by omega) fun ns p' up hns hl' hp' => ?_
      walk_at "ev"
      have fwS : Fw [] H H3 := by
        exact fw2.trans (.same kp)
      refine q p' ns _ (fwS.free hp' (by simp)) ⟨up, fun x => ?_⟩ upd_same (fwS.snoc hp')
      rw [hns, hSM, hMs, mem_sums]
      constructor
      · rintro ⟨⟨b, hb, j, hj, rfl⟩, ht⟩
        exact ⟨b, hb, j, hj, rfl, ht⟩
      · rintro ⟨b, hb, j, hj, rfl, ht⟩
        exact ⟨⟨b, hb, j, hj, rfl⟩, ht⟩
end
end K50

set_option Elab.async false
set_option maxRecDepth 100000
set_option maxHeartbeats 2000000
set_option pp.deepTerms false
set_option pp.deepTerms.threshold 12
namespace K50
open PySem L2 My NdefX
local macro_rules | `(tactic| walk_at "ne") => `(tactic| first | assumption | (refine Ne.symm ?_; assumption) | exact ne_of_none (by assumption) (by assumption) | exact (ne_of_none (by assumption) (by assumption)).symm)
local macro_rules | `(tactic| walk_at "hp") => `(tactic| first | assumption | exact upd_same | ((refine (upd_ne ?_).trans ?_); (walk_at "ne"); (walk_at "hp")))
local macro_rules | `(tactic| walk_at "sq") => `(tactic| first | assumption | exact SqL.of (by walk_at "hp") | exact SqT.of (by walk_at "hp"))
local macro_rules | `(tactic| walk_at "side") => `(tactic| first
  | ((with_reducible show CDivN _ _); exact ⟨by omega, by omega⟩)
  | ((with_reducible show CPow _ _); exact ⟨by decide, by decide, by decide⟩)
  | ((with_reducible show CMul _ _); first | exact .inl ⟨by omega, by omega⟩ | exact .inr ⟨by omega, by omega⟩)
  | ((show (0 : Int) < _); first | decide | omega))
local macro_rules | `(tactic| walk_at "ev1") => `(tactic| first
  | ((with_reducible refine' g_var ?h ?_); case h => rfl)
  | with_reducible refine' g_c ?_
  | with_reducible refine' g_op ?_
  | with_reducible refine' g_test ?_
  | with_reducible refine' g_blI ?_
  | with_reducible refine' g_B ?_
  | with_reducible refine' g_cons ?_
  | with_reducible refine' g_nil ?_
  | with_reducible refine' g_cb ?_
  | with_reducible refine' g_cal ?_
  | with_reducible refine' g_I0 ?_
  | ((with_reducible refine' g_I ?c ?_); case c => walk_at "side")
  | ((with_reducible refine' g_eq ?h ?_); case h => rfl)
  | ((with_reducible refine' g_ne ?h ?_); case h => rfl)
  | ((with_reducible refine' g_ixL ?h ?e ?_); (case h => walk_at "sq"); (case e => first | exact at0 | exact at1 | exact at2 | assumption | rfl))
  | ((with_reducible refine' g_ixT ?h ?e ?_); (case h => walk_at "sq"); (case e => first | exact at0 | exact at1 | exact at2 | assumption | rfl))
  | with_reducible refine' g_int1 ?_
  | with_reducible refine' g_int1b ?_
  | with_reducible refine' g_seq ?_
  | with_reducible refine' g_asg ?_
  | with_reducible refine' g_asgS ?_
  | ((with_reducible refine' g_setL ?h ?e ?_); (case h => walk_at "hp"); (case e => first | exact at0 | exact at1 | exact at2 | assumption | rfl))
  | with_reducible refine' g_drop ?_
  | with_reducible refine' g_ret ?_
  | with_reducible refine' g_ifS ?_
  | with_reducible refine' g_next ?_
  | with_reducible refine' g_un ?_
  | with_reducible refine' g_U ?_
  | with_reducible refine' g_tup ?_
  | with_reducible refine' g_lst ?_
  | with_reducible refine' g_if ?_
  | with_reducible refine' g_and ?_
  | with_reducible refine' g_or ?_
  | with_reducible refine' g_not ?_
  | with_reducible refine' g_andV ?_
  | with_reducible refine' g_orV ?_
  | with_reducible refine' g_notV ?_
  | with_reducible refine' g_bm ?_
  | with_reducible refine' g_bm0 ?_
  | with_reducible refine' g_isNo ?_
  | with_reducible refine' g_notNo ?_
  | with_reducible refine' g_abs ?_
  | with_reducible refine' g_max ?_
  | with_reducible refine' g_min ?_
  | with_reducible refine' g_sl ?_
  | with_reducible refine' g_noPart ?_
  | with_reducible refine' g_sc2 ?_
  | ((with_reducible refine' g_isi (b := false) ?h ?e ?_); (case h => assumption); (case e => decide +kernel))
  | ((with_reducible refine' g_isi (b := true) ?h ?e ?_); (case h => assumption); (case e => decide +kernel))
  | with_reducible refine' g_yes ?_
  | with_reducible refine' g_part ?_
  | with_reducible refine' g_someI ?_
  | with_reducible refine' g_lc ?_
  | with_reducible refine' g_lstRg ?_
  | with_reducible refine' g_rg1 ?_
  | with_reducible refine' g_asgG ?_
  | ((with_reducible refine' g_gTup ?h ?e ?_); (case h => walk_at "sq"); (case e => first | rfl | assumption))
  | with_reducible refine' g_gCons ?_
  | with_reducible refine' g_gNil ?_
  | with_reducible refine' g_trN ?_
  | with_reducible refine' g_trB ?_
  | with_reducible refine' g_disp ?_
  | with_reducible refine' g_pair ?_
  | with_reducible refine' g_pairN ?_
  | with_reducible refine' g_dget ?_
  | with_reducible refine' iteF ?_
  | with_reducible refine' iteT ?_
  | with_reducible refine' iteNF ?_
  | with_reducible refine' iteNT ?_
  | with_reducible refine' g_brk ?_
  | with_reducible refine' g_cont ?_
  | with_reducible refine' g_for ?_
  | with_reducible refine' g_rng1 ?_
  | with_reducible refine' g_iL ?_
  | with_reducible refine' g_iT ?_
  | with_reducible refine' g_gName ?_
  | ((with_reducible refine' g_lenL ?h ?_); case h => walk_at "sq")
  | ((with_reducible refine' g_lenT ?h ?_); case h => walk_at "sq")
  | ((with_reducible refine' g_tyL ?h ?_); case h => walk_at "sq"))
local macro_rules | `(tactic| walk_at "ev") => `(tactic| repeat walk_at "ev1")
local macro_rules | `(tactic| walk_at "ev2") => `(tactic| first
  | walk_at "ev1"
  | with_reducible refine' g_isOb ?_
  | with_reducible refine' g_isOn ?_
  | with_reducible refine' g_lc2 ?_
  | with_reducible refine' g_ndefM ?_
  | ((with_reducible refine' g_callC ?hR ?_); (case hR => first | exact True.intro | rfl))
  | ((with_reducible refine' g_callH ?h0 ?hf ?_); (case h0 => rfl); (case hf => first | assumption | walk_at "hp")))
local macro_rules | `(tactic| walk_at "evx") => `(tactic| repeat walk_at "ev2")

variable [Tbs]
abbrev n_least_failing_hopeless : Stmt := (defBody s_least_failing).getD 1 (.Pass ⟨0, 0, 0, 0⟩)
abbrev n_least_meeting_hopeless : Stmt := (defBody s_least_meeting).getD 1 (.Pass ⟨0, 0, 0, 0⟩)
theorem nsc_least_failing_hopeless : NSc ["row", "rules", "rule"] "row" "rules" (C8.fnScope n_least_failing_hopeless) := nsc_by (by decide +kernel)
theorem nsc_least_meeting_hopeless : NSc ["row", "comparisons", "one"] "row" "comparisons" (C8.fnScope n_least_meeting_hopeless) := nsc_by (by decide +kernel)
section
variable {P : Program} {w : World} {K : PySem.W.Frag} {mg : Str → Option Value} {base : Heap}
def spHop (K : PySem.W.Frag) (v : V) (d : PyData) (h : List Int → Bool) : Sp := fun vs H Q _ => ∃ (r : Addr) (row : List Int), vs = [.ref r] ∧ SqT K H r (row.map V.int) ∧ Rep K H v d ∧ ∀ H', Fw [] H H' → Q (.bl (h row)) H'
theorem any_map_id {α : Type} (l : List α) (f : α → Bool) : (l.map f).any id = l.any f := by
  rw [List.any_map]; rfl
theorem ok_hopF {q : Str} {c c1 f : Addr} {v : V} {rules : List (List Cm)} {k : Nat} (hn : rules.length ≤ 1000) (T : Txt mg) (C_all_true : Cal P w K mg base "all_true" k ["comparisons", "row"] (spAllTrue K)) :
    NCal P w K mg base (k + 1) f (NF.of n_least_failing_hopeless "hopeless" q [("rules", c)] c1) c v (spHop K v (.tuple (rules.map rowD)) (hopeF rules)) := by
  refine ncal_of nsc_least_failing_hopeless rfl (fun _ _ _ _ => rfl) fun A outer s H a Q hr h => ?_
  obtain ⟨r, row, e, hR, hv, q⟩ := h
  obtain rfl : a = .ref r := (List.cons.inj e).1
  obtain ⟨l, xs, rfl, hl, hall⟩ := hv.invT
  have hxl := hall.length
  rw [List.length_map] at hxl
  refine ⟨_, (pss_one (ps_ret (pe_callB (cr_any rfl) (by rfl) T.any_ (by decide +kernel) (pa_cons (pe_lc (own := [("rule", 2)]) (g := gName 2)  (tt := tYes) rfl nsc_least_failing_hopeless.nd (pi_tup (pv 1)) (blkOk_by (N := ["row", "rules", "rule"]) (sc := C8.fnScope n_least_failing_hopeless) (by decide +kernel)) (fun _ _ _ _ _ => (pg_name (i := 2) nsc_least_failing_hopeless.nd rfl (Or.inl rfl))) (fun _ _ _ _ _ => pts_nil) (fun _ _ _ _ _ => (pe_cal C_all_true hr (by omega) rfl (pa_cons (pv 2) (pa_cons (pv 0) pa_nil))))) pa_nil)))), ?_⟩
  have e0 : (some (V.ref r) :: some (V.ref l) :: List.replicate (["row", "rules", "rule"].length - 2) none : L2.St) = [some (V.ref r), some (V.ref l), none] := rfl
  show tRet _ _ (some (V.ref r) :: some (V.ref l) :: List.replicate (["row", "rules", "rule"].length - 2) none : L2.St) H
  rw [e0]
  walk_at "evx"
  refine ⟨l, rfl, ⟨xs, hl⟩, fun D hD => lw_tup (xs := xs) (fun i H' => H' D = some (.lst (((rules.map fun cs => meets cs row).take i).map V.bl)) ∧ Fw [] H H') ?_ ?_ ?_ ?_⟩
  · exact ⟨upd_same, Fw.new hD⟩
  · rintro i H' _ ⟨_, fw⟩
    exact fw.sqt hl
  · rintro i x H2 hi ⟨hp, fw⟩
    obtain ⟨d, hd, hRx⟩ := hall.at hi
    rw [List.getElem?_map] at hd
    cases ec : rules[i]? with
    | none => rw [ec] at hd; cases hd
    | some cs =>
      rw [ec] at hd
      cases hd
      walk_at "evx"
      refine ⟨rfl, ?_⟩
      walk_at "evx"
      refine ⟨_, _, cs, row, rfl, hRx.keep fw.tk, fw.sqt hR, ?_⟩
      refine ⟨_, hp, ?_, ?_, fw.write hp (.inr hD)⟩
      · refine bigl ?_
        simp only [List.length_map, List.length_take]
        omega
      · rw [upd_same, List.take_add_one, List.getElem?_map, ec]
        simp
  · rintro H2 ⟨hp, fw⟩
    rw [List.take_of_length_le (by rw [List.length_map]; omega)] at hp
    walk_at "evx"
    refine g_any (SqL.of hp) ?_
    walk_at "evx"
    rw [any_map_id]
    exact q _ fw
theorem ok_hopM {q : Str} {c c1 f : Addr} {v : V} {cs : List Cm} {k : Nat} (hn : cs.length ≤ 1000) (T : Txt mg) (C_is_true : Cal P w K mg base "is_true" k ["comparison", "row"] (spIsTrue K)) :
    NCal P w K mg base (k + 1) f (NF.of n_least_meeting_hopeless "hopeless" q [("comparisons", c)] c1) c v (spHop K v (rowD cs) (hopeM cs)) := by
  refine ncal_of nsc_least_meeting_hopeless rfl (fun _ _ _ _ => rfl) fun A outer s H a Q hr h => ?_
  obtain ⟨r, row, e, hR, hv, q⟩ := h
  obtain rfl : a = .ref r := (List.cons.inj e).1
  obtain ⟨l, xs, rfl, hl, hall⟩ := hv.invT
  have hxl := hall.length
  rw [List.length_map] at hxl
  refine ⟨_, (pss_one (ps_ret (pe_callB (cr_any rfl) (by rfl) T.any_ (by decide +kernel) (pa_cons (pe_lc (own := [("one", 2)]) (g := gName 2)  (tt := tYes) rfl nsc_least_meeting_hopeless.nd (pi_tup (pv 1)) (blkOk_by (N := ["row", "comparisons", "one"]) (sc := C8.fnScope n_least_meeting_hopeless) (by decide +kernel)) (fun _ _ _ _ _ => (pg_name (i := 2) nsc_least_meeting_hopeless.nd rfl (Or.inl rfl))) (fun _ _ _ _ _ => pts_nil) (fun _ _ _ _ _ => (pe_cmpR op_isO (pe_cal C_is_true hr (by omega) rfl (pa_cons (pv 2) (pa_cons (pv 0) pa_nil))) pe_bl (nomark _)))) pa_nil)))), ?_⟩
  have e0 : (some (V.ref r) :: some (V.ref l) :: List.replicate (["row", "comparisons", "one"].length - 2) none : L2.St) = [some (V.ref r), some (V.ref l), none] := rfl
  show tRet _ _ (some (V.ref r) :: some (V.ref l) :: List.replicate (["row", "comparisons", "one"].length - 2) none : L2.St) H
  rw [e0]
  walk_at "evx"
  refine ⟨l, rfl, ⟨xs, hl⟩, fun D hD => lw_tup (xs := xs) (fun i H' => H' D = some (.lst (((cs.map fun c => c.no row).take i).map V.bl)) ∧ Fw [] H H') ?_ ?_ ?_ ?_⟩
  · exact ⟨upd_same, Fw.new hD⟩
  · rintro i H' _ ⟨_, fw⟩
    exact fw.sqt hl
  · rintro i x H2 hi ⟨hp, fw⟩
    obtain ⟨d, hd, hRx⟩ := hall.at hi
    rw [List.getElem?_map] at hd
    cases ec : cs[i]? with
    | none => rw [ec] at hd; cases hd
    | some c =>
      rw [ec] at hd
      cases hd
      walk_at "evx"
      refine ⟨rfl, ?_⟩
      walk_at "evx"
      refine ⟨_, _, c, row, rfl, hRx.keep fw.tk, fw.sqt hR, ?_⟩
      have fin : ∀ b : Bool, b = c.no row → ∃ acc, H2 D = some (.lst acc) ∧ acc.length < sizeLine ∧ (upd H2 D (.lst (acc ++ [V.bl b]))) D = some (.lst (((cs.map fun c => c.no row).take (i + 1)).map V.bl)) ∧ Fw [] H (upd H2 D (.lst (acc ++ [V.bl b]))) := fun b eb => by
        refine ⟨_, hp, ?_, ?_, fw.write hp (.inr hD)⟩
        · refine bigl ?_
          simp only [List.length_map, List.length_take]
          omega
        · rw [upd_same, List.take_add_one, List.getElem?_map, ec, eb]
          simp
      cases et : c.tell row with
      | none =>
        dsimp only [OB]
        walk_at "evx"
        exact fin false (by unfold Cm.no; rw [et]; rfl)
      | some y =>
        dsimp only [OB]
        walk_at "evx"
        exact fin _ (by unfold Cm.no; rw [et]; cases y <;> rfl)
  · rintro H2 ⟨hp, fw⟩
    rw [List.take_of_length_le (by rw [List.length_map]; omega)] at hp
    walk_at "evx"
    refine g_any (SqL.of hp) ?_
    walk_at "evx"
    rw [any_map_id]
    exact q _ fw
end
end K50

set_option Elab.async false
set_option maxRecDepth 100000
set_option maxHeartbeats 2000000
set_option pp.deepTerms false
set_option pp.deepTerms.threshold 12
namespace K50
open PySem L2 My NdefX LamX
local macro_rules | `(tactic| walk_at "ne") => `(tactic| first | assumption | (refine Ne.symm ?_; assumption) | exact ne_of_none (by assumption) (by assumption) | exact (ne_of_none (by assumption) (by assumption)).symm)
local macro_rules | `(tactic| walk_at "hp") => `(tactic| first | assumption | exact upd_same | ((refine (upd_ne ?_).trans ?_); (walk_at "ne"); (walk_at "hp")))
local macro_rules | `(tactic| walk_at "sq") => `(tactic| first | assumption | exact SqL.of (by walk_at "hp") | exact SqT.of (by walk_at "hp"))
local macro_rules | `(tactic| walk_at "side") => `(tactic| first
  | ((with_reducible show CDivN _ _); exact ⟨by omega, by omega⟩)
  | ((with_reducible show CPow _ _); exact ⟨by decide, by decide, by decide⟩)
  | ((with_reducible show CMul _ _); first | exact .inl ⟨by omega, by omega⟩ | exact .inr ⟨by omega, by omega⟩)
  | ((show (0 : Int) < _); first | decide | omega))
local macro_rules | `(tactic| walk_at "ev1") => `(tactic| first
  | ((with_reducible refine' g_var ?h ?_); case h => rfl)
  | with_reducible refine' g_c ?_
  | with_reducible refine' g_op ?_
  | with_reducible refine' g_test ?_
  | with_reducible refine' g_blI ?_
  | with_reducible refine' g_B ?_
  | with_reducible refine' g_cons ?_
  | with_reducible refine' g_nil ?_
  | with_reducible refine' g_cb ?_
  | with_reducible refine' g_cal ?_
  | with_reducible refine' g_I0 ?_
  | ((with_reducible refine' g_I ?c ?_); case c => walk_at "side")
  | ((with_reducible refine' g_eq ?h ?_); case h => rfl)
  | ((with_reducible refine' g_ne ?h ?_); case h => rfl)
  | ((with_reducible refine' g_ixL ?h ?e ?_); (case h => walk_at "sq"); (case e => first | exact at0 | exact at1 | exact at2 | assumption | rfl))
  | ((with_reducible refine' g_ixT ?h ?e ?_); (case h => walk_at "sq"); (case e => first | exact at0 | exact at1 | exact at2 | assumption | rfl))
  | with_reducible refine' g_int1 ?_
  | with_reducible refine' g_int1b ?_
  | with_reducible refine' g_seq ?_
  | with_reducible refine' g_asg ?_
  | with_reducible refine' g_asgS ?_
  | ((with_reducible refine' g_setL ?h ?e ?_); (case h => walk_at "hp"); (case e => first | exact at0 | exact at1 | exact at2 | assumption | rfl))
  | with_reducible refine' g_drop ?_
  | with_reducible refine' g_ret ?_
  | with_reducible refine' g_ifS ?_
  | with_reducible refine' g_next ?_
  | with_reducible refine' g_un ?_
  | with_reducible refine' g_U ?_
  | with_reducible refine' g_tup ?_
  | with_reducible refine' g_lst ?_
  | with_reducible refine' g_if ?_
  | with_reducible refine' g_and ?_
  | with_reducible refine' g_or ?_
  | with_reducible refine' g_not ?_
  | with_reducible refine' g_andV ?_
  | with_reducible refine' g_orV ?_
  | with_reducible refine' g_notV ?_
  | with_reducible refine' g_bm ?_
  | with_reducible refine' g_bm0 ?_
  | with_reducible refine' g_isNo ?_
  | with_reducible refine' g_notNo ?_
  | with_reducible refine' g_abs ?_
  | with_reducible refine' g_max ?_
  | with_reducible refine' g_min ?_
  | with_reducible refine' g_sl ?_
  | with_reducible refine' g_noPart ?_
  | with_reducible refine' g_sc2 ?_
  | ((with_reducible refine' g_isi (b := false) ?h ?e ?_); (case h => assumption); (case e => decide +kernel))
  | ((with_reducible refine' g_isi (b := true) ?h ?e ?_); (case h => assumption); (case e => decide +kernel))
  | with_reducible refine' g_yes ?_
  | with_reducible refine' g_part ?_
  | with_reducible refine' g_someI ?_
  | with_reducible refine' g_lc ?_
  | with_reducible refine' g_lstRg ?_
  | with_reducible refine' g_rg1 ?_
  | with_reducible refine' g_asgG ?_
  | ((with_reducible refine' g_gTup ?h ?e ?_); (case h => walk_at "sq"); (case e => first | rfl | assumption))
  | with_reducible refine' g_gCons ?_
  | with_reducible refine' g_gNil ?_
  | with_reducible refine' g_trN ?_
  | with_reducible refine' g_trB ?_
  | with_reducible refine' g_disp ?_
  | with_reducible refine' g_pair ?_
  | with_reducible refine' g_pairN ?_
  | with_reducible refine' g_dget ?_
  | with_reducible refine' iteF ?_
  | with_reducible refine' iteT ?_
  | with_reducible refine' iteNF ?_
  | with_reducible refine' iteNT ?_
  | with_reducible refine' g_brk ?_
  | with_reducible refine' g_cont ?_
  | with_reducible refine' g_for ?_
  | with_reducible refine' g_rng1 ?_
  | with_reducible refine' g_iL ?_
  | with_reducible refine' g_iT ?_
  | with_reducible refine' g_gName ?_
  | ((with_reducible refine' g_lenL ?h ?_); case h => walk_at "sq")
  | ((with_reducible refine' g_lenT ?h ?_); case h => walk_at "sq")
  | ((with_reducible refine' g_tyL ?h ?_); case h => walk_at "sq"))
local macro_rules | `(tactic| walk_at "ev") => `(tactic| repeat walk_at "ev1")
local macro_rules | `(tactic| walk_at "ev2") => `(tactic| first
  | walk_at "ev1"
  | with_reducible refine' g_isOb ?_
  | with_reducible refine' g_isOn ?_
  | with_reducible refine' g_lc2 ?_
  | with_reducible refine' g_ndefM ?_
  | ((with_reducible refine' g_callC ?hR ?_); (case hR => first | exact True.intro | rfl))
  | ((with_reducible refine' g_callH ?h0 ?hf ?_); (case h0 => rfl); (case hf => first | assumption | walk_at "hp")))
local macro_rules | `(tactic| walk_at "evx") => `(tactic| repeat walk_at "ev2")

variable [Tbs]
section
variable {P : Program} {w : World} {K : PySem.W.Frag} {mg : Str → Option Value} {base : Heap}
def ansD : Option (List Int) → PyData
  | none => .none
  | some r => rowT r
def spFirst (K : PySem.W.Frag) (v : V) (rd : PyData) (h : List Int → Bool) (mk : Addr → NF) : Nat → Sp
  | 0 => fun _ _ _ _ => False
  | d + 1 => fun vs H Q _ => ∃ (l r f c1 : Addr) (ns : List Int) (m : Nat) (row : List Int), vs = [.ref l, .int m, .ref r, .ref f] ∧ H l = some (.lst (ns.map V.int)) ∧ SqT K H r (row.map V.int) ∧ Rep K H v rd ∧ H f = some (FnO f (mk c1)) ∧ H c1 = some (CodeO c1 (mk c1).qual) ∧
    row.length ≤ m ∧ m ≤ 3 ∧ m - row.length ≤ d ∧ ∀ (x : V) (H' : Hp), Fw [] H H' → Rep K H' x (ansD (firstRow ns h (m - row.length) row)) → Q x H'
theorem first_len {v : V} {rd : PyData} {h : List Int → Bool} {mk : Addr → NF} {n : Nat} : ∀ vs H Q E, spFirst K v rd h mk n vs H Q E → vs.length = 4 := by
  intro vs H Q E h
  cases n with
  | zero => exact h.elim
  | succ n => obtain ⟨l, r, f, c1, ns, m, row, rfl, _⟩ := h; rfl
theorem findSome_take {α β : Type} (f : α → Option β) {l : List α} {i : Nat} {a : α} (hi : l[i]? = some a) (h : (l.take i).findSome? f = none) : (f a).isSome → l.findSome? f = f a := by
  intro hs
  have e : l = l.take i ++ a :: l.drop (i + 1) := by
    have hlt := (List.getElem?_eq_some_iff.mp hi).1
    have he := (List.getElem?_eq_some_iff.mp hi).2
    rw [← he, List.getElem_cons_drop, List.take_append_drop]
  rw [e, List.findSome?_append, h, List.findSome?_cons]
  cases hf : f a with
  | none => rw [hf] at hs; cases hs
  | some b => rfl
theorem findSome_snoc {α β : Type} (f : α → Option β) {l : List α} {i : Nat} {a : α} (hi : l[i]? = some a) (h : (l.take i).findSome? f = none) (hn : f a = none) : (l.take (i + 1)).findSome? f = none := by
  rw [List.take_add_one, hi, List.findSome?_append, h]
  simp [hn]
theorem ok_first {g c : Addr} {v : V} {rd : PyData} {h : List Int → Bool} {mk : Addr → NF} {fd : FuncData} {k n : Nat} (hmk : ∀ c1, (mk c1).c = c1) (F : Fun K "first_row" "first_row" s_first_row g fd) (T : Txt mg) (b : Binds K fd ["numbers", "many", "row", "hopeless"] []) (m : mg "first_row" = some (.ref g)) (kp : PySem.W.keepIn K (.ref g) = true)
    (G : ∀ f c1, NCal P w K mg base k f (mk c1) c v (spHop K v rd h)) (G1 : FnC P w K mg base (k + n) g fd ["numbers", "many", "row", "hopeless"] c v (spFirst K v rd h mk n)) :
    FnC P w K mg base (k + n + 1) g fd ["numbers", "many", "row", "hopeless"] c v (spFirst K v rd h mk (n + 1)) := by
  refine fnC_of F sc_first_row first_len (fun cdv A outer s H vs Q hr hC h => ?_)
  obtain ⟨l, r, f, c1, ns, mm, row, rfl, hl, hR, hv, hf, hc, h1, h2, h3, q⟩ := h
  refine ⟨_, (pss_cons (ps_if (pt_val (pe_callH (i := 3) (G f c1) hr (by omega) hC rfl rfl (.inl rfl) (pv 2))) (pss_one (ps_ret pe_non)) pss_nil)
      (pss_cons (ps_if (pt_cmpR op_eq (pe_callB cr_len (by rfl) T.len_ PySem.boot_len (pa_cons (pv 2) pa_nil)) (pv 1) (nomark _)) (pss_one (ps_ret (pv 2))) pss_nil)
      (pss_cons (ps_for PassesOwn.never rfl (pi_list (pv 0)) (pg_name (i := 4) sc_first_row.nd rfl (Or.inl rfl)) (pss_cons (ps_set (i := 5) sc_first_row.nd rfl (Or.inl rfl) (pe_callC (R := fun _ => True) G1 hr (by omega) (fun I _ => hC.later rfl I) rfl m kp b (pa_cons (pv 0) (pa_cons (pv 1) (pa_cons (pe_op op_catA (pv 2) (pe_tup (pa_cons (pv 4) pa_nil))) (pa_cons (pv 3) pa_nil))))))
      (pss_one (ps_if (pt_cmpR or_notN (pv 5) pe_non (nomark _)) (pss_one (ps_ret (pv 5))) pss_nil))))
      (pss_one (ps_ret pe_non))))), ?_⟩
  have e0 : start ["numbers", "many", "row", "hopeless", "number", "found"] [.ref l, .int mm, .ref r, .ref f] = [some (.ref l), some (.int mm), some (.ref r), some (.ref f), none, none] := rfl
  rw [e0]
  walk_at "evx"
  refine ⟨hf, by rw [hmk]; exact hc, r, row, rfl, hR, hv, fun H1 fw1 => ?_⟩
  walk_at "evx"
  refine iteB (fun hy => ?_) (fun hn => ?_)
  · walk_at "evx"
    refine q _ _ fw1 ?_
    have e : firstRow ns h (mm - row.length) row = none := by
      cases mm - row.length with
      | zero => unfold firstRow; rw [if_pos hy]
      | succ z => unfold firstRow; rw [if_pos hy]
    rw [e]
    exact .non
  · walk_at "evx"
    have hR1 := fw1.sqt hR
    walk_at "evx"
    refine iteD (fun ce => ?_) (fun ce => ?_)
    · walk_at "evx"
      refine q _ _ fw1 ?_
      have ce := V.int.inj ce
      rw [List.length_map] at ce
      have e : mm - row.length = 0 := by omega
      rw [e]
      unfold firstRow
      rw [if_neg (by rw [hn]; decide)]
      exact .tup hR1 (RepAll.ints row)
    · walk_at "evx"
      have cn : row.length < mm := by
        rcases Nat.lt_or_ge row.length mm with z | z
        · exact z
        · exact absurd (by rw [List.length_map]; congr 1; omega) ce
      obtain ⟨z, ez⟩ : ∃ z, mm - row.length = z + 1 := ⟨mm - row.length - 1, by omega⟩
      rw [ez] at q
      unfold firstRow at q
      rw [if_neg (by rw [hn]; decide)] at q
      refine ⟨l, rfl, ⟨_, SqL.of (fw1.lst hl (by simp))⟩, for_list (xs := ns.map V.int) (fun i σ H' => ∃ (o4 o5 : Option V), σ = [some (.ref l), some (.int mm), some (.ref r), some (.ref f), o4, o5] ∧ Fw [] H H' ∧ (ns.take i).findSome? (fun n => firstRow ns h z (row ++ [n])) = none) ?_ ?_ ?_ ?_⟩
      · exact ⟨_, _, rfl, fw1, rfl⟩
      · rintro i σ H' _ ⟨o4, o5, rfl, fw, _⟩
        exact SqL.of (fw.lst hl (by simp))
      · rintro i x σ H2 hi ⟨o4, o5, rfl, fw, hno⟩
        rw [List.getElem?_map] at hi
        cases en : ns[i]? with
        | none => rw [en] at hi; cases hi
        | some nn =>
          rw [en] at hi
          cases hi
          walk_at "evx"
          refine ⟨by show 1 ≤ sizeLine; decide, fun t ht => ?_⟩
          have fwt : Fw [] H2 (upd H2 t (.tup [V.int nn])) := Fw.new ht
          refine g_catR ((fw.trans fwt).sqt hR) (SqT.of upd_same) ?_ (by simp) fun p H3 hp3 h3e => ?_
          · refine big ?_
            simp only [List.length_map, List.length_cons, List.length_nil]
            omega
          have fw3 : Fw [] H H3 := by
            rcases h3e with rfl | ⟨hp0, rfl⟩
            · exact fw.trans fwt
            · exact (fw.trans fwt).trans (Fw.new hp0)
          walk_at "evx"
          cases n with
          | zero => omega
          | succ n =>
          refine ⟨l, p, f, c1, ns, mm, row ++ [nn], rfl, fw3.lst hl (by simp), ?_, hv.keep fw3.tk, fw3.keep _ _ hf (by simp) (fun ps => fnO_ne ps), fw3.keep _ _ hc (by simp) (fun ps => codeO_ne ps), ?_, h2, ?_, fun x H4 fw4 hx => ?_⟩
          · rw [List.map_append]; exact hp3
          · rw [List.length_append]; simp; omega
          · rw [List.length_append]; simp; omega
          have ez' : mm - (row ++ [nn]).length = z := by rw [List.length_append]; simp; omega
          rw [ez'] at hx
          walk_at "evx"
          cases ef : firstRow ns h z (row ++ [nn]) with
          | none =>
            rw [ef] at hx
            obtain rfl : x = .non := by cases hx; rfl
            walk_at "evx"
            refine iteN (fun n => absurd rfl n) (fun _ => ?_)
            walk_at "evx"
            exact ⟨_, _, rfl, fw3.trans fw4, findSome_snoc _ en hno ef⟩
          | some rr =>
            have hx' := hx
            rw [ef] at hx
            obtain ⟨pa, xs, rfl, _, _⟩ := hx.invT
            walk_at "evx"
            refine iteN (fun _ => ?_) (fun n => by cases n)
            walk_at "evx"
            refine q _ _ (fw3.trans fw4) ?_
            rw [findSome_take _ en hno (by rw [ef]; rfl)]
            exact hx'
      · rintro σ H' ⟨o4, o5, rfl, fw, hno⟩
        rw [List.length_map, List.take_length] at hno
        walk_at "evx"
        refine q _ _ fw ?_
        rw [hno]
        exact .non
theorem first_none {g c : Addr} {v : V} {rd : PyData} {h : List Int → Bool} {mk : Addr → NF} {fd : FuncData} {k : Nat} : FnC P w K mg base k g fd ["numbers", "many", "row", "hopeless"] c v (spFirst K v rd h mk 0) := ⟨fun vs H Q E h => h.elim, fun A outer s H args us vs Q _ _ _ _ _ h => h.elim⟩
theorem ok_first_all {g c : Addr} {v : V} {rd : PyData} {h : List Int → Bool} {mk : Addr → NF} {fd : FuncData} {k : Nat} (hmk : ∀ c1, (mk c1).c = c1) (F : Fun K "first_row" "first_row" s_first_row g fd) (T : Txt mg) (b : Binds K fd ["numbers", "many", "row", "hopeless"] []) (m : mg "first_row" = some (.ref g)) (kp : PySem.W.keepIn K (.ref g) = true)
    (G : ∀ f c1, NCal P w K mg base k f (mk c1) c v (spHop K v rd h)) : ∀ n, FnC P w K mg base (k + n) g fd ["numbers", "many", "row", "hopeless"] c v (spFirst K v rd h mk n)
  | 0 => first_none
  | n + 1 => ok_first hmk F T b m kp G (ok_first_all hmk F T b m kp G n)
end
end K50

set_option Elab.async false
set_option maxRecDepth 100000
set_option maxHeartbeats 2000000
set_option pp.deepTerms false
set_option pp.deepTerms.threshold 12
namespace K50
open PySem L2 My NdefX LamX
local macro_rules | `(tactic| walk_at "ne") => `(tactic| first | assumption | (refine Ne.symm ?_; assumption) | exact ne_of_none (by assumption) (by assumption) | exact (ne_of_none (by assumption) (by assumption)).symm)
local macro_rules | `(tactic| walk_at "hp") => `(tactic| first | assumption | exact upd_same | ((refine (upd_ne ?_).trans ?_); (walk_at "ne"); (walk_at "hp")))
local macro_rules | `(tactic| walk_at "sq") => `(tactic| first | assumption | exact SqL.of (by walk_at "hp") | exact SqT.of (by walk_at "hp"))
local macro_rules | `(tactic| walk_at "side") => `(tactic| first
  | ((with_reducible show CDivN _ _); exact ⟨by omega, by omega⟩)
  | ((with_reducible show CPow _ _); exact ⟨by decide, by decide, by decide⟩)
  | ((with_reducible show CMul _ _); first | exact .inl ⟨by omega, by omega⟩ | exact .inr ⟨by omega, by omega⟩)
  | ((show (0 : Int) < _); first | decide | omega))
local macro_rules | `(tactic| walk_at "ev1") => `(tactic| first
  | ((with_reducible refine' g_var ?h ?_); case h => rfl)
  | with_reducible refine' g_c ?_
  | with_reducible refine' g_op ?_
  | with_reducible refine' g_test ?_
  | with_reducible refine' g_blI ?_
  | with_reducible refine' g_B ?_
  | with_reducible refine' g_cons ?_
  | with_reducible refine' g_nil ?_
  | with_reducible refine' g_cb ?_
  | with_reducible refine' g_cal ?_
  | with_reducible refine' g_I0 ?_
  | ((with_reducible refine' g_I ?c ?_); case c => walk_at "side")
  | ((with_reducible refine' g_eq ?h ?_); case h => rfl)
  | ((with_reducible refine' g_ne ?h ?_); case h => rfl)
  | ((with_reducible refine' g_ixL ?h ?e ?_); (case h => walk_at "sq"); (case e => first | exact at0 | exact at1 | exact at2 | assumption | rfl))
  | ((with_reducible refine' g_ixT ?h ?e ?_); (case h => walk_at "sq"); (case e => first | exact at0 | exact at1 | exact at2 | assumption | rfl))
  | with_reducible refine' g_int1 ?_
  | with_reducible refine' g_int1b ?_
  | with_reducible refine' g_seq ?_
  | with_reducible refine' g_asg ?_
  | with_reducible refine' g_asgS ?_
  | ((with_reducible refine' g_setL ?h ?e ?_); (case h => walk_at "hp"); (case e => first | exact at0 | exact at1 | exact at2 | assumption | rfl))
  | with_reducible refine' g_drop ?_
  | with_reducible refine' g_ret ?_
  | with_reducible refine' g_ifS ?_
  | with_reducible refine' g_next ?_
  | with_reducible refine' g_un ?_
  | with_reducible refine' g_U ?_
  | with_reducible refine' g_tup ?_
  | with_reducible refine' g_lst ?_
  | with_reducible refine' g_if ?_
  | with_reducible refine' g_and ?_
  | with_reducible refine' g_or ?_
  | with_reducible refine' g_not ?_
  | with_reducible refine' g_andV ?_
  | with_reducible refine' g_orV ?_
  | with_reducible refine' g_notV ?_
  | with_reducible refine' g_bm ?_
  | with_reducible refine' g_bm0 ?_
  | with_reducible refine' g_isNo ?_
  | with_reducible refine' g_notNo ?_
  | with_reducible refine' g_abs ?_
  | with_reducible refine' g_max ?_
  | with_reducible refine' g_min ?_
  | with_reducible refine' g_sl ?_
  | with_reducible refine' g_noPart ?_
  | with_reducible refine' g_sc2 ?_
  | ((with_reducible refine' g_isi (b := false) ?h ?e ?_); (case h => assumption); (case e => decide +kernel))
  | ((with_reducible refine' g_isi (b := true) ?h ?e ?_); (case h => assumption); (case e => decide +kernel))
  | with_reducible refine' g_yes ?_
  | with_reducible refine' g_part ?_
  | with_reducible refine' g_someI ?_
  | with_reducible refine' g_lc ?_
  | with_reducible refine' g_lstRg ?_
  | with_reducible refine' g_rg1 ?_
  | with_reducible refine' g_asgG ?_
  | ((with_reducible refine' g_gTup ?h ?e ?_); (case h => walk_at "sq"); (case e => first | rfl | assumption))
  | with_reducible refine' g_gCons ?_
  | with_reducible refine' g_gNil ?_
  | with_reducible refine' g_trN ?_
  | with_reducible refine' g_trB ?_
  | with_reducible refine' g_disp ?_
  | with_reducible refine' g_pair ?_
  | with_reducible refine' g_pairN ?_
  | with_reducible refine' g_dget ?_
  | with_reducible refine' iteF ?_
  | with_reducible refine' iteT ?_
  | with_reducible refine' iteNF ?_
  | with_reducible refine' iteNT ?_
  | with_reducible refine' g_brk ?_
  | with_reducible refine' g_cont ?_
  | with_reducible refine' g_for ?_
  | with_reducible refine' g_rng1 ?_
  | with_reducible refine' g_iL ?_
  | with_reducible refine' g_iT ?_
  | with_reducible refine' g_gName ?_
  | ((with_reducible refine' g_lenL ?h ?_); case h => walk_at "sq")
  | ((with_reducible refine' g_lenT ?h ?_); case h => walk_at "sq")
  | ((with_reducible refine' g_tyL ?h ?_); case h => walk_at "sq"))
local macro_rules | `(tactic| walk_at "ev") => `(tactic| repeat walk_at "ev1")
local macro_rules | `(tactic| walk_at "ev2") => `(tactic| first
  | walk_at "ev1"
  | with_reducible refine' g_isOb ?_
  | with_reducible refine' g_isOn ?_
  | with_reducible refine' g_lc2 ?_
  | with_reducible refine' g_ndefM ?_
  | ((with_reducible refine' g_callC ?hR ?_); (case hR => first | exact True.intro | rfl))
  | ((with_reducible refine' g_callH ?h0 ?hf ?_); (case h0 => rfl); (case hf => first | assumption | walk_at "hp")))
local macro_rules | `(tactic| walk_at "evx") => `(tactic| repeat walk_at "ev2")

variable [Tbs]
section
variable {P : Program} {w : World} {K : PySem.W.Frag} {mg : Str → Option Value} {base : Heap}
def nmF : Nat → Nat → Str := fun _ _ => "least_failing.<locals>.hopeless"
def nmM : Nat → Nat → Str := fun _ _ => "least_meeting.<locals>.hopeless"
def spLeastF (K : PySem.W.Frag) : Sp := fun vs H Q _ => ∃ (l : Addr) (xs : List V) (top : Int) (many : Nat) (rules : List (List Cm)) (C : List Int), vs = [.int top, .int many, .ref l] ∧ SqT K H l xs ∧ RepAll K H xs (rules.map rowD) ∧ 0 ≤ top ∧ top ≤ 999 ∧ many ≤ 3 ∧ (∀ cs ∈ rules, ∀ c ∈ cs, c.Ok many C) ∧ C.length ≤ 4 ∧ rules.flatten.length ≤ 10000 ∧ rules.length ≤ 1000 ∧ TabsN Tbs.T H ∧
  ∀ (x : V) (S : List Int) (H' : Hp), Tried top many rules.flatten S → Fw [] H H' → Rep K H' x (ansD (firstRow S (hopeF rules) many [])) → Q x H'
theorem flatten_snoc {α : Type} {l : List (List α)} {i : Nat} {a : List α} (h : l[i]? = some a) : (l.take (i + 1)).flatten = (l.take i).flatten ++ a := by
  rw [List.take_add_one, h]
  simp
theorem ok_least_failing {f c P0 g : Addr} {fd gd : FuncData} {k : Nat} (F : FunC K "least_failing" "least_failing" s_least_failing f fd c) (T : Txt mg) (TB : TabB base mg c P0) (hm : (P0, nmF) ∈ Tbs.T) (hu : ∀ p ∈ Tbs.T, p.1 = P0 → p.2 = nmF)
    (C_tried_numbers : Cal P w K mg base "tried_numbers" k ["top", "many", "comparisons"] (spTriedL K)) (C_all_true : Cal P w K mg base "all_true" k ["comparisons", "row"] (spAllTrue K))
    (Fg : Fun K "first_row" "first_row" s_first_row g gd) (b : Binds K gd ["numbers", "many", "row", "hopeless"] []) (m : mg "first_row" = some (.ref g)) : FnOk P w K mg base CX0 (k + 6) f fd ["top", "many", "rules"] (spLeastF K) := by
  have kp := Fg.kp
  refine F.ok sc_least_failing (fun vs H Q E h => ?_) (fun A outer s H vs Q E hr h => ?_)
  · obtain ⟨l, xs, top, many, rules, C, rfl, _⟩ := h
    rfl
  obtain ⟨l, xs, top, many, rules, C, rfl, hl, hall, t0, t1, hmany, hok, hC, hfl, hrl, hT, q⟩ := h
  have hxl := hall.length
  rw [List.length_map] at hxl
  have ecl : cloFrom (cellsFrom (s.heap.objs.size + 1) (defScope s_least_failing).names []) (C8.fnScope n_least_failing_hopeless).names [] = [(("rules" : Str), s.heap.objs.size + 1)] := rfl
  have G1 := ok_first_all (P := P) (w := w) (base := base) (c := s.heap.objs.size + 1) (v := .ref l) (mk := fun c1 => NF.of n_least_failing_hopeless "hopeless" "least_failing.<locals>.hopeless" [("rules", s.heap.objs.size + 1)] c1) (fun _ => rfl) Fg T b m kp (fun f c1 => ok_hopF hrl T C_all_true) 4
  refine ⟨_, (pss_cons (ps_set (i := 3) sc_least_failing.nd rfl (Or.inl rfl) (pe_cal C_tried_numbers hr (by omega) rfl (pa_cons (pv 0) (pa_cons (pv 1) (pa_cons (pe_lc2 (own := [("rule", 5), ("one", 6)]) (vs1 := [6]) (g := gName 5) (tt := tYes) (g1 := gName 6) (tt1 := tYes) rfl sc_least_failing.nd (pi_tup (pv 2)) (blkOk_by (N := ["top", "many", "rules", "numbers", "hopeless", "rule", "one"]) (sc := defScope s_least_failing) (by decide +kernel)) (by decide) (fun _ _ _ _ _ => (pg_name (i := 5) sc_least_failing.nd rfl (Or.inl rfl))) (fun _ _ _ _ _ => pts_nil) (fun _ _ _ _ _ => (k_pi_tup (K := K) rfl (pv 5))) (fun _ _ _ _ _ => (pg_name (i := 6) sc_least_failing.nd rfl (Or.inl rfl))) (fun _ _ _ _ _ => pts_nil) (fun _ _ _ _ _ => (pv 6))) pa_nil)))))
      (pss_cons (ps_ndefMS (i := 4) (st := n_least_failing_hopeless) (T := Tbs.T) (nm := nmF) rfl TB rfl hm rfl hu (show ∀ y ∈ (C8.fnScope n_least_failing_hopeless).names, y.2 = .free → (defScope s_least_failing).names.lookup y.1 = some .cell ∨ (defScope s_least_failing).names.lookup y.1 = some .free from by decide +kernel) rfl rfl rfl sc_least_failing.nd rfl (.inl rfl) (.inr rfl))
      (pss_one (ps_ret (pe_callC (R := fun σ => σ[2]? = some (some (V.ref l))) G1 hr (by omega) (fun I h => cap_own (i := 2) (x := "rules") rfl rfl I h) rfl m kp b (pa_cons (pv 3) (pa_cons (pv 1) (pa_cons (pe_tup pa_nil) (pa_cons (pv 4) pa_nil))))))))), ?_⟩
  have e0 : start ["top", "many", "rules", "numbers", "hopeless", "rule", "one"] [.int top, .int many, .ref l] = [some (.int top), some (.int many), some (.ref l), none, none, none, none] := rfl
  rw [e0]
  walk_at "evx"
  refine ⟨l, rfl, ⟨xs, hl⟩, fun D hD => lw_tup (xs := xs) (fun i H' => ∃ ys, H' D = some (.lst ys) ∧ RepAll K H' ys ((rules.take i).flatten.map Cm.d) ∧ Fw [] H H') ?_ ?_ ?_ ?_⟩
  · exact ⟨[], upd_same, .nil, Fw.new hD⟩
  · rintro i H' _ ⟨ys, _, _, fw⟩
    exact fw.sqt hl
  · rintro i x H2 hi ⟨ys, hy, hrep, fw⟩
    obtain ⟨d, hd, hRx⟩ := hall.at hi
    rw [List.getElem?_map] at hd
    cases ec : rules[i]? with
    | none => rw [ec] at hd; cases hd
    | some cs =>
      rw [ec] at hd
      cases hd
      obtain ⟨a, us, rfl, ha, harep⟩ := hRx.invT
      have hal := harep.length
      rw [List.length_map] at hal
      have hin : cs.length ≤ rules.flatten.length := by
        have := flatten_snoc ec
        have h2 : rules.flatten = (rules.take (i + 1)).flatten ++ (rules.drop (i + 1)).flatten := by rw [← List.flatten_append, List.take_append_drop]
        rw [h2, this]
        simp
        omega
      walk_at "evx"
      refine ⟨rfl, ?_⟩
      walk_at "evx"
      refine ⟨a, rfl, ⟨us, fw.sqt ha⟩, lw_tup (xs := us) (fun j H' => ∃ ys, H' D = some (.lst ys) ∧ RepAll K H' ys (((rules.take i).flatten ++ cs.take j).map Cm.d) ∧ Fw [] H H') ?_ ?_ ?_ ?_⟩
      · exact ⟨ys, hy, by simpa using hrep, fw⟩
      · rintro j H' _ ⟨ys, _, _, fw⟩
        exact fw.sqt ha
      · rintro j y H3 hj ⟨ys3, hy3, hrep3, fw3⟩
        obtain ⟨d, hd, hRy⟩ := harep.at hj
        rw [List.getElem?_map] at hd
        cases ec2 : cs[j]? with
        | none => rw [ec2] at hd; cases hd
        | some cm =>
          rw [ec2] at hd
          cases hd
          walk_at "evx"
          refine ⟨rfl, ?_⟩
          walk_at "evx"
          have hlen : ys3.length < sizeLine := by
            rw [hrep3.length, List.length_map]
            refine bigl ?_
            have h2 : rules.flatten = (rules.take (i + 1)).flatten ++ (rules.drop (i + 1)).flatten := by rw [← List.flatten_append, List.take_append_drop]
            have h3 := congrArg List.length h2
            rw [flatten_snoc ec] at h3
            simp only [List.length_append, List.length_take] at h3 ⊢
            omega
          have fw4 := fw3.write hy3 (.inr hD) (ys := ys3 ++ [y])
          have tk4 : Tk H3 (upd H3 D (.lst (ys3 ++ [y]))) := ((Fw.refl [D] H3).write hy3 (.inl (by simp))).tk
          refine ⟨ys3, hy3, hlen, _, upd_same, ?_, fw4⟩
          have er : ((rules.take i).flatten ++ cs.take (j + 1)).map Cm.d = ((rules.take i).flatten ++ cs.take j).map Cm.d ++ [cm.d] := by
            rw [List.take_add_one, ec2]
            simp
          rw [er]
          exact (hrep3.keep tk4).append (.cons (hRy.keep fw4.tk) .nil)
      · rintro H3 ⟨ys3, hy3, hrep3, fw3⟩
        refine ⟨ys3, hy3, ?_, fw3⟩
        rw [flatten_snoc ec]
        rw [hal, List.take_length] at hrep3
        exact hrep3
  · rintro H2 ⟨ys, hy, hrep, fw⟩
    rw [List.take_of_length_le (by omega)] at hrep
    walk_at "evx"
    refine ⟨D, ys, top, many, rules.flatten, C, rfl, SqL.of hy, hrep, t0, t1, hmany, fun cm hcm => ?_, hC, hfl, fun p S H3 hp3 tr hp fw3 => ?_⟩
    · obtain ⟨cs, h1, h2⟩ := List.mem_flatten.mp hcm
      exact hok cs h1 cm h2
    walk_at "evx"
    have hT3 : TabsN Tbs.T H3 := fun q hq => (fw.trans fw3).tn q hq (hT q hq)
    refine ⟨hT3, fun ff c1 H4 eN hnn hT4 hf0 hf1 hc1 => ?_⟩
    have fw4 : Fw [] H3 H4 := Fw.ndef eN hnn hT4
    walk_at "evx"
    refine ⟨by show 0 ≤ sizeLine; decide, fun t ht => ?_⟩
    have fwt : Fw [] H4 (upd H4 t (.tup [])) := Fw.new ht
    walk_at "evx"
    have fwa : Fw [] H (upd H4 t (.tup [])) := ((fw.trans fw3).trans fw4).trans fwt
    refine ⟨p, t, ff, c1, S, many, [], rfl, fwt.lst (fw4.lst hp (by simp)) (by simp), SqT.of upd_same, (Rep.tup hl hall).keep fwa.tk, ?_, ?_, Nat.zero_le _, hmany, ?_, fun x H5 fw5 hx => ?_⟩
    · exact fwt.keep _ _ hf1 (by simp) (fun ps => fnO_ne ps)
    · exact fwt.keep _ _ hc1 (by simp) (fun ps => codeO_ne ps)
    · show many - 0 ≤ 3
      omega
    exact q x S H5 tr (fwa.trans fw5) hx
def spLeastM (K : PySem.W.Frag) : Sp := fun vs H Q _ => ∃ (x : V) (top : Int) (many : Nat) (cs : List Cm) (C : List Int), vs = [.int top, .int many, x] ∧ Rep K H x (rowD cs) ∧ 0 ≤ top ∧ top ≤ 999 ∧ many ≤ 3 ∧ (∀ c ∈ cs, c.Ok many C) ∧ C.length ≤ 4 ∧ cs.length ≤ 1000 ∧ TabsN Tbs.T H ∧
  ∀ (x : V) (S : List Int) (H' : Hp), Tried top many cs S → Fw [] H H' → Rep K H' x (ansD (firstRow S (hopeM cs) many [])) → Q x H'
theorem ok_least_meeting {f c P0 g : Addr} {fd gd : FuncData} {k : Nat} (F : FunC K "least_meeting" "least_meeting" s_least_meeting f fd c) (T : Txt mg) (TB : TabB base mg c P0) (hm : (P0, nmM) ∈ Tbs.T) (hu : ∀ p ∈ Tbs.T, p.1 = P0 → p.2 = nmM)
    (C_tried_numbers : Cal P w K mg base "tried_numbers" k ["top", "many", "comparisons"] (spTriedT K)) (C_is_true : Cal P w K mg base "is_true" k ["comparison", "row"] (spIsTrue K))
    (Fg : Fun K "first_row" "first_row" s_first_row g gd) (b : Binds K gd ["numbers", "many", "row", "hopeless"] []) (m : mg "first_row" = some (.ref g)) : FnOk P w K mg base CX0 (k + 6) f fd ["top", "many", "comparisons"] (spLeastM K) := by
  have kp := Fg.kp
  refine F.ok sc_least_meeting (fun vs H Q E h => ?_) (fun A outer s H vs Q E hr h => ?_)
  · obtain ⟨x, top, many, cs, C, rfl, _⟩ := h
    rfl
  obtain ⟨x, top, many, cs, C, rfl, hx, t0, t1, hmany, hok, hC, hfl, hT, q⟩ := h
  obtain ⟨l, xs, rfl, hl, hall⟩ := hx.invT
  have G1 := ok_first_all (P := P) (w := w) (base := base) (c := s.heap.objs.size + 1) (v := .ref l) (mk := fun c1 => NF.of n_least_meeting_hopeless "hopeless" "least_meeting.<locals>.hopeless" [("comparisons", s.heap.objs.size + 1)] c1) (fun _ => rfl) Fg T b m kp (fun f c1 => ok_hopM hfl T C_is_true) 4
  refine ⟨_, (pss_cons (ps_set (i := 3) sc_least_meeting.nd rfl (Or.inl rfl) (pe_cal C_tried_numbers hr (by omega) rfl (pa_cons (pv 0) (pa_cons (pv 1) (pa_cons (pv 2) pa_nil)))))
      (pss_cons (ps_ndefMS (i := 4) (st := n_least_meeting_hopeless) (T := Tbs.T) (nm := nmM) rfl TB rfl hm rfl hu (show ∀ y ∈ (C8.fnScope n_least_meeting_hopeless).names, y.2 = .free → (defScope s_least_meeting).names.lookup y.1 = some .cell ∨ (defScope s_least_meeting).names.lookup y.1 = some .free from by decide +kernel) rfl rfl rfl sc_least_meeting.nd rfl (.inl rfl) (.inr rfl))
      (pss_one (ps_ret (pe_callC (R := fun σ => σ[2]? = some (some (V.ref l))) G1 hr (by omega) (fun I h => cap_own (i := 2) (x := "comparisons") rfl rfl I h) rfl m kp b (pa_cons (pv 3) (pa_cons (pv 1) (pa_cons (pe_tup pa_nil) (pa_cons (pv 4) pa_nil))))))))), ?_⟩
  have e0 : start ["top", "many", "comparisons", "numbers", "hopeless"] [.int top, .int many, .ref l] = [some (.int top), some (.int many), some (.ref l), none, none] := rfl
  rw [e0]
  walk_at "evx"
  refine ⟨l, xs, top, many, cs, C, rfl, hl, hall, t0, t1, hmany, hok, hC, Nat.le_trans hfl (by decide), fun p S H3 hp3 tr hp fw3 => ?_⟩
  walk_at "evx"
  have hT3 : TabsN Tbs.T H3 := fun q hq => fw3.tn q hq (hT q hq)
  refine ⟨hT3, fun ff c1 H4 eN hnn hT4 hf0 hf1 hc1 => ?_⟩
  have fw4 : Fw [] H3 H4 := Fw.ndef eN hnn hT4
  walk_at "evx"
  refine ⟨by show 0 ≤ sizeLine; decide, fun t ht => ?_⟩
  have fwt : Fw [] H4 (upd H4 t (.tup [])) := Fw.new ht
  walk_at "evx"
  have fwa : Fw [] H (upd H4 t (.tup [])) := (fw3.trans fw4).trans fwt
  refine ⟨p, t, ff, c1, S, many, [], rfl, fwt.lst (fw4.lst hp (by simp)) (by simp), SqT.of upd_same, hx.keep fwa.tk, ?_, ?_, Nat.zero_le _, hmany, ?_, fun x H5 fw5 hx => ?_⟩
  · exact fwt.keep _ _ hf1 (by simp) (fun ps => fnO_ne ps)
  · exact fwt.keep _ _ hc1 (by simp) (fun ps => codeO_ne ps)
  · show many - 0 ≤ 3
    omega
  exact q x S H5 tr (fwa.trans fw5) hx
end
end K50

set_option Elab.async false
set_option maxRecDepth 100000
set_option maxHeartbeats 2000000
set_option pp.deepTerms false
set_option pp.deepTerms.threshold 12
namespace K50
open PySem L2 My NdefX LamX
local macro_rules | `(tactic| walk_at "ne") => `(tactic| first | assumption | (refine Ne.symm ?_; assumption) | exact ne_of_none (by assumption) (by assumption) | exact (ne_of_none (by assumption) (by assumption)).symm)
local macro_rules | `(tactic| walk_at "hp") => `(tactic| first | assumption | exact upd_same | ((refine (upd_ne ?_).trans ?_); (walk_at "ne"); (walk_at "hp")))
local macro_rules | `(tactic| walk_at "sq") => `(tactic| first | assumption | exact SqL.of (by walk_at "hp") | exact SqT.of (by walk_at "hp"))
local macro_rules | `(tactic| walk_at "side") => `(tactic| first
  | ((with_reducible show CDivN _ _); exact ⟨by omega, by omega⟩)
  | ((with_reducible show CPow _ _); exact ⟨by decide, by decide, by decide⟩)
  | ((with_reducible show CMul _ _); first | exact .inl ⟨by omega, by omega⟩ | exact .inr ⟨by omega, by omega⟩)
  | ((show (0 : Int) < _); first | decide | omega))
local macro_rules | `(tactic| walk_at "ev1") => `(tactic| first
  | ((with_reducible refine' g_var ?h ?_); case h => rfl)
  | with_reducible refine' g_c ?_
  | with_reducible refine' g_op ?_
  | with_reducible refine' g_test ?_
  | with_reducible refine' g_blI ?_
  | with_reducible refine' g_B ?_
  | with_reducible refine' g_cons ?_
  | with_reducible refine' g_nil ?_
  | with_reducible refine' g_cb ?_
  | with_reducible refine' g_cal ?_
  | with_reducible refine' g_I0 ?_
  | ((with_reducible refine' g_I ?c ?_); case c => walk_at "side")
  | ((with_reducible refine' g_eq ?h ?_); case h => rfl)
  | ((with_reducible refine' g_ne ?h ?_); case h => rfl)
  | ((with_reducible refine' g_ixL ?h ?e ?_); (case h => walk_at "sq"); (case e => first | exact at0 | exact at1 | exact at2 | assumption | rfl))
  | ((with_reducible refine' g_ixT ?h ?e ?_); (case h => walk_at "sq"); (case e => first | exact at0 | exact at1 | exact at2 | assumption | rfl))
  | with_reducible refine' g_int1 ?_
  | with_reducible refine' g_int1b ?_
  | with_reducible refine' g_seq ?_
  | with_reducible refine' g_asg ?_
  | with_reducible refine' g_asgS ?_
  | ((with_reducible refine' g_setL ?h ?e ?_); (case h => walk_at "hp"); (case e => first | exact at0 | exact at1 | exact at2 | assumption | rfl))
  | with_reducible refine' g_drop ?_
  | with_reducible refine' g_ret ?_
  | with_reducible refine' g_ifS ?_
  | with_reducible refine' g_next ?_
  | with_reducible refine' g_un ?_
  | with_reducible refine' g_U ?_
  | with_reducible refine' g_tup ?_
  | with_reducible refine' g_lst ?_
  | with_reducible refine' g_if ?_
  | with_reducible refine' g_and ?_
  | with_reducible refine' g_or ?_
  | with_reducible refine' g_not ?_
  | with_reducible refine' g_andV ?_
  | with_reducible refine' g_orV ?_
  | with_reducible refine' g_notV ?_
  | with_reducible refine' g_bm ?_
  | with_reducible refine' g_bm0 ?_
  | with_reducible refine' g_isNo ?_
  | with_reducible refine' g_notNo ?_
  | with_reducible refine' g_abs ?_
  | with_reducible refine' g_max ?_
  | with_reducible refine' g_min ?_
  | with_reducible refine' g_sl ?_
  | with_reducible refine' g_noPart ?_
  | with_reducible refine' g_sc2 ?_
  | ((with_reducible refine' g_isi (b := false) ?h ?e ?_); (case h => assumption); (case e => decide +kernel))
  | ((with_reducible refine' g_isi (b := true) ?h ?e ?_); (case h => assumption); (case e => decide +kernel))
  | with_reducible refine' g_yes ?_
  | with_reducible refine' g_part ?_
  | with_reducible refine' g_someI ?_
  | with_reducible refine' g_lc ?_
  | with_reducible refine' g_lstRg ?_
  | with_reducible refine' g_rg1 ?_
  | with_reducible refine' g_asgG ?_
  | ((with_reducible refine' g_gTup ?h ?e ?_); (case h => walk_at "sq"); (case e => first | rfl | assumption))
  | with_reducible refine' g_gCons ?_
  | with_reducible refine' g_gNil ?_
  | with_reducible refine' g_trN ?_
  | with_reducible refine' g_trB ?_
  | with_reducible refine' g_disp ?_
  | with_reducible refine' g_pair ?_
  | with_reducible refine' g_pairN ?_
  | with_reducible refine' g_dget ?_
  | with_reducible refine' iteF ?_
  | with_reducible refine' iteT ?_
  | with_reducible refine' iteNF ?_
  | with_reducible refine' iteNT ?_
  | with_reducible refine' g_brk ?_
  | with_reducible refine' g_cont ?_
  | with_reducible refine' g_for ?_
  | with_reducible refine' g_rng1 ?_
  | with_reducible refine' g_iL ?_
  | with_reducible refine' g_iT ?_
  | with_reducible refine' g_gName ?_
  | ((with_reducible refine' g_lenL ?h ?_); case h => walk_at "sq")
  | ((with_reducible refine' g_lenT ?h ?_); case h => walk_at "sq")
  | ((with_reducible refine' g_tyL ?h ?_); case h => walk_at "sq"))
local macro_rules | `(tactic| walk_at "ev") => `(tactic| repeat walk_at "ev1")
local macro_rules | `(tactic| walk_at "ev2") => `(tactic| first
  | walk_at "ev1"
  | with_reducible refine' g_isOb ?_
  | with_reducible refine' g_isOn ?_
  | with_reducible refine' g_lc2 ?_
  | with_reducible refine' g_ndefM ?_
  | ((with_reducible refine' g_callC ?hR ?_); (case hR => first | exact True.intro | rfl))
  | ((with_reducible refine' g_callH ?h0 ?hf ?_); (case h0 => rfl); (case hf => first | assumption | walk_at "hp")))
local macro_rules | `(tactic| walk_at "evx") => `(tactic| repeat walk_at "ev2")

variable [Tbs]
section
variable {P : Program} {w : World} {K : PySem.W.Frag} {mg : Str → Option Value} {base : Heap}
theorem flat_len {α : Type} {n : Nat} : ∀ {l : List (List α)}, (∀ a ∈ l, a.length ≤ n) → l.flatten.length ≤ l.length * n
  | [], _ => by simp
  | a :: l, h => by
    rw [List.flatten_cons, List.length_append, List.length_cons, Nat.succ_mul]
    have := flat_len (l := l) fun b hb => h b (List.mem_cons_of_mem _ hb)
    have := h a List.mem_cons_self
    omega
theorem find_take {α : Type} (f : α → Bool) {l : List α} {i : Nat} {a : α} (hi : l[i]? = some a) (h : (l.take i).find? f = none) (ht : f a = true) : l.find? f = some a := by
  have hlt := (List.getElem?_eq_some_iff.mp hi).1
  have he := (List.getElem?_eq_some_iff.mp hi).2
  have e : l = l.take i ++ a :: l.drop (i + 1) := by rw [← he, List.getElem_cons_drop, List.take_append_drop]
  rw [e, List.find?_append, h, List.find?_cons, ht]
  rfl
theorem find_snoc {α : Type} (f : α → Bool) {l : List α} {i : Nat} {a : α} (hi : l[i]? = some a) (h : (l.take i).find? f = none) (hn : f a = false) : (l.take (i + 1)).find? f = none := by
  rw [List.take_add_one, hi, List.find?_append, h]
  simp [hn]
theorem dl_ans {o : Option (List Int)} (h : ∀ r, o = some r → r.length ≤ 100000) : Dl 2 (ansD o) := by
  cases o with
  | none => exact .non
  | some r =>
    refine .tup (by rw [List.length_map]; exact h r rfl) fun d hd => ?_
    obtain ⟨i, _, rfl⟩ := List.mem_map.mp hd
    exact .int i
theorem nums_of {top : Int} {many : Nat} {C W S : List Int} {cs : List Cm} (tr : Tried top many cs S) (up : Up W) (bnd : ∀ v ∈ W, 0 ≤ v ∧ v ≤ top) (all : ∀ b ∈ 0 :: C, ∀ j : Nat, j ≤ many → b + j ≤ top → b + j ∈ W) (ok : ∀ c ∈ cs, c.Ok many C) : Nums top many C cs S W := by
  have inC : ∀ b ∈ 0 :: consts cs, b ∈ 0 :: C := fun b hb => by
    rcases List.mem_cons.mp hb with t | t
    · exact t ▸ List.mem_cons_self
    · obtain ⟨c, hc, hbc⟩ := List.mem_flatMap.mp t
      exact List.mem_cons_of_mem _ ((ok c hc).consts b hbc)
  refine ⟨up, tr.up, fun x hx => ?_, bnd, fun b hb j hj ht => (tr.mem _).mpr ⟨b, hb, j, hj, rfl, ht⟩⟩
  obtain ⟨b, hb, j, hj, rfl, ht⟩ := (tr.mem x).mp hx
  exact all b (inC b hb) j hj ht
theorem cut_4 (xs : List V) : cutV xs none (some 4) = xs.take 4 := cut_to xs 4
def spAsked (K : PySem.W.Frag) : Sp := fun vs H Q _ => ∃ (lc lr : Addr) (x : V) (bound : Int) (many : Nat) (C : List Int) (xs : List V) (rules : List (List Cm)) (ms : List Cm), vs = [.int bound, .int many, .ref lc, .ref lr, x] ∧ 0 ≤ bound ∧ bound ≤ 999 ∧ many ≤ 3 ∧ H lc = some (.lst (C.map V.int)) ∧ (∀ c ∈ C, 0 ≤ c) ∧ C.length ≤ 4 ∧
  H lr = some (.lst xs) ∧ RepAll K H xs (rules.map rowD) ∧ RulesOk many C (rules ++ [ms]) ∧ rules.length ≤ 100 ∧ Rep K H x (rowD ms) ∧ TabsN Tbs.T H ∧ ∀ H', Fw [] H H' → Q (.bl true) H'
theorem ok_asked {f : Addr} {fd : FuncData} {k : Nat} (F : Fun K "_law_asked" "_law_asked" s__law_asked f fd) (T : Txt mg)
    (C__law_rows : Cal P w K mg base "_law_rows" k ["bound", "many", "constants"] (spRows K)) (C__law_fails : Cal P w K mg base "_law_fails" k ["rules", "row"] (spFails K)) (C__law_meets : Cal P w K mg base "_law_meets" k ["comparisons", "row"] (spMeets K))
    (C__law_same : Cal P w K mg base "_law_same" 3 ["told", "due"] (spSame K 3)) (C_least_failing : Cal P w K mg base "least_failing" (k + 6) ["top", "many", "rules"] (spLeastF K)) (C_least_meeting : Cal P w K mg base "least_meeting" (k + 6) ["top", "many", "comparisons"] (spLeastM K)) :
    FnOk P w K mg base CX0 (k + 7) f fd ["bound", "many", "constants", "rules", "meeting"] (spAsked K) := by
  refine F.ok sc__law_asked (fun vs H Q E h => ?_) (fun cdv A outer s H vs Q E hr h => ?_)
  · obtain ⟨lc, lr, x, bound, many, C, xs, rules, ms, rfl, _⟩ := h
    rfl
  obtain ⟨lc, lr, x, bound, many, C, xs, rules, ms, rfl, b0, b1, hm, hC, hC0, hCl, hL, hall, hok, hrl, hx, hT, q⟩ := h
  refine ⟨_, (pss_cons (ps_set (i := 5) sc__law_asked.nd rfl (Or.inl rfl) (pe_cal C__law_rows hr (by omega) rfl (pa_cons (pv 0) (pa_cons (pv 1) (pa_cons (pv 2) pa_nil)))))
      (pss_cons (ps_set (i := 6) sc__law_asked.nd rfl (Or.inl rfl) pe_non)
      (pss_cut (ps_for PassesOwn.never rfl (pi_list (pv 5)) (pg_name (i := 7) sc__law_asked.nd rfl (Or.inl rfl)) (pss_one (ps_if (pt_val (pe_cal C__law_fails hr (by omega) rfl (pa_cons (pv 3) (pa_cons (pv 7) pa_nil)))) (pss_cons (ps_set (i := 6) sc__law_asked.nd rfl (Or.inl rfl) (pv 7))
      (pss_one ps_break)) pss_nil)))
      (pss_cons (ps_if (pt_not (pt_val (pe_cal C__law_same hr (by omega) rfl (pa_cons (pe_cal C_least_failing hr (by omega) rfl (pa_cons (pv 0) (pa_cons (pv 1) (pa_cons (pe_callTy cr_tuple (by rfl) T.tuple_ (by decide +kernel) (pa_cons (pv 3) pa_nil)) pa_nil)))) (pa_cons (pv 6) pa_nil))))) (pss_one (ps_ret pe_bl)) pss_nil)
      (pss_cons (ps_for PassesOwn.never rfl (pi_list (pe_op op_cat (pe_slice sl_list (pv 3) po_none (po_some pe_int)) (pe_lst (pa_cons (pv 4) pa_nil)))) (pg_name (i := 8) sc__law_asked.nd rfl (Or.inl rfl)) (pss_cons (ps_set (i := 6) sc__law_asked.nd rfl (Or.inl rfl) pe_non)
      (pss_cut (ps_for PassesOwn.never rfl (pi_list (pv 5)) (pg_name (i := 7) sc__law_asked.nd rfl (Or.inl rfl)) (pss_one (ps_if (pt_val (pe_cal C__law_meets hr (by omega) rfl (pa_cons (pv 8) (pa_cons (pv 7) pa_nil)))) (pss_cons (ps_set (i := 6) sc__law_asked.nd rfl (Or.inl rfl) (pv 7))
      (pss_one ps_break)) pss_nil)))
      (pss_one (ps_if (pt_not (pt_val (pe_cal C__law_same hr (by omega) rfl (pa_cons (pe_cal C_least_meeting hr (by omega) rfl (pa_cons (pv 0) (pa_cons (pv 1) (pa_cons (pv 8) pa_nil)))) (pa_cons (pv 6) pa_nil))))) (pss_one (ps_ret pe_bl)) pss_nil)))))
      (pss_one (ps_ret pe_bl))))))), ?_⟩
  have e0 : start ["bound", "many", "constants", "rules", "meeting", "rows", "due", "row", "comparisons"] [.int bound, .int many, .ref lc, .ref lr, x] = [some (.int bound), some (.int many), some (.ref lc), some (.ref lr), some x, none, none, none, none] := rfl
  rw [e0]
  walk_at "evx"
  refine ⟨lc, bound, many, C, rfl, b0, b1, hm, hC, hC0, hCl, fun l rs W H1 hl0 upW bndW allW hl1 hrows fw1 => ?_⟩
  rw [rowsIt_eq] at hrows
  have hrlen : ∀ r ∈ rowsOver W many, r.length = many := fun r hr => (mem_rowsOver.mp hr).1
  walk_at "evx"
  have hrl1 := hrows.length
  rw [List.length_map] at hrl1
  have hokR : ∀ cs ∈ rules, ∀ c ∈ cs, c.Ok many C := fun cs h => (hok cs (List.mem_append_left _ h)).1
  have hL1 := fw1.lst hL (by simp)
  refine g_cut (fun σ H2 => ∃ (dv : V) (o7 : Option V), σ = [some (.int bound), some (.int many), some (.ref lc), some (.ref lr), some x, some (.ref l), some dv, o7, none] ∧ Rep K H2 dv (ansD ((rowsOver W many).find? (fails rules))) ∧ Fw [] H1 H2) ?_ ?_
  · walk_at "evx"
    refine ⟨l, rfl, ⟨rs, SqL.of hl1⟩, for_list (xs := rs) (fun i σ H' => ∃ (o7 : Option V), σ = [some (.int bound), some (.int many), some (.ref lc), some (.ref lr), some x, some (.ref l), some .non, o7, none] ∧ Fw [] H1 H' ∧ ((rowsOver W many).take i).find? (fails rules) = none) ?_ ?_ ?_ ?_⟩
    · exact ⟨_, rfl, Fw.refl _ _, rfl⟩
    · rintro i σ H' _ ⟨o7, rfl, fw, _⟩
      exact SqL.of (fw.lst hl1 (by simp))
    · rintro i y σ H2 hi ⟨o7, rfl, fw, hno⟩
      obtain ⟨d, hd, hRy⟩ := hrows.at hi
      rw [List.getElem?_map] at hd
      cases er : (rowsOver W many)[i]? with
      | none => rw [er] at hd; cases hd
      | some r =>
        rw [er] at hd
        cases hd
        have hrm := hrlen r (List.mem_of_getElem? er)
        obtain ⟨a, us, rfl, ha, hau⟩ := hRy.invT
        obtain rfl := hau.of_ints
        walk_at "evx"
        have tk := (fw1.trans fw).tk
        refine ⟨lr, a, xs, rules, r, C, rfl, fw.lst hL1 (by simp), hall.keep tk, fw.sqt ha, fun cs hcs c hc => by rw [hrm]; exact hokR cs hcs c hc, fun H3 fw3 => ?_⟩
        walk_at "evx"
        refine iteB (fun hy => ?_) (fun hn => ?_)
        · walk_at "evx"
          refine ⟨_, _, rfl, ?_, fw.trans fw3⟩
          rw [find_take _ er hno hy]
          exact hRy.keep (fw.trans fw3).tk
        · walk_at "evx"
          exact ⟨_, rfl, fw.trans fw3, find_snoc _ er hno hn⟩
    · rintro σ H' ⟨o7, rfl, fw, hno⟩
      rw [hrl1, List.take_length] at hno
      refine ⟨_, _, rfl, ?_, fw⟩
      rw [hno]
      exact .non
  rintro σ H2 ⟨dv, o7, rfl, hdv, fw2⟩
  have hL2 := fw2.lst hL1 (by simp)
  have fw12 := fw1.trans fw2
  walk_at "evx"
  refine g_tupL (SqL.of hL2) fun t ht => ?_
  have fwt : Fw [] H2 (upd H2 t (.tup xs)) := Fw.new ht
  have fwa := fw12.trans fwt
  walk_at "evx"
  have hflat : rules.flatten.length ≤ 10000 := by
    have h1 := flat_len (n := 20) (l := rules) fun a ha => (hok a (List.mem_append_left _ ha)).2
    have h2 : rules.length * 20 ≤ 100 * 20 := Nat.mul_le_mul hrl (Nat.le_refl _)
    omega
  refine ⟨t, xs, bound, many, rules, C, rfl, SqT.of upd_same, hall.keep fwa.tk, b0, b1, hm, hokR, hCl, hflat, by omega, fun q hq => fwa.tn q hq (hT q hq), fun y S H3 tr fw3 hy => ?_⟩
  rw [failing_due (nums_of tr upW bndW allW fun c hc => by
    obtain ⟨cs, h1, h2⟩ := List.mem_flatten.mp hc
    exact hokR cs h1 c h2)] at hy
  have ansL : ∀ f : List Int → Bool, ∀ r, (rowsOver W many).find? f = some r → r.length ≤ 100000 := fun f r h => by
    rw [hrlen r (List.mem_of_find?_eq_some h)]
    omega
  walk_at "evx"
  refine ⟨y, dv, _, rfl, hy, hdv.keep (fwt.trans fw3).tk, dl_ans (ansL _), fun H4 fw4 => ?_⟩
  have fwb : Fw [] H H4 := fwa.trans (fw3.trans fw4)
  have hl4 : H4 l = some (.lst rs) := (((fw2.trans fwt).trans fw3).trans fw4).lst hl1 (by simp)
  walk_at "evx"
  refine g_slL (SqL.of (fwb.lst hL (by simp))) fun p hp => ?_
  rw [cut_4]
  have fwp : Fw [] H4 (upd H4 p (.lst (xs.take 4))) := Fw.new hp
  walk_at "evx"
  refine ⟨by show 1 ≤ sizeLine; decide, fun p2 hp2 => ?_⟩
  have fwp2 : Fw [] (upd H4 p (.lst (xs.take 4))) (upd (upd H4 p (.lst (xs.take 4))) p2 (.lst [x])) := Fw.new hp2
  refine g_cat (fwp2.lst upd_same (by simp)) upd_same (big (by simp; omega)) fun p3 hp3 => ?_
  have fwp3 : Fw [] (upd (upd H4 p (.lst (xs.take 4))) p2 (.lst [x])) (upd (upd (upd H4 p (.lst (xs.take 4))) p2 (.lst [x])) p3 (.lst (xs.take 4 ++ [x]))) := Fw.new hp3
  have fwc := (fwb.trans fwp).trans (fwp2.trans fwp3)
  have fw4c := fwp.trans (fwp2.trans fwp3)
  generalize hH5 : upd (upd (upd H4 p (.lst (xs.take 4))) p2 (.lst [x])) p3 (.lst (xs.take 4 ++ [x])) = H5 at fwc fwp3 fw4c
  have hp5 : H5 p3 = some (.lst (xs.take 4 ++ [x])) := by rw [← hH5]; exact upd_same
  have hl5 := fw4c.lst hl4 (by simp)
  have rep5 : RepAll K H5 (xs.take 4 ++ [x]) ((rules.take 4 ++ [ms]).map rowD) := by
    rw [List.map_append, List.map_take]
    exact ((hall.keep fwc.tk).take 4).append (.cons (hx.keep fwc.tk) .nil)
  have rs5 : RepAll K H5 rs ((rowsOver W many).map rowT) := hrows.keep ((((fw2.trans fwt).trans fw3).trans fw4).trans fw4c).tk
  have hok5 : RulesOk many C (rules.take 4 ++ [ms]) := fun cs h => by
    rcases List.mem_append.mp h with t | t
    · exact hok cs (List.mem_append_left _ (List.mem_of_mem_take t))
    · exact hok cs (List.mem_append_right _ t)
  refine ⟨p3, rfl, ⟨_, SqL.of hp5⟩, for_list (xs := xs.take 4 ++ [x]) (fun i σ H' => ∃ (dv o7 o8 : Option V), σ = [some (.int bound), some (.int many), some (.ref lc), some (.ref lr), some x, some (.ref l), dv, o7, o8] ∧ Fw [] H5 H') ?_ ?_ ?_ ?_⟩
  · exact ⟨_, _, _, rfl, Fw.refl _ _⟩
  · rintro i σ H' _ ⟨_, _, _, rfl, fw⟩
    exact SqL.of (fw.lst hp5 (by simp))
  · rintro i y σ H6 hi ⟨dv0, o70, o80, rfl, fw6⟩
    obtain ⟨d, hd, hRy⟩ := rep5.at hi
    rw [List.getElem?_map] at hd
    cases er : (rules.take 4 ++ [ms])[i]? with
    | none => rw [er] at hd; cases hd
    | some cs =>
      rw [er] at hd
      cases hd
      have hcs := hok5 cs (List.mem_of_getElem? er)
      walk_at "evx"
      refine g_cut (fun σ H2 => ∃ (dv : V) (o7 : Option V), σ = [some (.int bound), some (.int many), some (.ref lc), some (.ref lr), some x, some (.ref l), some dv, o7, some y] ∧ Rep K H2 dv (ansD ((rowsOver W many).find? (meets cs))) ∧ Fw [] H5 H2) ?_ ?_
      · walk_at "evx"
        refine ⟨l, rfl, ⟨rs, SqL.of (fw6.lst hl5 (by simp))⟩, for_list (xs := rs) (fun i σ H' => ∃ (o7 : Option V), σ = [some (.int bound), some (.int many), some (.ref lc), some (.ref lr), some x, some (.ref l), some .non, o7, some y] ∧ Fw [] H5 H' ∧ ((rowsOver W many).take i).find? (meets cs) = none) ?_ ?_ ?_ ?_⟩
        · exact ⟨_, rfl, fw6, rfl⟩
        · rintro i σ H' _ ⟨o7, rfl, fw, _⟩
          exact SqL.of (fw.lst hl5 (by simp))
        · rintro i z σ H7 hi ⟨o7, rfl, fw, hno⟩
          obtain ⟨d, hd, hRz⟩ := rs5.at hi
          rw [List.getElem?_map] at hd
          cases er : (rowsOver W many)[i]? with
          | none => rw [er] at hd; cases hd
          | some r =>
            rw [er] at hd
            cases hd
            have hrm := hrlen r (List.mem_of_getElem? er)
            obtain ⟨a, us, rfl, ha, hau⟩ := hRz.invT
            obtain rfl := hau.of_ints
            walk_at "evx"
            refine ⟨y, a, cs, r, C, rfl, hRy.keep fw.tk, fw.sqt ha, fun c hc => by rw [hrm]; exact hcs.1 c hc, fun H8 fw8 => ?_⟩
            walk_at "evx"
            refine iteB (fun hy => ?_) (fun hn => ?_)
            · walk_at "evx"
              refine ⟨_, _, rfl, ?_, fw.trans fw8⟩
              rw [find_take _ er hno hy]
              exact hRz.keep (fw.trans fw8).tk
            · walk_at "evx"
              exact ⟨_, rfl, fw.trans fw8, find_snoc _ er hno hn⟩
        · rintro σ H' ⟨o7, rfl, fw, hno⟩
          rw [hrl1, List.take_length] at hno
          refine ⟨_, _, rfl, ?_, fw⟩
          rw [hno]
          exact .non
      rintro σ H7 ⟨dv, o7, rfl, hdv, fw7⟩
      walk_at "evx"
      refine ⟨y, bound, many, cs, C, rfl, hRy.keep fw7.tk, b0, b1, hm, hcs.1, hCl, by omega, fun q hq => (fwc.trans fw7).tn q hq (hT q hq), fun u S H8 tr fw8 hu => ?_⟩
      rw [meeting_due (nums_of tr upW bndW allW hcs.1) hcs.1] at hu
      walk_at "evx"
      refine ⟨u, dv, _, rfl, hu, hdv.keep fw8.tk, dl_ans (ansL _), fun H9 fw9 => ?_⟩
      walk_at "evx"
      exact ⟨_, _, _, rfl, fw7.trans (fw8.trans fw9)⟩
  · rintro σ H' ⟨_, _, _, rfl, fw⟩
    walk_at "evx"
    exact q _ (fwc.trans fw)
end
end K50

set_option Elab.async false
set_option maxRecDepth 100000
set_option maxHeartbeats 2000000
set_option pp.deepTerms false
set_option pp.deepTerms.threshold 12
namespace K50
open PySem L2 My NdefX LamX
local macro_rules | `(tactic| walk_at "ne") => `(tactic| first | assumption | (refine Ne.symm ?_; assumption) | exact ne_of_none (by assumption) (by assumption) | exact (ne_of_none (by assumption) (by assumption)).symm)
local macro_rules | `(tactic| walk_at "hp") => `(tactic| first | assumption | exact upd_same | ((refine (upd_ne ?_).trans ?_); (walk_at "ne"); (walk_at "hp")))
local macro_rules | `(tactic| walk_at "sq") => `(tactic| first | assumption | exact SqL.of (by walk_at "hp") | exact SqT.of (by walk_at "hp"))
local macro_rules | `(tactic| walk_at "side") => `(tactic| first
  | ((with_reducible show CDivN _ _); exact ⟨by omega, by omega⟩)
  | ((with_reducible show CPow _ _); exact ⟨by decide, by decide, by decide⟩)
  | ((with_reducible show CMul _ _); first | exact .inl ⟨by omega, by omega⟩ | exact .inr ⟨by omega, by omega⟩)
  | ((show (0 : Int) < _); first | decide | omega))
local macro_rules | `(tactic| walk_at "ev1") => `(tactic| first
  | ((with_reducible refine' g_var ?h ?_); case h => rfl)
  | with_reducible refine' g_c ?_
  | with_reducible refine' g_op ?_
  | with_reducible refine' g_test ?_
  | with_reducible refine' g_blI ?_
  | with_reducible refine' g_B ?_
  | with_reducible refine' g_cons ?_
  | with_reducible refine' g_nil ?_
  | with_reducible refine' g_cb ?_
  | with_reducible refine' g_cal ?_
  | with_reducible refine' g_I0 ?_
  | ((with_reducible refine' g_I ?c ?_); case c => walk_at "side")
  | ((with_reducible refine' g_eq ?h ?_); case h => rfl)
  | ((with_reducible refine' g_ne ?h ?_); case h => rfl)
  | ((with_reducible refine' g_ixL ?h ?e ?_); (case h => walk_at "sq"); (case e => first | exact at0 | exact at1 | exact at2 | assumption | rfl))
  | ((with_reducible refine' g_ixT ?h ?e ?_); (case h => walk_at "sq"); (case e => first | exact at0 | exact at1 | exact at2 | assumption | rfl))
  | with_reducible refine' g_int1 ?_
  | with_reducible refine' g_int1b ?_
  | with_reducible refine' g_seq ?_
  | with_reducible refine' g_asg ?_
  | with_reducible refine' g_asgS ?_
  | ((with_reducible refine' g_setL ?h ?e ?_); (case h => walk_at "hp"); (case e => first | exact at0 | exact at1 | exact at2 | assumption | rfl))
  | with_reducible refine' g_drop ?_
  | with_reducible refine' g_ret ?_
  | with_reducible refine' g_ifS ?_
  | with_reducible refine' g_next ?_
  | with_reducible refine' g_un ?_
  | with_reducible refine' g_U ?_
  | with_reducible refine' g_tup ?_
  | with_reducible refine' g_lst ?_
  | with_reducible refine' g_if ?_
  | with_reducible refine' g_and ?_
  | with_reducible refine' g_or ?_
  | with_reducible refine' g_not ?_
  | with_reducible refine' g_andV ?_
  | with_reducible refine' g_orV ?_
  | with_reducible refine' g_notV ?_
  | with_reducible refine' g_bm ?_
  | with_reducible refine' g_bm0 ?_
  | with_reducible refine' g_isNo ?_
  | with_reducible refine' g_notNo ?_
  | with_reducible refine' g_abs ?_
  | with_reducible refine' g_max ?_
  | with_reducible refine' g_min ?_
  | with_reducible refine' g_sl ?_
  | with_reducible refine' g_noPart ?_
  | with_reducible refine' g_sc2 ?_
  | ((with_reducible refine' g_isi (b := false) ?h ?e ?_); (case h => assumption); (case e => decide +kernel))
  | ((with_reducible refine' g_isi (b := true) ?h ?e ?_); (case h => assumption); (case e => decide +kernel))
  | with_reducible refine' g_yes ?_
  | with_reducible refine' g_part ?_
  | with_reducible refine' g_someI ?_
  | with_reducible refine' g_lc ?_
  | with_reducible refine' g_lstRg ?_
  | with_reducible refine' g_rg1 ?_
  | with_reducible refine' g_asgG ?_
  | ((with_reducible refine' g_gTup ?h ?e ?_); (case h => walk_at "sq"); (case e => first | rfl | assumption))
  | with_reducible refine' g_gCons ?_
  | with_reducible refine' g_gNil ?_
  | with_reducible refine' g_trN ?_
  | with_reducible refine' g_trB ?_
  | with_reducible refine' g_disp ?_
  | with_reducible refine' g_pair ?_
  | with_reducible refine' g_pairN ?_
  | with_reducible refine' g_dget ?_
  | with_reducible refine' iteF ?_
  | with_reducible refine' iteT ?_
  | with_reducible refine' iteNF ?_
  | with_reducible refine' iteNT ?_
  | with_reducible refine' g_brk ?_
  | with_reducible refine' g_cont ?_
  | with_reducible refine' g_for ?_
  | with_reducible refine' g_rng1 ?_
  | with_reducible refine' g_iL ?_
  | with_reducible refine' g_iT ?_
  | with_reducible refine' g_gName ?_
  | ((with_reducible refine' g_lenL ?h ?_); case h => walk_at "sq")
  | ((with_reducible refine' g_lenT ?h ?_); case h => walk_at "sq")
  | ((with_reducible refine' g_tyL ?h ?_); case h => walk_at "sq"))
local macro_rules | `(tactic| walk_at "ev") => `(tactic| repeat walk_at "ev1")
local macro_rules | `(tactic| walk_at "ev2") => `(tactic| first
  | walk_at "ev1"
  | with_reducible refine' g_isOb ?_
  | with_reducible refine' g_isOn ?_
  | with_reducible refine' g_lc2 ?_
  | with_reducible refine' g_ndefM ?_
  | ((with_reducible refine' g_callC ?hR ?_); (case hR => first | exact True.intro | rfl))
  | ((with_reducible refine' g_callH ?h0 ?hf ?_); (case h0 => rfl); (case hf => first | assumption | walk_at "hp")))
local macro_rules | `(tactic| walk_at "evx") => `(tactic| repeat walk_at "ev2")

variable [Tbs]
section
variable {P : Program} {w : World} {K : PySem.W.Frag} {mg : Str → Option Value} {base : Heap}
theorem ne_of_none' {H : Hp} {a b : Addr} {o : HO} (h : H a = some o) (e : H b = none) : b ≠ a := fun z => by rw [z, h] at e; cases e
theorem fw_own {H H1 H2 : Hp} {p : Addr} (a : Fw [] H H1) (hp : H p = none) (b : Fw [p] H1 H2) : Fw [] H H2 :=
  ⟨fun c o h _ n => b.keep c o (a.keep c o h (by simp) n) (fun z => by
    rw [List.mem_singleton] at z
    subst z
    rw [hp] at h
    cases h) n, a.tk.trans b.tk, fun c h => a.tb c (b.tb c h), fun q hq t => b.tn q hq (a.tn q hq t)⟩
theorem cut_from (xs : List V) (k : Nat) : cutV xs (some (k : Int)) none = xs.drop k := by
  unfold cutV
  rw [HT.sIx_none, HT.sIx_nat]
  by_cases h : k ≤ xs.length
  · rw [Nat.min_eq_left h, List.take_of_length_le (by rw [List.length_drop]; exact Nat.le_refl _)]
  · rw [Nat.min_eq_right (by omega), List.drop_length, List.drop_of_length_le (by omega)]
    simp
structure LawSt (K : PySem.W.Frag) (H : Hp) (p lc : Addr) (many : Nat) (C : List Int) (B : Int) (n : Nat) (lr : Addr) (H' : Hp) : Prop where
  ex : ∃ (xs : List V) (rules : List (List Cm)), H' lr = some (.lst xs) ∧ RepAll K H' xs (rules.map rowD) ∧ RulesOk many C rules ∧ rules.length ≤ n
  ne : lr ≠ p
  ne2 : lr ≠ lc
  nl : lc ≠ p
  hl : H lr = none
  con : H' lc = some (.lst (C.map V.int))
  src : Src H' p B
  fw : Fw [] H H'
theorem LawSt.draw {H H1 H2 : Hp} {p lc lr : Addr} {many n : Nat} {C : List Int} {B B' : Int} (s : LawSt K H p lc many C B n lr H1) (hp : H p = none) (f : Fw [p] H1 H2) (hs : Src H2 p B') : LawSt K H p lc many C B' n lr H2 := by
  obtain ⟨xs, rules, h1, h2, h3, h4⟩ := s.ex
  exact ⟨⟨xs, rules, f.lst h1 (by simpa using s.ne), h2.keep f.tk, h3, h4⟩, s.ne, s.ne2, s.nl, s.hl, f.lst s.con (by simpa using s.nl), hs, fw_own s.fw hp f⟩
theorem LawSt.mono {H H1 : Hp} {p lc lr : Addr} {many n n' : Nat} {C : List Int} {B B' : Int} (s : LawSt K H p lc many C B n lr H1) (hB : B ≤ B') (hn : n ≤ n') : LawSt K H p lc many C B' n' lr H1 := by
  obtain ⟨xs, rules, h1, h2, h3, h4⟩ := s.ex
  exact ⟨⟨xs, rules, h1, h2, h3, Nat.le_trans h4 hn⟩, s.ne, s.ne2, s.nl, s.hl, s.con, s.src.mono hB, s.fw⟩
theorem LawSt.push {H H1 : Hp} {p lc lr : Addr} {many n : Nat} {C : List Int} {B : Int} {y : V} {cs : List Cm} (s : LawSt K H p lc many C B n lr H1) (hn : n ≤ 1000) (hy : Rep K H1 y (rowD cs)) (hc : ∀ c ∈ cs, c.Ok many C) (hl : cs.length ≤ 20) :
    ∃ xs, H1 lr = some (.lst xs) ∧ xs.length < sizeLine ∧ LawSt K H p lc many C B (n + 1) lr (upd H1 lr (.lst (xs ++ [y]))) := by
  obtain ⟨xs, rules, h1, h2, h3, h4⟩ := s.ex
  have tk : Tk H1 (upd H1 lr (.lst (xs ++ [y]))) := ((Fw.refl [lr] H1).write h1 (.inl (by simp))).tk
  have len : xs.length = rules.length := by rw [h2.length, List.length_map]
  refine ⟨xs, h1, bigl (by omega), ⟨xs ++ [y], rules ++ [cs], upd_same, ?_, fun c h => ?_, by simp; omega⟩, s.ne, s.ne2, s.nl, s.hl, ?_, ?_, s.fw.write h1 (.inr s.hl)⟩
  · rw [List.map_append]
    exact (h2.keep tk).append (.cons (hy.keep tk) .nil)
  · rcases List.mem_append.mp h with t | t
    · exact h3 c t
    · rw [List.mem_singleton] at t
      subst t
      exact ⟨hc, hl⟩
  · rw [upd_ne s.ne2.symm]
    exact s.con
  · obtain ⟨c, x, z, h, r⟩ := s.src
    exact ⟨c, x, z, by rw [upd_ne s.ne.symm]; exact h, r⟩
def spLaw (K : PySem.W.Frag) : Sp := fun vs H Q _ => ∃ (a : Addr) (ns : List Int), vs = [.ref a] ∧ SqL K H a (ns.map V.int) ∧ ns.length ≤ 63 ∧ TabsN Tbs.T H ∧ ∀ H', Q (.bl true) H'
theorem ok_law {f : Addr} {fd : FuncData} {k : Nat} (F : Fun K "law" "law" s_law f fd) (T : Txt mg)
    (C__law_source : Cal P w K mg base "_law_source" k ["script", "place"] (spSource K)) (C__law_draw : Cal P w K mg base "_law_draw" k ["source", "many"] spDraw)
    (C__law_constants : Cal P w K mg base "_law_constants" k ["source", "top", "most"] spConstants) (C__law_comparisons : Cal P w K mg base "_law_comparisons" k ["source", "many", "constants", "size"] (spComparisons K))
    (C__law_parted : Cal P w K mg base "_law_parted" k ["row"] (spParted K)) (C__law_asked : Cal P w K mg base "_law_asked" k ["bound", "many", "constants", "rules", "meeting"] (spAsked K)) :
    FnOk P w K mg base CX0 (k + 1) f fd ["script"] (spLaw K) := by
  refine F.ok sc_law (fun vs H Q E h => ?_) (fun cdv A outer s H vs Q E hr h => ?_)
  · obtain ⟨a, ns, rfl, _⟩ := h
    rfl
  obtain ⟨a, ns, rfl, hA, hns, hT, q⟩ := h
  refine ⟨_, (pss_cons (ps_set (i := 1) sc_law.nd rfl (Or.inl rfl) (pe_cal C__law_source hr (by omega) rfl (pa_cons (pv 0) (pa_cons pe_int pa_nil))))
      (pss_cons (ps_set (i := 2) sc_law.nd rfl (Or.inl rfl) (pe_cal C__law_draw hr (by omega) rfl (pa_cons (pv 1) (pa_cons pe_int pa_nil))))
      (pss_cons (ps_set (i := 3) sc_law.nd rfl (Or.inl rfl) (pe_cal C__law_draw hr (by omega) rfl (pa_cons (pv 1) (pa_cons pe_int pa_nil))))
      (pss_cut (ps_if (pt_cmpR op_eq (pv 2) pe_int (nomark _)) (pss_one (ps_set (i := 3) sc_law.nd rfl (Or.inl rfl) (pe_op op_mod (pe_callTy cr_int1 (by rfl) T.int_ (by decide +kernel) (pa_cons (pv 3) pa_nil)) pe_int))) pss_nil)
      (pss_cut (ps_if (pt_cmpR op_eq (pe_cal C__law_draw hr (by omega) rfl (pa_cons (pv 1) (pa_cons pe_int pa_nil))) pe_int (nomark _)) (pss_one (ps_set (i := 3) sc_law.nd rfl (Or.inl rfl) (pe_cal C__law_draw hr (by omega) rfl (pa_cons (pv 1) (pa_cons pe_int pa_nil))))) pss_nil)
      (pss_cut (ps_set (i := 4) sc_law.nd rfl (Or.inl rfl) (pe_cal C__law_constants hr (by omega) rfl (pa_cons (pv 1) (pa_cons (pv 3) (pa_cons (pe_op op_sub pe_int (pe_op op_mul pe_int (pe_callTy cr_int1 (by rfl) T.int_ (by decide +kernel) (pa_cons (pe_and (pe_cmpR op_eq (pv 2) pe_int (nomark _)) (pe_one (pe_cmpR op_gt (pv 3) pe_int (nomark _)))) pa_nil)))) pa_nil)))))
      (pss_cons (ps_set (i := 5) sc_law.nd rfl (Or.inl rfl) (pe_lst pa_nil))
      (pss_cut (ps_if (pt_cmpR op_eq (pe_cal C__law_draw hr (by omega) rfl (pa_cons (pv 1) (pa_cons pe_int pa_nil))) pe_int (nomark _)) (pss_cons (ps_set (i := 5) sc_law.nd rfl (Or.inl rfl) (pe_cal C__law_parted hr (by omega) rfl (pa_cons (pe_cal C__law_comparisons hr (by omega) rfl (pa_cons (pv 1) (pa_cons (pv 2) (pa_cons (pv 4) (pa_cons (pe_op op_add pe_int (pe_cal C__law_draw hr (by omega) rfl (pa_cons (pv 1) (pa_cons pe_int pa_nil)))) pa_nil))))) pa_nil)))
      (pss_one (ps_if (pt_cmpR op_eq (pe_cal C__law_draw hr (by omega) rfl (pa_cons (pv 1) (pa_cons pe_int pa_nil))) pe_int (nomark _)) (pss_cons (ps_set (i := 6) sc_law.nd rfl (Or.inl rfl) (pe_cal C__law_draw hr (by omega) rfl (pa_cons (pv 1) (pa_cons (pe_callB cr_len (by rfl) T.len_ PySem.boot_len (pa_cons (pv 5) pa_nil)) pa_nil))))
      (pss_one (ps_set (i := 5) sc_law.nd rfl (Or.inl rfl) (pe_op op_cat (pe_slice sl_list (pv 5) po_none (po_some (pv 6))) (pe_slice sl_list (pv 5) (po_some (pe_op op_add (pv 6) pe_int)) po_none))))) pss_nil))) pss_nil)
      (pss_cons (ps_for PassesOwn.never rfl (pi_range1 (by rfl) T.range_ (pa_cons (pe_cal C__law_draw hr (by omega) rfl (pa_cons (pv 1) (pa_cons pe_int pa_nil))) pa_nil)) (pg_name (i := 7) sc_law.nd rfl (Or.inl rfl)) (pss_one (ps_expr (pe_bm PySem.F.plainAttrs_list PySem.F.slot_list_append PySem.F.type_list_append mt_append (pv 5) (pa_cons (pe_cal C__law_comparisons hr (by omega) rfl (pa_cons (pv 1) (pa_cons (pv 2) (pa_cons (pv 4) (pa_cons (pe_op op_add pe_int (pe_cal C__law_draw hr (by omega) rfl (pa_cons (pv 1) (pa_cons pe_int pa_nil)))) pa_nil))))) pa_nil)))))
      (pss_cut (ps_if (PW.pt (pw_and (pt_cmpR op_lt (pv 2) pe_int (nomark _)) (pw_and1 (pt_cmpR op_eq (pe_cal C__law_draw hr (by omega) rfl (pa_cons (pv 1) (pa_cons pe_int pa_nil))) pe_int (nomark _))))) (pss_one (ps_for PassesOwn.never rfl (pi_range1 (by rfl) T.range_ (pa_cons (pe_cal C__law_draw hr (by omega) rfl (pa_cons (pv 1) (pa_cons pe_int pa_nil))) pa_nil)) (pg_name (i := 7) sc_law.nd rfl (Or.inl rfl)) (pss_one (ps_expr (pe_bm PySem.F.plainAttrs_list PySem.F.slot_list_append PySem.F.type_list_append mt_append (pv 5) (pa_cons (pe_cal C__law_comparisons hr (by omega) rfl (pa_cons (pv 1) (pa_cons (pv 2) (pa_cons (pv 4) (pa_cons (pe_cal C__law_draw hr (by omega) rfl (pa_cons (pv 1) (pa_cons pe_int pa_nil))) pa_nil))))) pa_nil)))))) pss_nil)
      (pss_cut (ps_if (pt_cmpR op_eq (pe_cal C__law_draw hr (by omega) rfl (pa_cons (pv 1) (pa_cons pe_int pa_nil))) pe_int (nomark _)) (pss_one (ps_expr (pe_bm PySem.F.plainAttrs_list PySem.F.slot_list_append PySem.F.type_list_append mt_append (pv 5) (pa_cons (pe_tup pa_nil) pa_nil)))) pss_nil)
      (pss_cons (ps_set (i := 8) sc_law.nd rfl (Or.inl rfl) (pe_cal C__law_comparisons hr (by omega) rfl (pa_cons (pv 1) (pa_cons (pv 2) (pa_cons (pv 4) (pa_cons (pe_cal C__law_draw hr (by omega) rfl (pa_cons (pv 1) (pa_cons pe_int pa_nil))) pa_nil))))))
      (pss_cons (ps_for PassesOwn.never rfl (pi_list (pe_lst (pa_cons (pv 3) (pa_cons (pe_cal C__law_draw hr (by omega) rfl (pa_cons (pv 1) (pa_cons (pe_op op_add (pv 3) pe_int) pa_nil))) (pa_cons (pv 3) pa_nil))))) (pg_name (i := 9) sc_law.nd rfl (Or.inl rfl)) (pss_one (ps_if (pt_not (pt_val (pe_cal C__law_asked hr (by omega) rfl (pa_cons (pv 9) (pa_cons (pv 2) (pa_cons (pv 4) (pa_cons (pv 5) (pa_cons (pv 8) pa_nil)))))))) (pss_one (ps_ret pe_bl)) pss_nil)))
      (pss_one (ps_ret pe_bl))))))))))))))), ?_⟩
  have e0 : start ["script", "source", "many", "top", "constants", "rules", "gone", "k", "meeting", "bound"] [.ref a] = [some (.ref a), none, none, none, none, none, none, none, none, none] := rfl
  rw [e0]
  walk_at "evx"
  refine ⟨a, ns, rfl, hA, hns, fun p hp H1 hs1 fw1 => ?_⟩
  walk_at "evx"
  refine ⟨p, 4, 0, rfl, hs1, by omega, by omega, by omega, fun mi H2 m0 m1 hs2 fw2 => ?_⟩
  obtain ⟨many, rfl⟩ : ∃ n : Nat, mi = (n : Int) := ⟨mi.toNat, by omega⟩
  have f2 := fw_own fw1 hp fw2
  walk_at "evx"
  refine ⟨p, 13, 1, rfl, hs2, by omega, by omega, by omega, fun top0 H3 t0 t1 hs3 fw3 => ?_⟩
  have f3 := fw_own f2 hp fw3
  walk_at "evx"
  refine g_cut (fun σ H' => ∃ top : Int, σ = [some (.ref a), some (.ref p), some (.int many), some (.int top), none, none, none, none, none, none] ∧ 0 ≤ top ∧ top ≤ 999 ∧ Src H' p 10 ∧ Fw [] H H') ?_ ?_
  · walk_at "evx"
    refine iteD (fun c => ?_) (fun c => ?_)
    · walk_at "evx"
      exact ⟨_, rfl, Int.emod_nonneg _ (by omega), by have := Int.emod_lt_of_pos top0 (b := 7) (by omega); omega, hs3.mono (by omega), f3⟩
    · walk_at "evx"
      exact ⟨_, rfl, t0, by omega, hs3.mono (by omega), f3⟩
  rintro σ H4 ⟨top4, rfl, t40, t41, hs4, f4⟩
  refine g_cut (fun σ H' => ∃ top : Int, σ = [some (.ref a), some (.ref p), some (.int many), some (.int top), none, none, none, none, none, none] ∧ 0 ≤ top ∧ top ≤ 999 ∧ Src H' p 20 ∧ Fw [] H H') ?_ ?_
  · walk_at "evx"
    refine ⟨p, 3, 10, rfl, hs4, by omega, by omega, by omega, fun r H5 r0 r1 hs5 fw5 => ?_⟩
    have f5 := fw_own f4 hp fw5
    walk_at "evx"
    refine iteD (fun c => ?_) (fun c => ?_)
    · walk_at "evx"
      refine ⟨p, 1000, 11, rfl, hs5, by omega, by omega, by omega, fun r H6 r0 r1 hs6 fw6 => ?_⟩
      walk_at "evx"
      exact ⟨_, rfl, r0, by omega, hs6.mono (by omega), fw_own f5 hp fw6⟩
    · walk_at "evx"
      exact ⟨_, rfl, t40, t41, hs5.mono (by omega), f5⟩
  rintro σ H5 ⟨top, rfl, t50, t51, hs5, f5⟩
  have most : ∀ b : Bool, 1 ≤ 4 - 2 * (if b then (1 : Int) else 0) ∧ 4 - 2 * (if b then (1 : Int) else 0) ≤ 4 := fun b => by cases b <;> decide
  refine g_cut (fun σ H' => ∃ (lc : Addr) (C : List Int), σ = [some (.ref a), some (.ref p), some (.int many), some (.int top), some (.ref lc), none, none, none, none, none] ∧ C ≠ [] ∧ C.length ≤ 4 ∧ (∀ c ∈ C, 0 ≤ c) ∧ lc ≠ p ∧ H' lc = some (.lst (C.map V.int)) ∧ Src H' p 200 ∧ Fw [] H H') ?_ ?_
  · have fin : ∀ (l : Addr) (ns : List Int) (H' : Hp) (b : Bool), ns ≠ [] → (ns.length : Int) ≤ 4 - 2 * (if b then (1 : Int) else 0) → (∀ n ∈ ns, 0 ≤ n ∧ n ≤ 999) → H' l = some (.lst (ns.map V.int)) → H5 l = none → Src H' p (20 + 100) → Fw [p] H5 H' →
        ∃ (lc : Addr) (C : List Int), [some (V.ref a), some (.ref p), some (.int many), some (.int top), some (.ref l), none, none, none, none, none] = [some (.ref a), some (.ref p), some (.int many), some (.int top), some (.ref lc), none, none, none, none, none] ∧ C ≠ [] ∧ C.length ≤ 4 ∧ (∀ c ∈ C, 0 ≤ c) ∧ lc ≠ p ∧ H' lc = some (.lst (C.map V.int)) ∧ Src H' p 200 ∧ Fw [] H H' := fun l ns H' b h1 h2 h3 h4 h5 h6 h7 =>
      ⟨l, ns, rfl, h1, by have := (most b).2; omega, fun c hc => (h3 c hc).1, hs5.ne h5, h4, h6.mono (by omega), fw_own f5 hp h7⟩
    walk_at "evx"
    refine iteD (fun c => ?_) (fun c => ?_)
    · walk_at "evx"
      exact ⟨p, top, _, 20, rfl, hs5, t50, t51, (most _).1, (most _).2, by omega, fun l ns H' h1 h2 h3 h4 h5 h6 h7 => fin l ns H' _ h1 h2 h3 h4 h5 h6 h7⟩
    · walk_at "evx"
      exact ⟨p, top, _, 20, rfl, hs5, t50, t51, (most _).1, (most _).2, by omega, fun l ns H' h1 h2 h3 h4 h5 h6 h7 => fin l ns H' _ h1 h2 h3 h4 h5 h6 h7⟩
  rintro σ H6 ⟨lc, C, rfl, hC, hCl, hC0, hlp, hlc, hs6, f6⟩
  walk_at "evx"
  refine ⟨by show 0 ≤ sizeLine; decide, fun lr hlr => ?_⟩
  have fwl : Fw [] H6 (upd H6 lr (.lst [])) := Fw.new hlr
  have st0 : LawSt K H p lc many C 200 0 lr (upd H6 lr (.lst [])) := ⟨⟨[], [], upd_same, .nil, fun c h => by simp at h, Nat.le_refl _⟩, hs6.ne hlr, ne_of_none' hlc hlr, hlp, f6.tb _ hlr, fwl.lst hlc (by simp), hs6.fw fwl (by simp), f6.trans fwl⟩
  walk_at "evx"
  refine g_cut (fun σ H' => ∃ (lr : Addr) (o6 : Option V), σ = [some (.ref a), some (.ref p), some (.int many), some (.int top), some (.ref lc), some (.ref lr), o6, none, none, none] ∧ LawSt K H p lc many C 1000 4 lr H') ?_ ?_
  · walk_at "evx"
    refine ⟨p, 2, 200, rfl, st0.src, by omega, by omega, by omega, fun r H7 r0 r1 hs7 fw7 => ?_⟩
    have st7 := st0.draw hp fw7 hs7
    walk_at "evx"
    refine iteD (fun c => ?_) (fun c => ?_)
    · walk_at "evx"
      refine ⟨p, 3, 201, rfl, hs7, by omega, by omega, by omega, fun r H8 r0 r1 hs8 fw8 => ?_⟩
      have st8 := st7.draw hp fw8 hs8
      obtain ⟨rn, rfl⟩ : ∃ n : Nat, r = (n : Int) := ⟨r.toNat, by omega⟩
      walk_at "evx"
      refine ⟨p, lc, many, 1 + rn, C, 202, rfl, hs8, by omega, st8.con, hlp, hC, by omega, by omega, by omega, fun y cs H9 hcl hok hy hs9 fw9 => ?_⟩
      have st9 := st8.draw hp fw9 hs9
      walk_at "evx"
      refine ⟨y, cs, many, C, rfl, hy, hok, by omega, fun l2 xs rules H10 hl2 hl2' hrep hlen hok2 fw10 => ?_⟩
      have hs10 := hs9.fw fw10 (by simp)
      have st10 : LawSt K H p lc many C 402 4 l2 H10 := ⟨⟨xs, rules, hl2', hrep, hok2, by omega⟩, hs9.ne hl2, ne_of_none' st9.con hl2, hlp, st9.fw.tb _ hl2, fw10.lst st9.con (by simp), hs10, st9.fw.trans fw10⟩
      walk_at "evx"
      refine ⟨p, 2, 402, rfl, hs10, by omega, by omega, by omega, fun r H11 r0 r1 hs11 fw11 => ?_⟩
      have st11 := st10.draw hp fw11 hs11
      walk_at "evx"
      refine iteD (fun c => ?_) (fun c => ?_)
      · walk_at "evx"
        have hl11 : H11 l2 = some (.lst xs) := fw11.lst hl2' (by simpa using st10.ne)
        have hxl : xs.length = rules.length := by rw [hrep.length, List.length_map]
        walk_at "evx"
        refine ⟨p, _, 403, rfl, hs11, by omega, by omega, by omega, fun g H12 g0 g1 hs12 fw12 => ?_⟩
        have st12 := st11.draw hp fw12 hs12
        have hl12 : H12 l2 = some (.lst xs) := fw12.lst hl11 (by simpa using st10.ne)
        obtain ⟨gn, rfl⟩ : ∃ n : Nat, g = (n : Int) := ⟨g.toNat, by omega⟩
        walk_at "evx"
        refine g_slL (SqL.of hl12) fun q1 hq1 => ?_
        rw [cut_to]
        have fwA : Fw [] H12 (upd H12 q1 (.lst (xs.take gn))) := Fw.new hq1
        walk_at "evx"
        refine g_slL (SqL.of (fwA.lst hl12 (by simp))) fun q2 hq2 => ?_
        have egn : (gn : Int) + 1 = ((gn + 1 : Nat) : Int) := rfl
        rw [egn, cut_from]
        have fwB : Fw [] (upd H12 q1 (.lst (xs.take gn))) (upd (upd H12 q1 (.lst (xs.take gn))) q2 (.lst (xs.drop (gn + 1)))) := Fw.new hq2
        refine g_cat (fwB.lst upd_same (by simp)) upd_same (big (by simp; omega)) fun q3 hq3 => ?_
        have fwC : Fw [] (upd (upd H12 q1 (.lst (xs.take gn))) q2 (.lst (xs.drop (gn + 1)))) (upd (upd (upd H12 q1 (.lst (xs.take gn))) q2 (.lst (xs.drop (gn + 1)))) q3 (.lst (xs.take gn ++ xs.drop (gn + 1)))) := Fw.new hq3
        have fwD := fwA.trans (fwB.trans fwC)
        have hq3' : H12 q3 = none := (fwA.trans fwB).tb _ hq3
        have repD := hrep.keep ((fw11.tk.trans fw12.tk).trans fwD.tk)
        walk_at "evx"
        refine ⟨q3, _, rfl, ⟨⟨_, rules.take gn ++ rules.drop (gn + 1), upd_same, ?_, fun c h => ?_, ?_⟩, hs12.ne hq3', ne_of_none' st12.con hq3', hlp, st12.fw.tb _ hq3', fwD.lst st12.con (by simp), (hs12.fw fwD (by simp)).mono (by omega), st12.fw.trans fwD⟩⟩
        · rw [List.map_append, List.map_take, List.map_drop]
          exact (repD.take gn).append (repD.drop (gn + 1))
        · rcases List.mem_append.mp h with t | t
          · exact hok2 c (List.mem_of_mem_take t)
          · exact hok2 c (List.mem_of_mem_drop t)
        · simp
          omega
      · walk_at "evx"
        exact ⟨_, _, rfl, st11.mono (by omega) (Nat.le_refl _)⟩
    · walk_at "evx"
      exact ⟨_, _, rfl, st7.mono (by omega) (by omega)⟩
  rintro σ H7 ⟨lr, o6, rfl, st7⟩
  walk_at "evx"
  refine ⟨p, 5, 1000, rfl, st7.src, by omega, by omega, by omega, fun r H8 r0 r1 hs8 fw8 => ?_⟩
  have st8 := st7.draw hp fw8 hs8
  walk_at "evx"
  refine ⟨_, rfl, by omega, by omega, for_range (lo := 0) (n := r.toNat) (fun i σ H' => ∃ (o7 : Option V), σ = [some (.ref a), some (.ref p), some (.int many), some (.int top), some (.ref lc), some (.ref lr), o6, o7, none, none] ∧ LawSt K H p lc many C (1001 + 300 * i) (4 + i) lr H') ⟨_, rfl, st8.mono (by omega) (by omega)⟩ ?_ ?_⟩
  · rintro i σ H9 hi ⟨o7, rfl, st9⟩
    obtain ⟨_, _, hx0, _⟩ := st9.ex
    walk_at "evx"
    refine ⟨p, 3, _, rfl, st9.src, by omega, by omega, by omega, fun r2 H10 r20 r21 hs10 fw10 => ?_⟩
    have st10 := st9.draw hp fw10 hs10
    obtain ⟨rn, rfl⟩ : ∃ n : Nat, r2 = (n : Int) := ⟨r2.toNat, by omega⟩
    walk_at "evx"
    refine ⟨p, lc, many, 1 + rn, C, _, rfl, hs10, by omega, st10.con, hlp, hC, by omega, by omega, by omega, fun y cs H11 hcl hok hy hs11 fw11 => ?_⟩
    have st11 := st10.draw hp fw11 hs11
    obtain ⟨xs, hx1, hx2, st12⟩ := st11.push (by omega) hy hok (by omega)
    walk_at "evx"
    refine g_app hx1 hx2 ?_
    walk_at "evx"
    exact ⟨_, rfl, st12.mono (by omega) (by omega)⟩
  rintro σ H9 ⟨o7, rfl, st9⟩
  have st9 := st9.mono (B' := 3000) (n' := 8) (by omega) (by omega)
  walk_at "evx"
  refine g_cut (fun σ H' => ∃ (o7 : Option V), σ = [some (.ref a), some (.ref p), some (.int many), some (.int top), some (.ref lc), some (.ref lr), o6, o7, none, none] ∧ LawSt K H p lc many C 20000 30 lr H') ?_ ?_
  · walk_at "evx"
    refine iteD (fun c => ?_) (fun c => ?_)
    · walk_at "evx"
      refine ⟨p, 8, 3000, rfl, st9.src, by omega, by omega, by omega, fun r H10 r0 r1 hs10 fw10 => ?_⟩
      have st10 := st9.draw hp fw10 hs10
      walk_at "evx"
      refine iteD (fun c => ?_) (fun c => ?_)
      · walk_at "evx"
        refine ⟨p, 21, 3001, rfl, hs10, by omega, by omega, by omega, fun r H11 r0 r1 hs11 fw11 => ?_⟩
        have st11 := st10.draw hp fw11 hs11
        walk_at "evx"
        refine ⟨_, rfl, by omega, by omega, for_range (lo := 0) (n := r.toNat) (fun i σ H' => ∃ (o7 : Option V), σ = [some (.ref a), some (.ref p), some (.int many), some (.int top), some (.ref lc), some (.ref lr), o6, o7, none, none] ∧ LawSt K H p lc many C (3002 + 300 * i) (8 + i) lr H') ⟨_, rfl, st11.mono (by omega) (by omega)⟩ ?_ ?_⟩
        · rintro i σ H12 hi ⟨o7, rfl, st12⟩
          obtain ⟨_, _, hx0, _⟩ := st12.ex
          walk_at "evx"
          refine ⟨p, 13, _, rfl, st12.src, by omega, by omega, by omega, fun r2 H13 r20 r21 hs13 fw13 => ?_⟩
          have st13 := st12.draw hp fw13 hs13
          obtain ⟨rn, rfl⟩ : ∃ n : Nat, r2 = (n : Int) := ⟨r2.toNat, by omega⟩
          walk_at "evx"
          refine ⟨p, lc, many, rn, C, _, rfl, hs13, by omega, st13.con, hlp, hC, by omega, by omega, by omega, fun y cs H14 hcl hok hy hs14 fw14 => ?_⟩
          have st14 := st13.draw hp fw14 hs14
          obtain ⟨xs, hx1, hx2, st15⟩ := st14.push (by omega) hy hok (by omega)
          walk_at "evx"
          refine g_app hx1 hx2 ?_
          walk_at "evx"
          exact ⟨_, rfl, st15.mono (by omega) (by omega)⟩
        rintro σ H12 ⟨o7, rfl, st12⟩
        exact ⟨_, rfl, st12.mono (by omega) (by omega)⟩
      · walk_at "evx"
        exact ⟨_, rfl, st10.mono (by omega) (by omega)⟩
    · walk_at "evx"
      exact ⟨_, rfl, st9.mono (by omega) (by omega)⟩
  rintro σ H10 ⟨o7, rfl, st10⟩
  refine g_cut (fun σ H' => ∃ (o7 : Option V), σ = [some (.ref a), some (.ref p), some (.int many), some (.int top), some (.ref lc), some (.ref lr), o6, o7, none, none] ∧ LawSt K H p lc many C 20001 31 lr H') ?_ ?_
  · walk_at "evx"
    refine ⟨p, 12, 20000, rfl, st10.src, by omega, by omega, by omega, fun r H11 r0 r1 hs11 fw11 => ?_⟩
    have st11 := st10.draw hp fw11 hs11
    walk_at "evx"
    refine iteD (fun c => ?_) (fun c => ?_)
    · obtain ⟨_, _, hx0, _⟩ := st11.ex
      walk_at "evx"
      refine ⟨by show 0 ≤ sizeLine; decide, fun t ht => ?_⟩
      have fwt : Fw [] H11 (upd H11 t (.tup [])) := Fw.new ht
      have st12 := st11.draw (H2 := upd H11 t (.tup [])) hp (Fw.new ht) (hs11.fw fwt (by simp))
      obtain ⟨xs, hx1, hx2, st13⟩ := st12.push (y := .ref t) (cs := []) (by omega) (.tup (SqT.of upd_same) .nil) (fun c h => by simp at h) (by simp)
      walk_at "evx"
      refine g_app hx1 hx2 ?_
      walk_at "evx"
      exact ⟨_, rfl, st13⟩
    · walk_at "evx"
      exact ⟨_, rfl, st11.mono (by omega) (by omega)⟩
  rintro σ H11 ⟨o7, rfl, st11⟩
  walk_at "evx"
  refine ⟨p, 5, _, rfl, st11.src, by omega, by omega, by omega, fun r2 H12 r20 r21 hs12 fw12 => ?_⟩
  have st12 := st11.draw hp fw12 hs12
  obtain ⟨rn, rfl⟩ : ∃ n : Nat, r2 = (n : Int) := ⟨r2.toNat, by omega⟩
  walk_at "evx"
  refine ⟨p, lc, many, rn, C, _, rfl, hs12, by omega, st12.con, hlp, hC, by omega, by omega, by omega, fun y ms H13 hcl hok hy hs13 fw13 => ?_⟩
  have st13 := st12.draw hp fw13 hs13
  walk_at "evx"
  refine ⟨p, top + 1, _, rfl, hs13, by omega, by omega, by omega, fun b2 H14 b20 b21 hs14 fw14 => ?_⟩
  have st14 := st13.draw hp fw14 hs14
  walk_at "evx"
  refine ⟨by show 3 ≤ sizeLine; decide, fun lb hlb => ?_⟩
  have fwb : Fw [] H14 (upd H14 lb (.lst [.int top, .int b2, .int top])) := Fw.new hlb
  have st15 := st14.draw (H2 := upd H14 lb (.lst [.int top, .int b2, .int top])) hp (Fw.new hlb) (hs14.fw fwb (by simp))
  generalize hH : upd H14 lb (.lst [.int top, .int b2, .int top]) = H15 at fwb st15
  have hlb15 : H15 lb = some (.lst [.int top, .int b2, .int top]) := by rw [← hH]; exact upd_same
  have hy15 := hy.keep (fw14.tk.trans fwb.tk)
  obtain ⟨xs, rules, hx, hall, hrok, hrl⟩ := st15.ex
  refine ⟨lb, rfl, ⟨_, SqL.of hlb15⟩, for_list (xs := [V.int top, .int b2, .int top]) (fun i σ H' => ∃ (o9 : Option V), σ = [some (.ref a), some (.ref p), some (.int many), some (.int top), some (.ref lc), some (.ref lr), o6, o7, some y, o9] ∧ Fw [] H15 H') ?_ ?_ ?_ ?_⟩
  · exact ⟨_, rfl, Fw.refl _ _⟩
  · rintro i σ H' _ ⟨_, rfl, fw⟩
    exact SqL.of (fw.lst hlb15 (by simp))
  · rintro i z σ H16 hi ⟨o9, rfl, fw16⟩
    obtain ⟨bd, rfl, bd0, bd1⟩ : ∃ bd : Int, z = .int bd ∧ 0 ≤ bd ∧ bd ≤ 999 := by
      match i, hi with
      | 0, hi => cases hi; exact ⟨_, rfl, by omega, by omega⟩
      | 1, hi => cases hi; exact ⟨_, rfl, by omega, by omega⟩
      | 2, hi => cases hi; exact ⟨_, rfl, by omega, by omega⟩
      | n + 3, hi => simp at hi
    walk_at "evx"
    refine ⟨lc, lr, y, bd, many, C, xs, rules, ms, rfl, bd0, bd1, by omega, fw16.lst st15.con (by simp), hC0, hCl, fw16.lst hx (by simp), hall.keep fw16.tk, fun cs h => ?_, by omega, hy15.keep fw16.tk, fun q hq => (st15.fw.trans fw16).tn q hq (hT q hq), fun H17 fw17 => ?_⟩
    · rcases List.mem_append.mp h with t | t
      · exact hrok cs t
      · rw [List.mem_singleton] at t
        subst t
        exact ⟨hok, by omega⟩
    walk_at "evx"
    exact ⟨_, rfl, fw16.trans fw17⟩
  · rintro σ H' ⟨_, rfl, fw⟩
    walk_at "evx"
    exact q _
end
end K50

set_option Elab.async false
set_option maxRecDepth 100000
set_option maxHeartbeats 2000000
namespace My
open PySem PySem.Spec L2 LamX NdefX
theorem Cal.up {P : Program} {w : World} {K : PySem.W.Frag} {mg : Str → Option Value} {base : Heap} {x : Str} {k j : Nat} {ps : List Str} {sp : Sp} (C : Cal P w K mg base x k ps sp) (h : k ≤ j := by omega) : Cal P w K mg base x j ps sp := by
  obtain ⟨g, gd, F, b, kp, m⟩ := C.ex
  exact ⟨g, gd, ⟨F.len, fun A outer s H args us vs Q E hr e0 hb r q => F.run A outer s H args us vs Q E (hr.mono h) e0 hb r q⟩, b, kp, m⟩
end My
namespace K50
open PySem PySem.Spec L2 My NdefX LamX PyProof.Rows
theorem all_mk {l : PySem.W.OpenLaw} {w : World} {K : PySem.W.Frag} {h : Heap} {mg : Str → Option Value} {fa PF PM : Addr} (X : K.In h) (G : h.Ns mainGlobals mg) (hfa : mg "law" = some (.ref fa))
    {f0 f1 f2 f3 f4 f5 f6 f7 f8 f9 f10 f11 f12 f13 f14 f15 f16 f17 f18 f19 f20 f21 : Addr}
    {od0 an0 od1 an1 od2 an2 od3 an3 od4 an4 od5 an5 od6 an6 od7 an7 od8 an8 od9 an9 od10 an10 od11 an11 od12 an12 od13 an13 od14 an14 od15 an15 od16 an16 od17 an17 od18 an18 od19 an19 od20 an20 od21 an21 : Option Addr}
    {sl0 sl1 sl2 sl3 sl4 sl5 sl6 sl7 sl8 sl9 sl10 sl11 sl12 sl13 sl14 sl15 sl16 sl17 sl18 sl19 sl20 sl21 : Array (Option Value)}
    {oc0 kV0 dc0 pm0 ct0 oc1 kV1 dc1 pm1 ct1 oc2 kV2 dc2 pm2 ct2 oc3 kV3 dc3 pm3 ct3 oc4 kV4 dc4 pm4 ct4 oc5 kV5 dc5 pm5 ct5 oc6 kV6 dc6 pm6 ct6 oc7 kV7 dc7 pm7 ct7 oc8 kV8 dc8 pm8 ct8 oc9 kV9 dc9 pm9 ct9 oc10 kV10 dc10 pm10 ct10 oc11 kV11 dc11 pm11 ct11 oc12 kV12 dc12 pm12 ct12 oc13 kV13 dc13 pm13 ct13 oc14 kV14 dc14 pm14 ct14 oc15 kV15 dc15 pm15 ct15 oc16 kV16 dc16 pm16 ct16 oc17 kV17 dc17 pm17 ct17 oc18 kV18 dc18 pm18 ct18 oc19 kV19 dc19 pm19 ct19 oc20 kV20 dc20 pm20 ct20 oc21 kV21 dc21 pm21 ct21 : Value}
    {cd0 cd1 cd2 cd3 cd4 cd7 cd8 cd9 cd10 cd11 cd12 cd13 cd14 cd15 cd16 cd17 cd18 cd19 cd20 cd21 : Value}
    {cc5 cc6 : Addr}
    (a0 : PySem.W.nsIn K mainGlobals "operand_at" = some (some (.ref f0))) (l0 : K.lookup f0 = some ⟨oc0, od0, .func (PySem.W.fnOf "operand_at" "operand_at" (defArgs s_operand_at) (defBody s_operand_at) (defScope s_operand_at) .none kV0 dc0 pm0 an0 cd0 ct0), sl0⟩) (c0 : PySem.W.codeIn K cd0 "operand_at" = true) (k0 : PySem.W.keepIn K (.ref f0) = true)
    (a1 : PySem.W.nsIn K mainGlobals "is_true" = some (some (.ref f1))) (l1 : K.lookup f1 = some ⟨oc1, od1, .func (PySem.W.fnOf "is_true" "is_true" (defArgs s_is_true) (defBody s_is_true) (defScope s_is_true) .none kV1 dc1 pm1 an1 cd1 ct1), sl1⟩) (c1 : PySem.W.codeIn K cd1 "is_true" = true) (k1 : PySem.W.keepIn K (.ref f1) = true)
    (a2 : PySem.W.nsIn K mainGlobals "all_true" = some (some (.ref f2))) (l2 : K.lookup f2 = some ⟨oc2, od2, .func (PySem.W.fnOf "all_true" "all_true" (defArgs s_all_true) (defBody s_all_true) (defScope s_all_true) .none kV2 dc2 pm2 an2 cd2 ct2), sl2⟩) (c2 : PySem.W.codeIn K cd2 "all_true" = true) (k2 : PySem.W.keepIn K (.ref f2) = true)
    (a3 : PySem.W.nsIn K mainGlobals "tried_numbers" = some (some (.ref f3))) (l3 : K.lookup f3 = some ⟨oc3, od3, .func (PySem.W.fnOf "tried_numbers" "tried_numbers" (defArgs s_tried_numbers) (defBody s_tried_numbers) (defScope s_tried_numbers) .none kV3 dc3 pm3 an3 cd3 ct3), sl3⟩) (c3 : PySem.W.codeIn K cd3 "tried_numbers" = true) (k3 : PySem.W.keepIn K (.ref f3) = true)
    (a4 : PySem.W.nsIn K mainGlobals "first_row" = some (some (.ref f4))) (l4 : K.lookup f4 = some ⟨oc4, od4, .func (PySem.W.fnOf "first_row" "first_row" (defArgs s_first_row) (defBody s_first_row) (defScope s_first_row) .none kV4 dc4 pm4 an4 cd4 ct4), sl4⟩) (c4 : PySem.W.codeIn K cd4 "first_row" = true) (k4 : PySem.W.keepIn K (.ref f4) = true)
    (a5 : PySem.W.nsIn K mainGlobals "least_failing" = some (some (.ref f5))) (l5 : K.lookup f5 = some ⟨oc5, od5, .func (PySem.W.fnOf "least_failing" "least_failing" (defArgs s_least_failing) (defBody s_least_failing) (defScope s_least_failing) .none kV5 dc5 pm5 an5 (.ref cc5) ct5), sl5⟩) (c5 : PySem.W.codeIn K (.ref cc5) "least_failing" = true) (k5 : PySem.W.keepIn K (.ref f5) = true)
    (a6 : PySem.W.nsIn K mainGlobals "least_meeting" = some (some (.ref f6))) (l6 : K.lookup f6 = some ⟨oc6, od6, .func (PySem.W.fnOf "least_meeting" "least_meeting" (defArgs s_least_meeting) (defBody s_least_meeting) (defScope s_least_meeting) .none kV6 dc6 pm6 an6 (.ref cc6) ct6), sl6⟩) (c6 : PySem.W.codeIn K (.ref cc6) "least_meeting" = true) (k6 : PySem.W.keepIn K (.ref f6) = true)
    (a7 : PySem.W.nsIn K mainGlobals "_law_source" = some (some (.ref f7))) (l7 : K.lookup f7 = some ⟨oc7, od7, .func (PySem.W.fnOf "_law_source" "_law_source" (defArgs s__law_source) (defBody s__law_source) (defScope s__law_source) .none kV7 dc7 pm7 an7 cd7 ct7), sl7⟩) (c7 : PySem.W.codeIn K cd7 "_law_source" = true) (k7 : PySem.W.keepIn K (.ref f7) = true)
    (a8 : PySem.W.nsIn K mainGlobals "_law_draw" = some (some (.ref f8))) (l8 : K.lookup f8 = some ⟨oc8, od8, .func (PySem.W.fnOf "_law_draw" "_law_draw" (defArgs s__law_draw) (defBody s__law_draw) (defScope s__law_draw) .none kV8 dc8 pm8 an8 cd8 ct8), sl8⟩) (c8 : PySem.W.codeIn K cd8 "_law_draw" = true) (k8 : PySem.W.keepIn K (.ref f8) = true)
    (a9 : PySem.W.nsIn K mainGlobals "_law_pick" = some (some (.ref f9))) (l9 : K.lookup f9 = some ⟨oc9, od9, .func (PySem.W.fnOf "_law_pick" "_law_pick" (defArgs s__law_pick) (defBody s__law_pick) (defScope s__law_pick) .none kV9 dc9 pm9 an9 cd9 ct9), sl9⟩) (c9 : PySem.W.codeIn K cd9 "_law_pick" = true) (k9 : PySem.W.keepIn K (.ref f9) = true)
    (a10 : PySem.W.nsIn K mainGlobals "_law_constants" = some (some (.ref f10))) (l10 : K.lookup f10 = some ⟨oc10, od10, .func (PySem.W.fnOf "_law_constants" "_law_constants" (defArgs s__law_constants) (defBody s__law_constants) (defScope s__law_constants) .none kV10 dc10 pm10 an10 cd10 ct10), sl10⟩) (c10 : PySem.W.codeIn K cd10 "_law_constants" = true) (k10 : PySem.W.keepIn K (.ref f10) = true)
    (a11 : PySem.W.nsIn K mainGlobals "_law_operand" = some (some (.ref f11))) (l11 : K.lookup f11 = some ⟨oc11, od11, .func (PySem.W.fnOf "_law_operand" "_law_operand" (defArgs s__law_operand) (defBody s__law_operand) (defScope s__law_operand) .none kV11 dc11 pm11 an11 cd11 ct11), sl11⟩) (c11 : PySem.W.codeIn K cd11 "_law_operand" = true) (k11 : PySem.W.keepIn K (.ref f11) = true)
    (a12 : PySem.W.nsIn K mainGlobals "_law_comparisons" = some (some (.ref f12))) (l12 : K.lookup f12 = some ⟨oc12, od12, .func (PySem.W.fnOf "_law_comparisons" "_law_comparisons" (defArgs s__law_comparisons) (defBody s__law_comparisons) (defScope s__law_comparisons) .none kV12 dc12 pm12 an12 cd12 ct12), sl12⟩) (c12 : PySem.W.codeIn K cd12 "_law_comparisons" = true) (k12 : PySem.W.keepIn K (.ref f12) = true)
    (a13 : PySem.W.nsIn K mainGlobals "_law_opposite" = some (some (.ref f13))) (l13 : K.lookup f13 = some ⟨oc13, od13, .func (PySem.W.fnOf "_law_opposite" "_law_opposite" (defArgs s__law_opposite) (defBody s__law_opposite) (defScope s__law_opposite) .none kV13 dc13 pm13 an13 cd13 ct13), sl13⟩) (c13 : PySem.W.codeIn K cd13 "_law_opposite" = true) (k13 : PySem.W.keepIn K (.ref f13) = true)
    (a14 : PySem.W.nsIn K mainGlobals "_law_parted" = some (some (.ref f14))) (l14 : K.lookup f14 = some ⟨oc14, od14, .func (PySem.W.fnOf "_law_parted" "_law_parted" (defArgs s__law_parted) (defBody s__law_parted) (defScope s__law_parted) .none kV14 dc14 pm14 an14 cd14 ct14), sl14⟩) (c14 : PySem.W.codeIn K cd14 "_law_parted" = true) (k14 : PySem.W.keepIn K (.ref f14) = true)
    (a15 : PySem.W.nsIn K mainGlobals "_law_true" = some (some (.ref f15))) (l15 : K.lookup f15 = some ⟨oc15, od15, .func (PySem.W.fnOf "_law_true" "_law_true" (defArgs s__law_true) (defBody s__law_true) (defScope s__law_true) .none kV15 dc15 pm15 an15 cd15 ct15), sl15⟩) (c15 : PySem.W.codeIn K cd15 "_law_true" = true) (k15 : PySem.W.keepIn K (.ref f15) = true)
    (a16 : PySem.W.nsIn K mainGlobals "_law_meets" = some (some (.ref f16))) (l16 : K.lookup f16 = some ⟨oc16, od16, .func (PySem.W.fnOf "_law_meets" "_law_meets" (defArgs s__law_meets) (defBody s__law_meets) (defScope s__law_meets) .none kV16 dc16 pm16 an16 cd16 ct16), sl16⟩) (c16 : PySem.W.codeIn K cd16 "_law_meets" = true) (k16 : PySem.W.keepIn K (.ref f16) = true)
    (a17 : PySem.W.nsIn K mainGlobals "_law_fails" = some (some (.ref f17))) (l17 : K.lookup f17 = some ⟨oc17, od17, .func (PySem.W.fnOf "_law_fails" "_law_fails" (defArgs s__law_fails) (defBody s__law_fails) (defScope s__law_fails) .none kV17 dc17 pm17 an17 cd17 ct17), sl17⟩) (c17 : PySem.W.codeIn K cd17 "_law_fails" = true) (k17 : PySem.W.keepIn K (.ref f17) = true)
    (a18 : PySem.W.nsIn K mainGlobals "_law_rows" = some (some (.ref f18))) (l18 : K.lookup f18 = some ⟨oc18, od18, .func (PySem.W.fnOf "_law_rows" "_law_rows" (defArgs s__law_rows) (defBody s__law_rows) (defScope s__law_rows) .none kV18 dc18 pm18 an18 cd18 ct18), sl18⟩) (c18 : PySem.W.codeIn K cd18 "_law_rows" = true) (k18 : PySem.W.keepIn K (.ref f18) = true)
    (a19 : PySem.W.nsIn K mainGlobals "_law_same" = some (some (.ref f19))) (l19 : K.lookup f19 = some ⟨oc19, od19, .func (PySem.W.fnOf "_law_same" "_law_same" (defArgs s__law_same) (defBody s__law_same) (defScope s__law_same) .none kV19 dc19 pm19 an19 cd19 ct19), sl19⟩) (c19 : PySem.W.codeIn K cd19 "_law_same" = true) (k19 : PySem.W.keepIn K (.ref f19) = true)
    (a20 : PySem.W.nsIn K mainGlobals "_law_asked" = some (some (.ref f20))) (l20 : K.lookup f20 = some ⟨oc20, od20, .func (PySem.W.fnOf "_law_asked" "_law_asked" (defArgs s__law_asked) (defBody s__law_asked) (defScope s__law_asked) .none kV20 dc20 pm20 an20 cd20 ct20), sl20⟩) (c20 : PySem.W.codeIn K cd20 "_law_asked" = true) (k20 : PySem.W.keepIn K (.ref f20) = true)
    (a21 : PySem.W.nsIn K mainGlobals "law" = some (some (.ref f21))) (l21 : K.lookup f21 = some ⟨oc21, od21, .func (PySem.W.fnOf "law" "law" (defArgs s_law) (defBody s_law) (defScope s_law) .none kV21 dc21 pm21 an21 cd21 ct21), sl21⟩) (c21 : PySem.W.codeIn K cd21 "law" = true) (k21 : PySem.W.keepIn K (.ref f21) = true)
    (z_len : PySem.W.nsIn K mainGlobals "len" = some none)
    (z_int : PySem.W.nsIn K mainGlobals "int" = some none)
    (z_abs : PySem.W.nsIn K mainGlobals "abs" = some none)
    (z_range : PySem.W.nsIn K mainGlobals "range" = some none)
    (z_max : PySem.W.nsIn K mainGlobals "max" = some none)
    (z_min : PySem.W.nsIn K mainGlobals "min" = some none)
    (z_list : PySem.W.nsIn K mainGlobals "list" = some none)
    (z_tuple : PySem.W.nsIn K mainGlobals "tuple" = some none)
    (z_sorted : PySem.W.nsIn K mainGlobals "sorted" = some none)
    (z_any : PySem.W.nsIn K mainGlobals "any" = some none)
    (z_isinstance : PySem.W.nsIn K mainGlobals "isinstance" = some none)
    (z_bool : PySem.W.nsIn K mainGlobals "bool" = some none)
    (z_str : PySem.W.nsIn K mainGlobals "str" = some none)
    (tF : h.get? PF = some { cls := .none, data := .fields #[] }) (tM : h.get? PM = some { cls := .none, data := .fields #[] }) (nF : K.lookup PF = none) (nM : K.lookup PM = none)
    (hF : PySem.W.codeHdIn K cc5 PF = true) (hM : PySem.W.codeHdIn K cc6 PM = true) (hne : PF ≠ PM) :
    LawAtS l w K CX0 18 63 "script" mg fa h := by
  have F_operand_at := fun_mk (st := s_operand_at) l0 c0 k0
  have b_operand_at := F_operand_at.binds (ps := ["operand", "row"]) fun _ _ _ _ _ _ us hl => match us, hl with | [_, _], _ => rfl
  have m_operand_at := PySem.W.mg_of X G a0
  have F_is_true := fun_mk (st := s_is_true) l1 c1 k1
  have b_is_true := F_is_true.binds (ps := ["comparison", "row"]) fun _ _ _ _ _ _ us hl => match us, hl with | [_, _], _ => rfl
  have m_is_true := PySem.W.mg_of X G a1
  have F_all_true := fun_mk (st := s_all_true) l2 c2 k2
  have b_all_true := F_all_true.binds (ps := ["comparisons", "row"]) fun _ _ _ _ _ _ us hl => match us, hl with | [_, _], _ => rfl
  have m_all_true := PySem.W.mg_of X G a2
  have F_tried_numbers := fun_mk (st := s_tried_numbers) l3 c3 k3
  have b_tried_numbers := F_tried_numbers.binds (ps := ["top", "many", "comparisons"]) fun _ _ _ _ _ _ us hl => match us, hl with | [_, _, _], _ => rfl
  have m_tried_numbers := PySem.W.mg_of X G a3
  have F_first_row := fun_mk (st := s_first_row) l4 c4 k4
  have b_first_row := F_first_row.binds (ps := ["numbers", "many", "row", "hopeless"]) fun _ _ _ _ _ _ us hl => match us, hl with | [_, _, _, _], _ => rfl
  have m_first_row := PySem.W.mg_of X G a4
  have F_least_failing := func_mk (st := s_least_failing) l5 c5 k5
  have b_least_failing := F_least_failing.fun.binds (ps := ["top", "many", "rules"]) fun _ _ _ _ _ _ us hl => match us, hl with | [_, _, _], _ => rfl
  have m_least_failing := PySem.W.mg_of X G a5
  have F_least_meeting := func_mk (st := s_least_meeting) l6 c6 k6
  have b_least_meeting := F_least_meeting.fun.binds (ps := ["top", "many", "comparisons"]) fun _ _ _ _ _ _ us hl => match us, hl with | [_, _, _], _ => rfl
  have m_least_meeting := PySem.W.mg_of X G a6
  have F__law_source := fun_mk (st := s__law_source) l7 c7 k7
  have b__law_source := F__law_source.binds (ps := ["script", "place"]) fun _ _ _ _ _ _ us hl => match us, hl with | [_, _], _ => rfl
  have m__law_source := PySem.W.mg_of X G a7
  have F__law_draw := fun_mk (st := s__law_draw) l8 c8 k8
  have b__law_draw := F__law_draw.binds (ps := ["source", "many"]) fun _ _ _ _ _ _ us hl => match us, hl with | [_, _], _ => rfl
  have m__law_draw := PySem.W.mg_of X G a8
  have F__law_pick := fun_mk (st := s__law_pick) l9 c9 k9
  have b__law_pick := F__law_pick.binds (ps := ["source", "row"]) fun _ _ _ _ _ _ us hl => match us, hl with | [_, _], _ => rfl
  have m__law_pick := PySem.W.mg_of X G a9
  have F__law_constants := fun_mk (st := s__law_constants) l10 c10 k10
  have b__law_constants := F__law_constants.binds (ps := ["source", "top", "most"]) fun _ _ _ _ _ _ us hl => match us, hl with | [_, _, _], _ => rfl
  have m__law_constants := PySem.W.mg_of X G a10
  have F__law_operand := fun_mk (st := s__law_operand) l11 c11 k11
  have b__law_operand := F__law_operand.binds (ps := ["source", "many", "constants"]) fun _ _ _ _ _ _ us hl => match us, hl with | [_, _, _], _ => rfl
  have m__law_operand := PySem.W.mg_of X G a11
  have F__law_comparisons := fun_mk (st := s__law_comparisons) l12 c12 k12
  have b__law_comparisons := F__law_comparisons.binds (ps := ["source", "many", "constants", "size"]) fun _ _ _ _ _ _ us hl => match us, hl with | [_, _, _, _], _ => rfl
  have m__law_comparisons := PySem.W.mg_of X G a12
  have F__law_opposite := fun_mk (st := s__law_opposite) l13 c13 k13
  have b__law_opposite := F__law_opposite.binds (ps := ["one"]) fun _ _ _ _ _ _ us hl => match us, hl with | [_], _ => rfl
  have m__law_opposite := PySem.W.mg_of X G a13
  have F__law_parted := fun_mk (st := s__law_parted) l14 c14 k14
  have b__law_parted := F__law_parted.binds (ps := ["row"]) fun _ _ _ _ _ _ us hl => match us, hl with | [_], _ => rfl
  have m__law_parted := PySem.W.mg_of X G a14
  have F__law_true := fun_mk (st := s__law_true) l15 c15 k15
  have b__law_true := F__law_true.binds (ps := ["one", "row"]) fun _ _ _ _ _ _ us hl => match us, hl with | [_, _], _ => rfl
  have m__law_true := PySem.W.mg_of X G a15
  have F__law_meets := fun_mk (st := s__law_meets) l16 c16 k16
  have b__law_meets := F__law_meets.binds (ps := ["comparisons", "row"]) fun _ _ _ _ _ _ us hl => match us, hl with | [_, _], _ => rfl
  have m__law_meets := PySem.W.mg_of X G a16
  have F__law_fails := fun_mk (st := s__law_fails) l17 c17 k17
  have b__law_fails := F__law_fails.binds (ps := ["rules", "row"]) fun _ _ _ _ _ _ us hl => match us, hl with | [_, _], _ => rfl
  have m__law_fails := PySem.W.mg_of X G a17
  have F__law_rows := fun_mk (st := s__law_rows) l18 c18 k18
  have b__law_rows := F__law_rows.binds (ps := ["bound", "many", "constants"]) fun _ _ _ _ _ _ us hl => match us, hl with | [_, _, _], _ => rfl
  have m__law_rows := PySem.W.mg_of X G a18
  have F__law_same := fun_mk (st := s__law_same) l19 c19 k19
  have b__law_same := F__law_same.binds (ps := ["told", "due"]) fun _ _ _ _ _ _ us hl => match us, hl with | [_, _], _ => rfl
  have m__law_same := PySem.W.mg_of X G a19
  have F__law_asked := fun_mk (st := s__law_asked) l20 c20 k20
  have b__law_asked := F__law_asked.binds (ps := ["bound", "many", "constants", "rules", "meeting"]) fun _ _ _ _ _ _ us hl => match us, hl with | [_, _, _, _, _], _ => rfl
  have m__law_asked := PySem.W.mg_of X G a20
  have F_law := fun_mk (st := s_law) l21 c21 k21
  have b_law := F_law.binds (ps := ["script"]) fun _ _ _ _ _ _ us hl => match us, hl with | [_], _ => rfl
  have m_law := PySem.W.mg_of X G a21
  have T : Txt mg := ⟨PySem.W.mg_none_of X G z_len, PySem.W.mg_none_of X G z_int, PySem.W.mg_none_of X G z_abs, PySem.W.mg_none_of X G z_range, PySem.W.mg_none_of X G z_max, PySem.W.mg_none_of X G z_min, PySem.W.mg_none_of X G z_list, PySem.W.mg_none_of X G z_tuple, PySem.W.mg_none_of X G z_sorted, PySem.W.mg_none_of X G z_any, PySem.W.mg_none_of X G z_isinstance, PySem.W.mg_none_of X G z_bool, PySem.W.mg_none_of X G z_str⟩
  have e := hfa.symm.trans m_law
  cases e
  let cs : List (Addr × Addr) := [(cc5, PF), (cc6, PM)]
  letI inst : Tbs := ⟨[(PF, nmF), (PM, nmM)]⟩
  have all : ∀ (A B : Addr × Addr → Prop), True := fun _ _ => True.intro
  refine ⟨PySem.W.fnOf "law" "law" (defArgs s_law) (defBody s_law) (defScope s_law) .none kV21 dc21 pm21 an21 cd21 ct21, cs, spLaw K, ?_, ?_, ?_, fun s v => .of_eq rfl, ?_, fun base hB hN TB => ?_⟩
  · intro p hp
    rcases List.mem_cons.mp hp with rfl | hp
    · exact tF
    · obtain rfl := List.mem_singleton.mp hp
      exact tM
  · intro p hp
    rcases List.mem_cons.mp hp with rfl | hp
    · exact nF
    · obtain rfl := List.mem_singleton.mp hp
      exact nM
  · intro p hp
    rcases List.mem_cons.mp hp with rfl | hp
    · exact PySem.W.codeHd_of_K X hF
    · obtain rfl := List.mem_singleton.mp hp
      exact PySem.W.codeHd_of_K X hM
  · intro H a ns hl _ hT hS
    refine ⟨a, ns, rfl, hS, hl, fun p hp => ?_, fun _ => rfl⟩
    have hp : p ∈ [(PF, nmF), (PM, nmM)] := hp
    rcases List.mem_cons.mp hp with rfl | hp
    · exact .nil (hT (cc5, PF) List.mem_cons_self)
    · obtain rfl := List.mem_singleton.mp hp
      exact .nil (hT (cc6, PM) (List.mem_cons_of_mem _ List.mem_cons_self))
  have TBF := TB (cc5, PF) List.mem_cons_self
  have TBM := TB (cc6, PM) (List.mem_cons_of_mem _ List.mem_cons_self)
  have C_draw : Cal l.prog w K mg base "_law_draw" 9 ["source", "many"] spDraw := (Fun.cal F__law_draw b__law_draw m__law_draw (ok_draw (k := 0) F__law_draw T)).up
  have C_source : Cal l.prog w K mg base "_law_source" 17 ["script", "place"] (spSource K) := (Fun.cal F__law_source b__law_source m__law_source (ok_source (k := 0) F__law_source T)).up
  have C_pick : Cal l.prog w K mg base "_law_pick" 10 ["source", "row"] (spPick K) := Fun.cal F__law_pick b__law_pick m__law_pick (ok_pick F__law_pick T C_draw)
  have C_constants : Cal l.prog w K mg base "_law_constants" 11 ["source", "top", "most"] spConstants := Fun.cal F__law_constants b__law_constants m__law_constants (ok_constants F__law_constants T C_draw.up C_pick)
  have C_operand : Cal l.prog w K mg base "_law_operand" 11 ["source", "many", "constants"] (spOperand K) := Fun.cal F__law_operand b__law_operand m__law_operand (ok_operand F__law_operand T C_draw.up C_pick)
  have C_comparisons : Cal l.prog w K mg base "_law_comparisons" 12 ["source", "many", "constants", "size"] (spComparisons K) := Fun.cal F__law_comparisons b__law_comparisons m__law_comparisons (ok_comparisons F__law_comparisons T C_pick.up C_operand)
  have C_operand_at : Cal l.prog w K mg base "operand_at" 1 ["operand", "row"] (spOperandAt K) := Fun.cal F_operand_at b_operand_at m_operand_at (ok_operand_at F_operand_at T)
  have C_is_true : Cal l.prog w K mg base "is_true" 2 ["comparison", "row"] (spIsTrue K) := Fun.cal F_is_true b_is_true m_is_true (ok_is_true F_is_true C_operand_at)
  have C_all_true : Cal l.prog w K mg base "all_true" 3 ["comparisons", "row"] (spAllTrue K) := Fun.cal F_all_true b_all_true m_all_true (ok_all_true F_all_true C_is_true)
  have C_true : Cal l.prog w K mg base "_law_true" 1 ["one", "row"] (spTrue K) := Fun.cal F__law_true b__law_true m__law_true (ok_true F__law_true)
  have C_meets : Cal l.prog w K mg base "_law_meets" 2 ["comparisons", "row"] (spMeets K) := Fun.cal F__law_meets b__law_meets m__law_meets (ok_meets F__law_meets C_true)
  have C_fails : Cal l.prog w K mg base "_law_fails" 3 ["rules", "row"] (spFails K) := Fun.cal F__law_fails b__law_fails m__law_fails (ok_fails F__law_fails C_meets)
  have C_opposite : Cal l.prog w K mg base "_law_opposite" 1 ["one"] (spOpposite K) := Fun.cal F__law_opposite b__law_opposite m__law_opposite (ok_opposite F__law_opposite)
  have C_parted : Cal l.prog w K mg base "_law_parted" 2 ["row"] (spParted K) := Fun.cal F__law_parted b__law_parted m__law_parted (ok_parted F__law_parted T C_opposite)
  have C_rows : Cal l.prog w K mg base "_law_rows" 1 ["bound", "many", "constants"] (spRows K) := Fun.cal F__law_rows b__law_rows m__law_rows (ok_rows F__law_rows T)
  have C_same : Cal l.prog w K mg base "_law_same" 3 ["told", "due"] (spSame K 3) := Fun.cal F__law_same b__law_same m__law_same (ok_same_all F__law_same T b__law_same m__law_same 3)
  have C_triedT : Cal l.prog w K mg base "tried_numbers" 1 ["top", "many", "comparisons"] (spTriedT K) := Fun.cal F_tried_numbers b_tried_numbers m_tried_numbers (ok_triedT F_tried_numbers T)
  have C_triedL : Cal l.prog w K mg base "tried_numbers" 1 ["top", "many", "comparisons"] (spTriedL K) := Fun.cal F_tried_numbers b_tried_numbers m_tried_numbers (ok_triedL F_tried_numbers T)
  have hmF : (PF, nmF) ∈ Tbs.T := List.mem_cons_self
  have hmM : (PM, nmM) ∈ Tbs.T := List.mem_cons_of_mem _ List.mem_cons_self
  have huF : ∀ p ∈ Tbs.T, p.1 = PF → p.2 = nmF := fun p hp e => by
    have hp : p ∈ [(PF, nmF), (PM, nmM)] := hp
    rcases List.mem_cons.mp hp with rfl | hp
    · rfl
    · obtain rfl := List.mem_singleton.mp hp
      exact absurd e.symm hne
  have huM : ∀ p ∈ Tbs.T, p.1 = PM → p.2 = nmM := fun p hp e => by
    have hp : p ∈ [(PF, nmF), (PM, nmM)] := hp
    rcases List.mem_cons.mp hp with rfl | hp
    · exact absurd e hne
    · obtain rfl := List.mem_singleton.mp hp
      rfl
  have C_least_failing : Cal l.prog w K mg base "least_failing" 9 ["top", "many", "rules"] (spLeastF K) := Fun.cal F_least_failing.fun b_least_failing m_least_failing (ok_least_failing (k := 3) F_least_failing T TBF hmF huF C_triedL.up C_all_true F_first_row b_first_row m_first_row)
  have C_least_meeting : Cal l.prog w K mg base "least_meeting" 9 ["top", "many", "comparisons"] (spLeastM K) := Fun.cal F_least_meeting.fun b_least_meeting m_least_meeting (ok_least_meeting (k := 3) F_least_meeting T TBM hmM huM C_triedT.up C_is_true.up F_first_row b_first_row m_first_row)
  have C_asked : Cal l.prog w K mg base "_law_asked" 10 ["bound", "many", "constants", "rules", "meeting"] (spAsked K) := Fun.cal F__law_asked b__law_asked m__law_asked (ok_asked (k := 3) F__law_asked T C_rows.up C_fails C_meets.up C_same C_least_failing C_least_meeting)
  exact ok_law (k := 17) F_law T C_source C_draw.up C_constants.up C_comparisons.up C_parted.up C_asked.up
end K50
open PySem PySem.W PyProof.Rows
set_option maxRecDepth 100000 in
set_option maxHeartbeats 0 in
theorem PySem.Challenge.cw_meaningmill_k50_numbers_holds : PySem.Challenge.rw_meaningmill_k50_numbers.Holds := by
  w_on; o_law; k_head; (case hw => w_witness2)
  k_fill
  refine LamX.walk_ofTs (l := PySem.Challenge.rw_meaningmill_k50_numbers) (n := 63) (k := 18) (x := "script") (CX := fun _ => L2.CX0) rfl (by decide) rfl ⟨rfl, by decide, by decide⟩ (fun w h Y => PySem.W.km_in_of Y) ?F (fun _ _ _ _ _ z => z)
  case F =>
    intro w mg fa h Y KX G hmg
    have TB := PySem.W.km_tabs_of Y
    refine' K50.all_mk (PF := 49) (PM := 54) KX G hmg ?a0 ?l0 ?c0 ?k0 ?a1 ?l1 ?c1 ?k1 ?a2 ?l2 ?c2 ?k2 ?a3 ?l3 ?c3 ?k3 ?a4 ?l4 ?c4 ?k4 ?a5 ?l5 ?c5 ?k5 ?a6 ?l6 ?c6 ?k6 ?a7 ?l7 ?c7 ?k7 ?a8 ?l8 ?c8 ?k8 ?a9 ?l9 ?c9 ?k9 ?a10 ?l10 ?c10 ?k10 ?a11 ?l11 ?c11 ?k11 ?a12 ?l12 ?c12 ?k12 ?a13 ?l13 ?c13 ?k13 ?a14 ?l14 ?c14 ?k14 ?a15 ?l15 ?c15 ?k15 ?a16 ?l16 ?c16 ?k16 ?a17 ?l17 ?c17 ?k17 ?a18 ?l18 ?c18 ?k18 ?a19 ?l19 ?c19 ?k19 ?a20 ?l20 ?c20 ?k20 ?a21 ?l21 ?c21 ?k21 ?z_len ?z_int ?z_abs ?z_range ?z_max ?z_min ?z_list ?z_tuple ?z_sorted ?z_any ?z_isinstance ?z_bool ?z_str ?tF ?tM ?nF ?nM ?hF ?hM ?hne
    (case a0 => k_is)
    (case l0 => k_is)
    (case c0 => k_is)
    (case k0 => k_is)
    (case a1 => k_is)
    (case l1 => k_is)
    (case c1 => k_is)
    (case k1 => k_is)
    (case a2 => k_is)
    (case l2 => k_is)
    (case c2 => k_is)
    (case k2 => k_is)
    (case a3 => k_is)
    (case l3 => k_is)
    (case c3 => k_is)
    (case k3 => k_is)
    (case a4 => k_is)
    (case l4 => k_is)
    (case c4 => k_is)
    (case k4 => k_is)
    (case a5 => k_is)
    (case l5 => k_is)
    (case c5 => k_is)
    (case k5 => k_is)
    (case a6 => k_is)
    (case l6 => k_is)
    (case c6 => k_is)
    (case k6 => k_is)
    (case a7 => k_is)
    (case l7 => k_is)
    (case c7 => k_is)
    (case k7 => k_is)
    (case a8 => k_is)
    (case l8 => k_is)
    (case c8 => k_is)
    (case k8 => k_is)
    (case a9 => k_is)
    (case l9 => k_is)
    (case c9 => k_is)
    (case k9 => k_is)
    (case a10 => k_is)
    (case l10 => k_is)
    (case c10 => k_is)
    (case k10 => k_is)
    (case a11 => k_is)
    (case l11 => k_is)
    (case c11 => k_is)
    (case k11 => k_is)
    (case a12 => k_is)
    (case l12 => k_is)
    (case c12 => k_is)
    (case k12 => k_is)
    (case a13 => k_is)
    (case l13 => k_is)
    (case c13 => k_is)
    (case k13 => k_is)
    (case a14 => k_is)
    (case l14 => k_is)
    (case c14 => k_is)
    (case k14 => k_is)
    (case a15 => k_is)
    (case l15 => k_is)
    (case c15 => k_is)
    (case k15 => k_is)
    (case a16 => k_is)
    (case l16 => k_is)
    (case c16 => k_is)
    (case k16 => k_is)
    (case a17 => k_is)
    (case l17 => k_is)
    (case c17 => k_is)
    (case k17 => k_is)
    (case a18 => k_is)
    (case l18 => k_is)
    (case c18 => k_is)
    (case k18 => k_is)
    (case a19 => k_is)
    (case l19 => k_is)
    (case c19 => k_is)
    (case k19 => k_is)
    (case a20 => k_is)
    (case l20 => k_is)
    (case c20 => k_is)
    (case k20 => k_is)
    (case a21 => k_is)
    (case l21 => k_is)
    (case c21 => k_is)
    (case k21 => k_is)
    (case z_len => k_is)
    (case z_int => k_is)
    (case z_abs => k_is)
    (case z_range => k_is)
    (case z_max => k_is)
    (case z_min => k_is)
    (case z_list => k_is)
    (case z_tuple => k_is)
    (case z_sorted => k_is)
    (case z_any => k_is)
    (case z_isinstance => k_is)
    (case z_bool => k_is)
    (case z_str => k_is)
    (case tF => exact TB _ (by decide))
    (case tM => exact TB _ (by decide))
    (case nF => kernel_rfl)
    (case nM => kernel_rfl)
    (case hF => kernel_rfl)
    (case hM => kernel_rfl)
    (case hne => decide)
